/-
  Greedy shares: the reference's walk.
-/
import Derived.Test.YtmhaclhcllndeaaGreedyP
import Derived.Test.YtmhaclhcllndeaaDrawInts
import Derived.Deep.AppendLies
namespace Go.Proofs.Ytmhaclhcllndeaa
open Go.RowKit
set_option linter.unusedSimpArgs false
set_option linter.unusedVariables false

theorem vShare_zero (zs : List Int) (cs : List CallQ) : vShare zs cs (List.replicate cs.length 0) = vSh zs cs := by
  unfold vShare
  cases hv : vSh zs cs
  · rfl
  · obtain ⟨⟨m1, m2⟩, hall⟩ := vFl_iff.1 (vSh_iff.1 hv).1
    have : allB (List.replicate cs.length 0) 0 ((zs.length : Int) - 1) = true := allB_iff.2 fun x hx => by
      have := List.eq_of_mem_replicate hx
      omega
    rw [this]
    simp
def FrB (a b : World) : Prop := Below a.heap.size a b
theorem Blk.frB {a b : World} {g : Nat} {t : TypeId} {cs : Array Value} (h : FrB a b) (hx : Blk a g t cs) : Blk b g t cs := Blk.below hx h hx.lt
def FrG (a b : World) (g : Nat) : Prop := a.grownBy b (some g)
theorem Blk.frG {a b : World} {g g' : Nat} {t : TypeId} {cs : Array Value} (h : FrG a b g') (hne : g ≠ g') (hx : Blk a g t cs) : Blk b g t cs := hx.grown h (fun e => hne (Option.some.inj e))
theorem retJ_row {w' : World} {B n c : Nat} {A : Option Addr} {e : TypeId} {size : Nat} {xs : List Value} (hA : A ≠ none) (ho : w'.ownsRow B e size (.slice A n c) n xs) : ∃ g, A = some ⟨g, 0, none⟩ ∧ B ≤ g ∧ g < w'.heap.size := by
  rcases ho.2 with ⟨h, _⟩ | ⟨g, cap, cur, hv, hb, hg, _⟩
  · injection h with h
    exact absurd h hA
  · injection hv with hv
    exact ⟨g, hv, hb, (Array.getElem?_eq_some_iff.1 hg).1⟩
set_option maxHeartbeats 8000000 in
theorem GreedyShare_s (A1 A2 : Option Addr) (n1 c1 n2 c2 : Nat) (zs : List Int) (cs : List CallQ) (w : World) (hn1 : n1 ≤ 1048576) (hn2 : n2 ≤ 1048576) (hc2 : A2 = none ∧ c2 = 0 ∨ n2 ≤ c2)
    (h1 : RdI w .i64 A1 n1 zs) (h2 : RdC w A2 n2 cs) :
    Calls Try.prog 22 #[.slice A1 n1 c1, .slice A2 n2 c2] w (RetI w (grdK zs cs)) := by
  have Hl1 := hide h1.len
  have Hl2 := hide h2.len
  have H1 := hide h1
  have H2 := hide h2
  clear h1 h2
  obtain ⟨i0, hi0, iz0, iz1, iz2⟩ := info_parts int_info
  obtain ⟨bv, hbv⟩ : ∃ b, vSh zs cs = b := ⟨_, rfl⟩
  have Hbv := hide hbv
  have Hbs := hide (show vShare zs cs (List.replicate n2 0) = bv by rw [← Hl2.out, vShare_zero]; exact Hbv.out)
  clear hbv
  go_enter Try.func22, Try.ntmps22
  go_wp2_with (at_make; refine wpList_make_full _ rfl _ _ 22 rfl w.heap.size 3 i0 (.int .i64 0) 1 Try.underlying22 hi0 iz0 iz1 _ _ _ _ n2 rfl rfl rfl rfl (by rw [iz2]; omega) (by unfold maxLen; omega) (Nat.le_refl _) ?_; intro w1 hown hgrow)
  have q1 : (madeCells (Value.cells (.int .i64 0)) (n2 * 1)).toList = List.replicate n2 (.int .i64 0) := by rw [Nat.mul_one]; exact toList_madeCells_one _ _
  rw [q1] at hown
  have hb := below_of_only hgrow (Nat.le_refl _) (by intro k hk; cases hk)
  have RZ := hide (show RdI w1 .i64 (some ⟨w.heap.size, 0, none⟩) n2 (List.replicate n2 0) from by have h := Rd.of_own hown; unfold RdI; rw [List.map_replicate]; exact h)
  have R1 := hide (RdI.below H1.out hb (Nat.le_refl _))
  have R2 := hide (RdC.below H2.out hb (Nat.le_refl _))
  have hz1 := hb.size
  have Hb1 := hide hb
  clear hown hgrow q1 hb
  go_wp2_with fail
  refine (validShare_any A1 A2 (some ⟨w.heap.size, 0, none⟩) n1 c1 n2 c2 n2 n2 zs cs (List.replicate n2 0) bv _ hn1 hn2 hn2 R1.out R2.out RZ.out Hbs.out).mono ?_
  rintro e w2 ⟨rfl, hb⟩
  have S1 := hide (RdI.below R1.out hb (Nat.le_refl _))
  have S2 := hide (RdC.below R2.out hb (Nat.le_refl _))
  have hz2 := hb.size
  have Hb2 := hide (Hb1.out.trans (hb.mono hz1))
  clear hb R1 R2 RZ H1 H2
  cases bv
  · have e1 := hide (show grdK zs cs = [] from if_neg (by rw [Hbv.out]; simp))
    have Done := hide (show ∀ w', Below w.heap.size w w' → RetI w (grdK zs cs) (.returned (.slice none 0 0)) w' from fun w' h => ⟨none, 0, 0, rfl, by rw [e1.out]; exact World.ownsRow_nil _ _ _ _, h⟩)
    go_wp2_with fail
    go_ret
    exact Done.out _ Hb2.out
  obtain ⟨hv1, hv2, hv3⟩ := vSh_iff.1 Hbv.out
  obtain ⟨⟨m1, m2⟩, hall⟩ := vFl_iff.1 hv1
  have hn1a : 1 ≤ n1 := by have := Hl1.out; omega
  have hn1b : n1 ≤ 3 := by have := Hl1.out; omega
  have hn2b : n2 ≤ 6 := by have := Hl2.out; omega
  have e1 := hide (show grdK zs cs = grd n1 (newF zs) cs by unfold grdK; rw [if_pos Hbv.out, Hl1.out])
  have Hv3 := hide hv3
  have Hall := hide hall
  have hlit := World.ownsRow_lit (e := 3) (size := 1) (base := w2.heap.size) w2 #[] 0 (Nat.le_refl _) (by unfold maxLen; omega) rfl
  have Hlit := hide hlit
  clear hv1 hv2 hv3 m1 m2 hall hlit
  go_wp2_with fail
  go_loopw [5, 6] (fun v i wr => ∃ (k : Nat) (sh : List Int), k ≤ n2 ∧ i = .int .i64 k ∧ sh.length = k ∧ Hid (grd n1 (newF zs) (cs.take k) = sh) ∧ Hid (Below w2.heap.size w2 wr) ∧ Hid (wr.ownsRow w2.heap.size 3 1 v k (sh.map (Value.int .i64)))) (fun _ i _ => n2 - (intOf i).toNat)
  case atStart => exact ⟨0, [], Nat.zero_le _, rfl, rfl, hide rfl, hide (by repeat (first | (with_reducible exact Below.refl _ _) | (with_reducible refine Below.drew ?_) | (with_reducible refine below_drewN ?_ _) | ((with_reducible refine Below.alloc ?_ ?_ _); rotate_left; (focus (first | (simp; done) | (simp; omega) | omega))) | ((with_reducible refine Below.setCell ?_ ?_ _); rotate_left; (focus (first | (simp; done) | (simp; omega) | omega))) | ((with_reducible refine Below.trans ?_ (Below.mono Hb.out ?_)); rotate_left; (focus (first | (simp; done) | (simp; omega) | omega))) | ((with_reducible refine Below.trans ?_ (Below.mono Hb16.out ?_)); rotate_left; (focus (first | (simp; done) | (simp; omega) | omega))) | ((with_reducible refine Below.trans ?_ (Below.mono Hb15.out ?_)); rotate_left; (focus (first | (simp; done) | (simp; omega) | omega))) | ((with_reducible refine Below.trans ?_ (Below.mono Hb14.out ?_)); rotate_left; (focus (first | (simp; done) | (simp; omega) | omega))) | ((with_reducible refine Below.trans ?_ (Below.mono Hb13.out ?_)); rotate_left; (focus (first | (simp; done) | (simp; omega) | omega))) | ((with_reducible refine Below.trans ?_ (Below.mono Hb12.out ?_)); rotate_left; (focus (first | (simp; done) | (simp; omega) | omega))) | ((with_reducible refine Below.trans ?_ (Below.mono Hb11.out ?_)); rotate_left; (focus (first | (simp; done) | (simp; omega) | omega))) | ((with_reducible refine Below.trans ?_ (Below.mono Hb10.out ?_)); rotate_left; (focus (first | (simp; done) | (simp; omega) | omega))) | ((with_reducible refine Below.trans ?_ (Below.mono Hb9.out ?_)); rotate_left; (focus (first | (simp; done) | (simp; omega) | omega))) | ((with_reducible refine Below.trans ?_ (Below.mono Hb8.out ?_)); rotate_left; (focus (first | (simp; done) | (simp; omega) | omega))) | ((with_reducible refine Below.trans ?_ (Below.mono Hb7.out ?_)); rotate_left; (focus (first | (simp; done) | (simp; omega) | omega))) | ((with_reducible refine Below.trans ?_ (Below.mono Hb6.out ?_)); rotate_left; (focus (first | (simp; done) | (simp; omega) | omega))) | ((with_reducible refine Below.trans ?_ (Below.mono Hb5.out ?_)); rotate_left; (focus (first | (simp; done) | (simp; omega) | omega))) | ((with_reducible refine Below.trans ?_ (Below.mono Hb4.out ?_)); rotate_left; (focus (first | (simp; done) | (simp; omega) | omega))) | ((with_reducible refine Below.trans ?_ (Below.mono Hb3.out ?_)); rotate_left; (focus (first | (simp; done) | (simp; omega) | omega))) | ((with_reducible refine Below.trans ?_ (Below.mono Hb2.out ?_)); rotate_left; (focus (first | (simp; done) | (simp; omega) | omega))) | ((with_reducible refine Below.trans ?_ (Below.mono Hb1.out ?_)); rotate_left; (focus (first | (simp; done) | (simp; omega) | omega))) | ((with_reducible refine Below.trans ?_ (below_of_only Hg16.out ?_ ?_)); rotate_left; (focus (first | (simp; done) | (simp; omega) | omega)); (intro k hk; cases hk; omega)) | ((with_reducible refine Below.trans ?_ (below_of_only Hg15.out ?_ ?_)); rotate_left; (focus (first | (simp; done) | (simp; omega) | omega)); (intro k hk; cases hk; omega)) | ((with_reducible refine Below.trans ?_ (below_of_only Hg14.out ?_ ?_)); rotate_left; (focus (first | (simp; done) | (simp; omega) | omega)); (intro k hk; cases hk; omega)) | ((with_reducible refine Below.trans ?_ (below_of_only Hg13.out ?_ ?_)); rotate_left; (focus (first | (simp; done) | (simp; omega) | omega)); (intro k hk; cases hk; omega)) | ((with_reducible refine Below.trans ?_ (below_of_only Hg12.out ?_ ?_)); rotate_left; (focus (first | (simp; done) | (simp; omega) | omega)); (intro k hk; cases hk; omega)) | ((with_reducible refine Below.trans ?_ (below_of_only Hg11.out ?_ ?_)); rotate_left; (focus (first | (simp; done) | (simp; omega) | omega)); (intro k hk; cases hk; omega)) | ((with_reducible refine Below.trans ?_ (below_of_only Hg10.out ?_ ?_)); rotate_left; (focus (first | (simp; done) | (simp; omega) | omega)); (intro k hk; cases hk; omega)) | ((with_reducible refine Below.trans ?_ (below_of_only Hg9.out ?_ ?_)); rotate_left; (focus (first | (simp; done) | (simp; omega) | omega)); (intro k hk; cases hk; omega)) | ((with_reducible refine Below.trans ?_ (below_of_only Hg8.out ?_ ?_)); rotate_left; (focus (first | (simp; done) | (simp; omega) | omega)); (intro k hk; cases hk; omega)) | ((with_reducible refine Below.trans ?_ (below_of_only Hg7.out ?_ ?_)); rotate_left; (focus (first | (simp; done) | (simp; omega) | omega)); (intro k hk; cases hk; omega)) | ((with_reducible refine Below.trans ?_ (below_of_only Hg6.out ?_ ?_)); rotate_left; (focus (first | (simp; done) | (simp; omega) | omega)); (intro k hk; cases hk; omega)) | ((with_reducible refine Below.trans ?_ (below_of_only Hg5.out ?_ ?_)); rotate_left; (focus (first | (simp; done) | (simp; omega) | omega)); (intro k hk; cases hk; omega)) | ((with_reducible refine Below.trans ?_ (below_of_only Hg4.out ?_ ?_)); rotate_left; (focus (first | (simp; done) | (simp; omega) | omega)); (intro k hk; cases hk; omega)) | ((with_reducible refine Below.trans ?_ (below_of_only Hg3.out ?_ ?_)); rotate_left; (focus (first | (simp; done) | (simp; omega) | omega)); (intro k hk; cases hk; omega)) | ((with_reducible refine Below.trans ?_ (below_of_only Hg2.out ?_ ?_)); rotate_left; (focus (first | (simp; done) | (simp; omega) | omega)); (intro k hk; cases hk; omega)) | ((with_reducible refine Below.trans ?_ (below_of_only Hg1.out ?_ ?_)); rotate_left; (focus (first | (simp; done) | (simp; omega) | omega)); (intro k hk; cases hk; omega)))), hide (by simpa using Hlit.out)⟩
  case round =>
    obtain ⟨k, sh, hk, rfl, hlk, HG, HB, HO⟩ := hrel
    obtain ⟨w5, rfl⟩ : ∃ w5, w5 = wr := ⟨_, rfl⟩
    obtain ⟨Av, cv, rfl⟩ := own_form HO.out
    have hB1 := HB.out.size
    by_cases hlt : k < n2
    · obtain ⟨b2, o2, f, t, c, rfl, hb2, hzc, d1, d2, d3⟩ := RdC.at_ S2.out hlt
      have Hzc := hide hzc
      obtain ⟨F, hF⟩ : ∃ F, srvs (newF zs) (cs.take k) sh = F := ⟨_, rfl⟩
      have HFF := hide hF
      have Hsh := hide (show ∀ s ∈ sh, 0 ≤ s ∧ s < n1 by rw [← HG.out]; exact grd_in n1 (by omega) _ _)
      have hltz : (k : Int) < (n2 : Int) := by omega
      have hkc : (k : Int) + 1 ≤ (c2 : Int) := by
        rcases hc2 with ⟨h, _⟩ | h
        · cases h
        · omega
      clear d1 d2 d3 hzc hF
      go_wp2_with fail
      go_loopw [7, 8] (fun bv cv9 w9 => ∃ ch j : Nat, 1 ≤ j ∧ j ≤ n1 ∧ cv9 = .int .i64 j ∧ bv = .int .i64 ch ∧ ch < n1 ∧ Hid (pickK F (f, t, c) j = ch) ∧ Hid (Below w5.heap.size w5 w9)) (fun _ cv9 _ => n1 - (intOf cv9).toNat)
      case atStart => exact ⟨0, 1, Nat.le_refl _, hn1a, rfl, rfl, by omega, hide (pickK_one _ _), hide (Below.refl _ _)⟩
      case round =>
        obtain ⟨ch, j, hj0, hj, rfl, rfl, hch, HP, HB9⟩ := hrel
        by_cases hjn : j < n1
        · have hjz : (j : Int) < (n1 : Int) := by omega
          have hk1 : IntKind.i64.wrap ((k : Int) + 1) = (k : Int) + 1 := IntWalk.i64_in _ (by omega)
          have hk2 : ((k : Int) + 1).toNat = k + 1 := by omega
          have hk3 : (0 : Int) ≤ (k : Int) + 1 := by omega
          obtain ⟨X, hX⟩ : ∃ X, gre zs (cs.take (k + 1)) (sh ++ [(j : Int)]) = X := ⟨_, rfl⟩
          obtain ⟨Y, hY⟩ : ∃ Y, gre zs (cs.take (k + 1)) (sh ++ [(ch : Int)]) = Y := ⟨_, rfl⟩
          have HXY := hide (show pickK F (f, t, c) (j + 1) = if X < Y then j else ch by
            show (if cst (srv F j (f, t, c)) < cst (srv F (pickK F (f, t, c) j) (f, t, c)) then j else pickK F (f, t, c) j) = _
            rw [HP.out, ← hX, ← hY, gre_snoc (by rw [Hl1.out]; exact hn1a) (by rw [Hl1.out]; exact hn1b) Hzc.out hlk (by rw [Hl1.out]; exact Hsh.out) (by rw [Hl1.out]; exact hjn) HFF.out, gre_snoc (by rw [Hl1.out]; exact hn1a) (by rw [Hl1.out]; exact hn1b) Hzc.out hlk (by rw [Hl1.out]; exact Hsh.out) (by rw [Hl1.out]; exact hch) HFF.out])
          have KC := hide (fun (w' : World) (hb : Below w5.heap.size w5 w') => copyInts_own w2.heap.size Av k cv sh w' (by omega) (own_below HO.out hb (Nat.le_refl _)))
          have KG1 := hide (fun (A3 : Option Addr) (c3 : Nat) (w' : World) (hb : Below w5.heap.size w5 w') (h3 : RdI w' .i64 A3 (k + 1) (sh ++ [(j : Int)])) => greatest_any A1 (some ⟨b2, o2, none⟩) A3 n1 c1 (k + 1) c2 c3 zs (cs.take (k + 1)) (sh ++ [(j : Int)]) X w' (by omega) (by omega) (RdI.below (RdI.below S1.out HB.out (Nat.le_refl _)) hb (Nat.le_refl _)) (RdC.take (RdC.below (RdC.below S2.out HB.out (Nat.le_refl _)) hb (Nat.le_refl _)) (k + 1) (by omega)) h3 (fun z hz => allB_mem Hall.out hz) (fun c hc => vCs_mem Hv3.out (List.mem_of_mem_take hc)) hX)
          have KG2 := hide (fun (A3 : Option Addr) (c3 : Nat) (w' : World) (hb : Below w5.heap.size w5 w') (h3 : RdI w' .i64 A3 (k + 1) (sh ++ [(ch : Int)])) => greatest_any A1 (some ⟨b2, o2, none⟩) A3 n1 c1 (k + 1) c2 c3 zs (cs.take (k + 1)) (sh ++ [(ch : Int)]) Y w' (by omega) (by omega) (RdI.below (RdI.below S1.out HB.out (Nat.le_refl _)) hb (Nat.le_refl _)) (RdC.take (RdC.below (RdC.below S2.out HB.out (Nat.le_refl _)) hb (Nat.le_refl _)) (k + 1) (by omega)) h3 (fun z hz => allB_mem Hall.out hz) (fun c hc => vCs_mem Hv3.out (List.mem_of_mem_take hc)) hY)
          have HXYV := hide (And.intro hX hY)
          have hB9 := HB9.out
          have hz9 := HB9.out.size
          clear hX hY
          go_wp2_with fail
          go_region_held3 (fun w' => Below w5.heap.size w5 w')
            (first | (exact (show Below w5.heap.size w5 _ from by repeat (first | (with_reducible assumption) | (with_reducible refine Below.drew ?_) | (with_reducible refine below_drewN ?_ _) | ((with_reducible refine Below.alloc ?_ ?_ _); rotate_left; (focus (first | (simp; done) | (simp; omega) | omega)))))))
            (first
             | ( go_at_call 51
                 refine (KC.out _ ?_).mono ?_
                 · repeat (first | (with_reducible assumption) | (with_reducible refine Below.drew ?_) | (with_reducible refine below_drewN ?_ _) | ((with_reducible refine Below.alloc ?_ ?_ _); rotate_left; (focus (first | (simp; done) | (simp; omega) | omega))))
                 rintro e w8 ⟨A8, n8, c8, rfl, hA8, ho8, hb⟩
                 obtain ⟨g8, hg8, hlo, hhi⟩ := retJ_row hA8 ho8
                 subst hg8
                 obtain rfl : k = n8 := by have h := ho8.1; simp at h; omega
                 have hz8 := hb.size
                 try simp at hz8 hlo
                 have ho9 := own_base ho8 (base' := w5.heap.size) (by (first | (simp; omega) | omega))
                 have hB8 : Below w5.heap.size w5 w8 := by
                   refine Below.trans ?_ (hb.mono ?_)
                   · repeat (first | (with_reducible assumption) | (with_reducible refine Below.drew ?_) | (with_reducible refine below_drewN ?_ _) | ((with_reducible refine Below.alloc ?_ ?_ _); rotate_left; (focus (first | (simp; done) | (simp; omega) | omega))))
                   · refine Below.size (w := w5) (B := w5.heap.size) ?_
                     repeat (first | (with_reducible assumption) | (with_reducible refine Below.drew ?_) | (with_reducible refine below_drewN ?_ _) | ((with_reducible refine Below.alloc ?_ ?_ _); rotate_left; (focus (first | (simp; done) | (simp; omega) | omega))))
                 have hF8 : FrB _ w8 := hb
                 clear hb ho8 hA8 )
             | ( refine step_append_lies _ rfl (.tmp 35) (.tmp 37) 22 rfl w5.heap.size 3 i0 (.int .i64 0) 1 8 Try.underlying22 hi0 iz0 iz1 iz2 rfl (by omega) (.slice (some ⟨g8, 0, none⟩) k c8) k (sh.map (Value.int .i64)) (by rfl) ?_ _ 1 1 [.int .i64 j] (by rfl) (by rfl) (World.news_of_block (cs := #[.int .i64 j]) (t := 3) (fr := (0, 0)) ?_) (by simp [Value.oneCell']) (by omega) (by unfold maxLen; omega) (by omega) ?_ _ rfl ?_
                 · repeat (first | (with_reducible assumption) | (with_reducible refine World.ownsRow.alloc ?_ _) | (with_reducible refine World.ownsRow.drew ?_) | (with_reducible refine own_drewN ?_ _))
                 · show Blk _ _ _ _
                   repeat (first | (with_reducible assumption) | (with_reducible exact Blk.new _ _ _) | ((with_reducible refine Blk.new_at ?_); (first | (simp; done) | (simp; omega))) | (with_reducible refine Blk.drew ?_) | (with_reducible refine Blk.drewN ?_ _) | (with_reducible refine Blk.alloc ?_ _) | (with_reducible refine Blk.frB (by assumption) ?_) | (with_reducible refine Blk.frG (by assumption) (by omega) ?_))
                 · (first | (simp; omega) | omega)
                 intro g1 cap1 w8 hown hgrow hat hlt8
                 have hR8 : RdI w8 .i64 (some ⟨g1, 0, none⟩) (k + 1) (sh ++ [(j : Int)]) := by
                   have h := Rd.of_own hown
                   unfold RdI
                   rw [List.map_append]
                   exact h
                 have hF8 : FrG _ w8 g8 := hgrow
                 have hz10 := hgrow.size
                 try simp at hz10
                 have hB8 : Below w5.heap.size w5 w8 := by
                   refine Below.grown ?_ hgrow ?_ ?_
                   · repeat (first | (with_reducible assumption) | (with_reducible refine Below.drew ?_) | (with_reducible refine below_drewN ?_ _) | ((with_reducible refine Below.alloc ?_ ?_ _); rotate_left; (focus (first | (simp; done) | (simp; omega) | omega))))
                   · (first | (simp; omega) | omega)
                   · intro kk hk
                     have hk2 : g8 = kk := Option.some.inj hk
                     omega
                 clear hown hgrow hat )
             | ( refine step_append_lies _ rfl (.tmp 46) (.tmp 48) 22 rfl w5.heap.size 3 i0 (.int .i64 0) 1 8 Try.underlying22 hi0 iz0 iz1 iz2 rfl (by omega) (.slice (some ⟨g8, 0, none⟩) k c8) k (sh.map (Value.int .i64)) (by rfl) ?_ _ 1 1 [.int .i64 ch] (by rfl) (by rfl) (World.news_of_block (cs := #[.int .i64 ch]) (t := 3) (fr := (0, 0)) ?_) (by simp [Value.oneCell']) (by omega) (by unfold maxLen; omega) (by omega) ?_ _ rfl ?_
                 · repeat (first | (with_reducible assumption) | (with_reducible refine World.ownsRow.alloc ?_ _) | (with_reducible refine World.ownsRow.drew ?_) | (with_reducible refine own_drewN ?_ _))
                 · show Blk _ _ _ _
                   repeat (first | (with_reducible assumption) | (with_reducible exact Blk.new _ _ _) | ((with_reducible refine Blk.new_at ?_); (first | (simp; done) | (simp; omega))) | (with_reducible refine Blk.drew ?_) | (with_reducible refine Blk.drewN ?_ _) | (with_reducible refine Blk.alloc ?_ _) | (with_reducible refine Blk.frB (by assumption) ?_) | (with_reducible refine Blk.frG (by assumption) (by omega) ?_))
                 · (first | (simp; omega) | omega)
                 intro g1 cap1 w8 hown hgrow hat hlt8
                 have hR8 : RdI w8 .i64 (some ⟨g1, 0, none⟩) (k + 1) (sh ++ [(ch : Int)]) := by
                   have h := Rd.of_own hown
                   unfold RdI
                   rw [List.map_append]
                   exact h
                 have hF8 : FrG _ w8 g8 := hgrow
                 have hz10 := hgrow.size
                 try simp at hz10
                 have hB8 : Below w5.heap.size w5 w8 := by
                   refine Below.grown ?_ hgrow ?_ ?_
                   · repeat (first | (with_reducible assumption) | (with_reducible refine Below.drew ?_) | (with_reducible refine below_drewN ?_ _) | ((with_reducible refine Below.alloc ?_ ?_ _); rotate_left; (focus (first | (simp; done) | (simp; omega) | omega))))
                   · (first | (simp; omega) | omega)
                   · intro kk hk
                     have hk2 : g8 = kk := Option.some.inj hk
                     omega
                 clear hown hgrow hat )
             | ( go_at_call 43
                 first
                   | ( with_reducible refine (KG1.out _ _ _ ?_ ?_).mono ?_
                       · repeat (first | (with_reducible assumption) | (with_reducible refine Below.drew ?_) | (with_reducible refine below_drewN ?_ _) | ((with_reducible refine Below.alloc ?_ ?_ _); rotate_left; (focus (first | (simp; done) | (simp; omega) | omega))))
                       · repeat (first | (with_reducible assumption) | (with_reducible refine RdI.al ?_ _) | (with_reducible refine RdI.dr ?_) | (with_reducible refine RdI.drN ?_ _))
                       rintro e w8 ⟨rfl, q8, rfl⟩ )
                   | ( with_reducible refine (KG2.out _ _ _ ?_ ?_).mono ?_
                       · repeat (first | (with_reducible assumption) | (with_reducible refine Below.drew ?_) | (with_reducible refine below_drewN ?_ _) | ((with_reducible refine Below.alloc ?_ ?_ _); rotate_left; (focus (first | (simp; done) | (simp; omega) | omega))))
                       · repeat (first | (with_reducible assumption) | (with_reducible refine RdI.al ?_ _) | (with_reducible refine RdI.dr ?_) | (with_reducible refine RdI.drN ?_ _))
                       rintro e w8 ⟨rfl, q8, rfl⟩ ) ))
          all_goals
            by_cases hd : X < Y
            · go_wp2_with fail
              go_roundw
              case rel => exact ⟨j, j + 1, by omega, by omega, by go_num, rfl, by omega, hide (by rw [HXY.out, if_pos hd]), hide (by repeat (first | (with_reducible assumption) | (with_reducible refine Below.drew ?_) | (with_reducible refine below_drewN ?_ _) | ((with_reducible refine Below.alloc ?_ ?_ _); rotate_left; (focus (first | (simp; done) | (simp; omega) | omega)))))⟩
              case measure => simp [intOf]; omega
            · go_wp2_with fail
              go_roundw
              case rel => exact ⟨ch, j + 1, by omega, by omega, by go_num, rfl, by omega, hide (by rw [HXY.out, if_neg (by omega)]), hide (by repeat (first | (with_reducible assumption) | (with_reducible refine Below.drew ?_) | (with_reducible refine below_drewN ?_ _) | ((with_reducible refine Below.alloc ?_ ?_ _); rotate_left; (focus (first | (simp; done) | (simp; omega) | omega)))))⟩
              case measure => simp [intOf]; omega
        · obtain rfl : j = n1 := by omega
          have hgs := (grd_succ (n := j) (f := newF zs) Hzc.out HG.out HFF.out).1
          rw [HP.out] at hgs
          have HGS := hide hgs
          have HO9 := hide (own_below HO.out HB9.out (Nat.le_refl _))
          have HBw := hide (HB.out.trans (HB9.out.mono hB1))
          have hzw := HB9.out.size
          clear hgs
          go_wp2_with (at_builtin; refine wpList_append_own _ rfl (.tmp 53) (.tmp 55) _ rfl w2.heap.size 3 i0 (.int .i64 0) 1 8 Try.underlying22 hi0 iz0 iz1 iz2 rfl (by decide) _ _ _ rfl (HO9.out.alloc _) _ 1 1 [.int .i64 ch] rfl rfl (cell_one_at _ _ _ _ (by simp)) (by intro u hu; simp at hu; subst hu; rfl) (by unfold maxLen; omega) (by omega) (by simp; omega) ?_; intro v5 w6 hown hgrow _)
          have HF := hide (And.intro hown (Below.grown (HBw.out.alloc (by omega) (.cells #[.int .i64 ch] 3)) hgrow (by simp; omega) (fun j hj => (HO9.out.lt j hj).1)))
          clear hown hgrow
          go_wp2_with fail
          go_roundw
          case rel => exact ⟨k + 1, sh ++ [(ch : Int)], by omega, by go_num, by simp [hlk], HGS, hide HF.out.2, hide (by simpa using HF.out.1)⟩
          case measure => simp [intOf]; omega
    · obtain rfl : k = n2 := by omega
      have hsh : sh = grdK zs cs := by
        have h := HG.out
        rw [List.take_of_length_le (by have := Hl2.out; omega)] at h
        rw [e1.out, h]
      have Hsh := hide hsh
      clear hsh
      go_wp2_with fail
      go_ret
      exact ⟨Av, k, cv, rfl, by rw [← Hsh.out]; exact own_base HO.out (by omega), Hb2.out.trans (HB.out.mono (by omega))⟩
end Go.Proofs.Ytmhaclhcllndeaa
