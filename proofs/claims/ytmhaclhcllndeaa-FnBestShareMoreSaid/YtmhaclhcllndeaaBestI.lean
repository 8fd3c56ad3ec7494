/-
  The search for the best share: the closure that calls itself.
-/
import Derived.Test.YtmhaclhcllndeaaBestA
import Derived.Test.YtmhaclhcllndeaaGreedyI
import Derived.Deep.RegionHeld3
namespace Go.Proofs.Ytmhaclhcllndeaa
open Go.RowKit
set_option linter.unusedSimpArgs false
set_option linter.unusedVariables false

def SearchAt (zs : List Int) (cs : List CallQ) (W : World) (A1 A2 : Option Addr) (n1 c1 n2 c2 b1 b2 b3 b4 gS b5 b6 : Nat) (m : Nat) : Prop :=
  ∀ (pred rem : List CallQ) (pre : List Int) (a0 a1 a2 p0 p1 p2 L : Int) (bst sh : List Int) (vb : Value) (dz : Int) (w : World), dz = (pred.length : Int) → rem.length = m → cs = pred ++ rem → pre.length = pred.length → sh.take pred.length = pre →
    Ft.ok ⟨a0, a1, a2, p0, p1, p2⟩ (30 * pred.length) → SrI W w A1 A2 n1 c1 n2 c2 b1 b2 b3 b4 gS b5 b6 L bst sh vb →
    Calls Try.prog 54 #[.agg #[.int .i64 a0, .int .i64 a1, .int .i64 a2, .int .i64 p0, .int .i64 p1, .int .i64 p2], .int .i64 dz, .pointer (some ⟨b4, 0, none⟩), .pointer (some ⟨b2, 0, none⟩), .pointer (some ⟨b5, 0, none⟩), .pointer (some ⟨b3, 0, none⟩), .pointer (some ⟨b1, 0, none⟩), .pointer (some ⟨b6, 0, none⟩)] w (SrPost W w A1 A2 n1 c1 n2 c2 b1 b2 b3 b4 gS b5 b6 pred.length pre (srch n1 rem ⟨a0, a1, a2, p0, p1, p2⟩ pre (L, bst)))
theorem s0_mk {w' : World} {b4 gf : Nat} {L a0 a1 a2 p0 p1 p2 : Int} (h1 : Blk w' b4 3 #[.int .i64 L]) (h2 : Blk w' gf 59 #[.int .i64 a0, .int .i64 a1, .int .i64 a2, .int .i64 p0, .int .i64 p1, .int .i64 p2]) : w'.cell? ⟨b4, 0, none⟩ = some (.int .i64 L) ∧ w'.cell? ⟨gf, 0, none⟩ = some (.int .i64 a0) ∧ w'.cell? ⟨gf, 1, none⟩ = some (.int .i64 a1) ∧ w'.cell? ⟨gf, 2, none⟩ = some (.int .i64 a2) ∧ w'.cell? ⟨gf, 3, none⟩ = some (.int .i64 p0) ∧ w'.cell? ⟨gf, 4, none⟩ = some (.int .i64 p1) ∧ w'.cell? ⟨gf, 5, none⟩ = some (.int .i64 p2) :=
  ⟨h1.cell 0, h2.cell 0, h2.cell 1, h2.cell 2, h2.cell 3, h2.cell 4, h2.cell 5⟩
theorem s1_mk {W w' : World} {b1 b2 b3 b4 b5 b6 gf bc oc n2 c2 d : Nat} {a0 a1 a2 p0 p1 p2 f t x : Int} (hbc : bc < W.heap.size) (e1 : W.cell? ⟨bc, oc + d * 3, none⟩ = some (.int .i64 f)) (e2 : W.cell? ⟨bc, oc + d * 3 + 1, none⟩ = some (.int .i64 t)) (e3 : W.cell? ⟨bc, oc + d * 3 + 2, none⟩ = some (.int .i64 x)) (h6 : Blk w' b6 65 #[.func (.func 54) #[] #[.pointer (some ⟨b4, 0, none⟩), .pointer (some ⟨b2, 0, none⟩), .pointer (some ⟨b5, 0, none⟩), .pointer (some ⟨b3, 0, none⟩), .pointer (some ⟨b1, 0, none⟩), .pointer (some ⟨b6, 0, none⟩)]]) (hf : Blk w' gf 59 #[.int .i64 a0, .int .i64 a1, .int .i64 a2, .int .i64 p0, .int .i64 p1, .int .i64 p2]) (h2 : Blk w' b2 30 #[.slice (some ⟨bc, oc, none⟩) n2 c2]) (hb : Below W.heap.size W w') : w'.cell? ⟨b6, 0, none⟩ = some (.func (.func 54) #[] #[.pointer (some ⟨b4, 0, none⟩), .pointer (some ⟨b2, 0, none⟩), .pointer (some ⟨b5, 0, none⟩), .pointer (some ⟨b3, 0, none⟩), .pointer (some ⟨b1, 0, none⟩), .pointer (some ⟨b6, 0, none⟩)]) ∧ w'.cell? ⟨gf, 0, none⟩ = some (.int .i64 a0) ∧ w'.cell? ⟨gf, 1, none⟩ = some (.int .i64 a1) ∧ w'.cell? ⟨gf, 2, none⟩ = some (.int .i64 a2) ∧ w'.cell? ⟨gf, 3, none⟩ = some (.int .i64 p0) ∧ w'.cell? ⟨gf, 4, none⟩ = some (.int .i64 p1) ∧ w'.cell? ⟨gf, 5, none⟩ = some (.int .i64 p2) ∧ w'.cell? ⟨b2, 0, none⟩ = some (.slice (some ⟨bc, oc, none⟩) n2 c2) ∧ w'.cell? ⟨bc, oc + d * 3, none⟩ = some (.int .i64 f) ∧ w'.cell? ⟨bc, oc + d * 3 + 1, none⟩ = some (.int .i64 t) ∧ w'.cell? ⟨bc, oc + d * 3 + 2, none⟩ = some (.int .i64 x) :=
  ⟨h6.cell 0, hf.cell 0, hf.cell 1, hf.cell 2, hf.cell 3, hf.cell 4, hf.cell 5, h2.cell 0, (hb.cell (p := ⟨bc, oc + d * 3, none⟩) hbc).trans e1, (hb.cell (p := ⟨bc, oc + d * 3 + 1, none⟩) hbc).trans e2, (hb.cell (p := ⟨bc, oc + d * 3 + 2, none⟩) hbc).trans e3⟩
theorem set_take {α : Type} (l : List α) (d : Nat) (x : α) (h : d < l.length) : (l.set d x).take (d + 1) = l.take d ++ [x] := by
  rw [List.set_eq_take_append_cons_drop, if_pos h]
  have h1 : (l.take d).length = d := by rw [List.length_take]; omega
  rw [List.take_append, h1, List.take_take, Nat.min_eq_right (by omega), show d + 1 - d = 1 by omega]
  rfl
set_option maxHeartbeats 8000000 in
theorem search_any (zs : List Int) (cs : List CallQ) (W : World) (A1 A2 : Option Addr) (n1 c1 n2 c2 b1 b2 b3 b4 gS b5 b6 : Nat) (h1a : 1 ≤ n1) (h1b : n1 ≤ 3) (h2b : n2 ≤ 6) (hcs : RdC W A2 n2 cs) (hv : vCs cs = true) :
    ∀ m, SearchAt zs cs W A1 A2 n1 c1 n2 c2 b1 b2 b3 b4 gS b5 b6 m := by
  obtain ⟨i0, hi0, iz0, iz1, iz2⟩ := info_parts int_info
  intro m
  induction m with
  | zero =>
    intro pred rem pre a0 a1 a2 p0 p1 p2 L bst sh vb dz w hdz hm hcp hpl htk hok hI
    subst hdz
    obtain rfl : rem = [] := List.eq_nil_of_length_eq_zero hm
    obtain ⟨M, hM⟩ : ∃ M, cst ⟨a0, a1, a2, p0, p1, p2⟩ = M := ⟨_, rfl⟩
    have hMb := cst_in hok
    rw [hM] at hMb
    have hd : pred.length = n2 := by have h1 := hcs.len; have h2 := congrArg List.length hcp; simp at h2; omega
    rw [hd] at htk hok ⊢
    have Hd := hide hd
    have HI := hide hI
    have KC := hide (fun w' => cost_b a0 a1 a2 p0 p1 p2 M w' hM)
    have hg1 := hI.least
    have hg2 := hI.be.size
    have hlt4 := hg1.lt
    have ho := hI.o
    obtain ⟨_, _⟩ := blk1 hI.least
    by_cases hcut : 0 ≤ L ∧ L ≤ M
    · have HR := hide (show srch n1 [] ⟨a0, a1, a2, p0, p1, p2⟩ pre (L, bst) = (L, bst) from srch_cut (by rw [hM]; exact hcut))
      obtain ⟨q1, q2⟩ := hcut
      have HTK := hide htk
      clear hI hok hM hd hpl hcp htk hm
      go_enter Try.func54, Try.ntmps54
      go_wp2_with fail
      obtain ⟨wa, hwa⟩ : ∃ wa, w.alloc (.cells #[.int .i64 a0, .int .i64 a1, .int .i64 a2, .int .i64 p0, .int .i64 p1, .int .i64 p2] 59) = wa := ⟨_, rfl⟩
      obtain ⟨gf, hgf⟩ : ∃ gf, w.heap.size = gf := ⟨_, rfl⟩
      have hx : Blk wa gf 59 #[.int .i64 a0, .int .i64 a1, .int .i64 a2, .int .i64 p0, .int .i64 p1, .int .i64 p2] := by rw [← hwa, ← hgf]; exact Blk.new _ _ _
      have hl : Blk wa b4 3 #[.int .i64 L] := by rw [← hwa]; exact HI.out.least.alloc _
      have HIa := hide (HI.out.alloc (.cells #[.int .i64 a0, .int .i64 a1, .int .i64 a2, .int .i64 p0, .int .i64 p1, .int .i64 p2] 59))
      rw [hwa] at HIa
      have HFa := hide (show FrS b3 b4 gS w wa from by rw [← hwa]; exact FrS.of_below ((Below.refl _ _).alloc (Nat.le_refl _) _))
      have hgl : gf < wa.heap.size := hx.lt
      rw [hwa, hgf]
      have Hgf := hide hgf
      clear hwa hgf
      obtain ⟨_, _, _, _, _, _, _, _, _, _, _, _⟩ := blk6 hx
      obtain ⟨_, _⟩ := blk1 hl
      go_region_held3 (fun w' => w'.cell? ⟨b4, 0, none⟩ = some (.int .i64 L) ∧ w'.cell? ⟨gf, 0, none⟩ = some (.int .i64 a0) ∧ w'.cell? ⟨gf, 1, none⟩ = some (.int .i64 a1) ∧ w'.cell? ⟨gf, 2, none⟩ = some (.int .i64 a2) ∧ w'.cell? ⟨gf, 3, none⟩ = some (.int .i64 p0) ∧ w'.cell? ⟨gf, 4, none⟩ = some (.int .i64 p1) ∧ w'.cell? ⟨gf, 5, none⟩ = some (.int .i64 p2))
        (first | (exact s0_mk (by repeat (first | (with_reducible assumption) | (with_reducible refine Blk.drew ?_) | (with_reducible refine Blk.drewN ?_ _) | (with_reducible refine Blk.alloc ?_ _))) (by repeat (first | (with_reducible assumption) | (with_reducible refine Blk.drew ?_) | (with_reducible refine Blk.drewN ?_ _) | (with_reducible refine Blk.alloc ?_ _)))))
        (( go_at_call 49
           with_reducible refine (KC.out _).mono ?_
           rintro e w8 ⟨rfl, hb⟩
           have hx8 : Blk w8 gf 59 #[.int .i64 a0, .int .i64 a1, .int .i64 a2, .int .i64 p0, .int .i64 p1, .int .i64 p2] := by
             refine Blk.below ?_ hb ?_
             · repeat (first | (with_reducible assumption) | (with_reducible refine Blk.drew ?_) | (with_reducible refine Blk.drewN ?_ _) | (with_reducible refine Blk.alloc ?_ _))
             · refine Blk.lt (t := 59) (cs := #[.int .i64 a0, .int .i64 a1, .int .i64 a2, .int .i64 p0, .int .i64 p1, .int .i64 p2]) ?_
               repeat (first | (with_reducible assumption) | (with_reducible refine Blk.drew ?_) | (with_reducible refine Blk.drewN ?_ _) | (with_reducible refine Blk.alloc ?_ _))
           have hl8 : Blk w8 b4 3 #[.int .i64 L] := by
             refine Blk.below ?_ hb ?_
             · repeat (first | (with_reducible assumption) | (with_reducible refine Blk.drew ?_) | (with_reducible refine Blk.drewN ?_ _) | (with_reducible refine Blk.alloc ?_ _))
             · refine Blk.lt (t := 3) (cs := #[.int .i64 L]) ?_
               repeat (first | (with_reducible assumption) | (with_reducible refine Blk.drew ?_) | (with_reducible refine Blk.drewN ?_ _) | (with_reducible refine Blk.alloc ?_ _))
           have hI8 := SrI.below (SrI.drew HIa.out) hb
           have hF8 : FrS b3 b4 gS w w8 := FrS.trans HFa.out (FrS.trans (FrS.of_below ((Below.refl _ _).drew)) (FrS.of_below hb))
           clear hb ))
      go_wp2_with fail
      go_end0
      exact ⟨rfl, sh, vb, HTK.out, by rw [HR.out]; exact hI8, hF8⟩
    · have HR := hide (show srch n1 [] ⟨a0, a1, a2, p0, p1, p2⟩ pre (L, bst) = (M, pre) from by rw [srch_nil (by rw [hM]; exact hcut), hM])
      have hlen := hI.len
      have hsh : sh = pre := by rw [← htk, List.take_of_length_le (by omega)]
      subst hsh
      have HTK := hide htk
      have HLEN := hide hlen
      have hdd : ((n2 : Int) == (n2 : Int)) = true := by simp
      clear hI hok hM hd hpl hcp htk hm hlen
      by_cases hL : 0 ≤ L
      · have q2 : M < L := by omega
        clear hcut
        go_enter Try.func54, Try.ntmps54
        go_wp2_with fail
        obtain ⟨wa, hwa⟩ : ∃ wa, w.alloc (.cells #[.int .i64 a0, .int .i64 a1, .int .i64 a2, .int .i64 p0, .int .i64 p1, .int .i64 p2] 59) = wa := ⟨_, rfl⟩
        obtain ⟨gf, hgf⟩ : ∃ gf, w.heap.size = gf := ⟨_, rfl⟩
        have hx : Blk wa gf 59 #[.int .i64 a0, .int .i64 a1, .int .i64 a2, .int .i64 p0, .int .i64 p1, .int .i64 p2] := by rw [← hwa, ← hgf]; exact Blk.new _ _ _
        have hl : Blk wa b4 3 #[.int .i64 L] := by rw [← hwa]; exact HI.out.least.alloc _
        have HIa := hide (HI.out.alloc (.cells #[.int .i64 a0, .int .i64 a1, .int .i64 a2, .int .i64 p0, .int .i64 p1, .int .i64 p2] 59))
        rw [hwa] at HIa
        have HFa := hide (show FrS b3 b4 gS w wa from by rw [← hwa]; exact FrS.of_below ((Below.refl _ _).alloc (Nat.le_refl _) _))
        have hgl : gf < wa.heap.size := hx.lt
        rw [hwa, hgf]
        have Hgf := hide hgf
        clear hwa hgf
        obtain ⟨_, _, _, _, _, _, _, _, _, _, _, _⟩ := blk6 hx
        obtain ⟨_, _⟩ := blk1 hl
        go_region_held3 (fun w' => w'.cell? ⟨b4, 0, none⟩ = some (.int .i64 L) ∧ w'.cell? ⟨gf, 0, none⟩ = some (.int .i64 a0) ∧ w'.cell? ⟨gf, 1, none⟩ = some (.int .i64 a1) ∧ w'.cell? ⟨gf, 2, none⟩ = some (.int .i64 a2) ∧ w'.cell? ⟨gf, 3, none⟩ = some (.int .i64 p0) ∧ w'.cell? ⟨gf, 4, none⟩ = some (.int .i64 p1) ∧ w'.cell? ⟨gf, 5, none⟩ = some (.int .i64 p2))
          (first | (exact s0_mk (by repeat (first | (with_reducible assumption) | (with_reducible refine Blk.drew ?_) | (with_reducible refine Blk.drewN ?_ _) | (with_reducible refine Blk.alloc ?_ _))) (by repeat (first | (with_reducible assumption) | (with_reducible refine Blk.drew ?_) | (with_reducible refine Blk.drewN ?_ _) | (with_reducible refine Blk.alloc ?_ _)))))
          (( go_at_call 49
             with_reducible refine (KC.out _).mono ?_
             rintro e w8 ⟨rfl, hb⟩
             have hx8 : Blk w8 gf 59 #[.int .i64 a0, .int .i64 a1, .int .i64 a2, .int .i64 p0, .int .i64 p1, .int .i64 p2] := by
               refine Blk.below ?_ hb ?_
               · repeat (first | (with_reducible assumption) | (with_reducible refine Blk.drew ?_) | (with_reducible refine Blk.drewN ?_ _) | (with_reducible refine Blk.alloc ?_ _))
               · refine Blk.lt (t := 59) (cs := #[.int .i64 a0, .int .i64 a1, .int .i64 a2, .int .i64 p0, .int .i64 p1, .int .i64 p2]) ?_
                 repeat (first | (with_reducible assumption) | (with_reducible refine Blk.drew ?_) | (with_reducible refine Blk.drewN ?_ _) | (with_reducible refine Blk.alloc ?_ _))
             have hl8 : Blk w8 b4 3 #[.int .i64 L] := by
               refine Blk.below ?_ hb ?_
               · repeat (first | (with_reducible assumption) | (with_reducible refine Blk.drew ?_) | (with_reducible refine Blk.drewN ?_ _) | (with_reducible refine Blk.alloc ?_ _))
               · refine Blk.lt (t := 3) (cs := #[.int .i64 L]) ?_
                 repeat (first | (with_reducible assumption) | (with_reducible refine Blk.drew ?_) | (with_reducible refine Blk.drewN ?_ _) | (with_reducible refine Blk.alloc ?_ _))
             have hI8 := SrI.below (SrI.drew HIa.out) hb
             have hF8 : FrS b3 b4 gS w w8 := FrS.trans HFa.out (FrS.trans (FrS.of_below ((Below.refl _ _).drew)) (FrS.of_below hb))
             clear hb ))
        have HI8 := hide hI8
        have HF8 := hide hF8
        obtain ⟨_, _, _, _, _, _, _, _, _, _, _, _⟩ := blk6 hx8
        obtain ⟨_, _⟩ := blk1 hI8.list
        obtain ⟨_, _⟩ := blk1 hI8.least
        go_wp2_with fail
        refine (KC.out _).mono ?_
        rintro e w10 ⟨rfl, hb⟩
        have hI10 := HI8.out.below hb
        have HF10 := hide (HF8.out.trans (FrS.of_below hb))
        have HI11 := hide (hI10.setLeast M)
        obtain ⟨_, _⟩ := blk1 hI10.least
        obtain ⟨_, _⟩ := blk1 hI10.shr
        obtain ⟨_, _⟩ := blk1 hI10.best
        have hz11 : gS + 1 ≤ w10.heap.size := by have := hI10.fn.lt; omega
        clear hb
        have HF11 := hide (HF10.out.setL (.int .i64 M))
        go_wp2_with
          ( at_builtin
            refine wpList_append_own _ rfl (.const (.slice none 0 0)) (.tmp 25) _ rfl (gS + 1) 3 i0 (.int .i64 0) 1 8 Try.underlying22 hi0 iz0 iz1 iz2 rfl (by decide) _ _ _ rfl (World.ownsRow_nil _ _ _ _) _ n2 n2 (sh.map (Value.int .i64)) rfl (by simp [HLEN.out]) (fun j u hu => HI11.out.srow.cells (g := gS) rfl j u hu) (by intro u hu; obtain ⟨z, _, rfl⟩ := List.mem_map.1 hu; rfl) (by unfold maxLen; omega) (by omega) (by first | exact hz11 | (simp; omega)) ?_
            intro v12 w12 hown hgrow _
            obtain ⟨A12, c12, rfl⟩ := own_form hown
            have hb12 := below_of_only hgrow (Nat.le_refl _) (fun k hk => absurd (show (none : Option Nat) = some k from hk) (by simp))
            have hI12 := SrI.below HI11.out hb12
            have HF12 := hide (HF11.out.trans (FrS.of_below hb12))
            have HO12 := hide (show w12.ownsRow (gS + 1) 3 1 (.slice A12 n2 c12) n2 (sh.map (Value.int .i64)) by simpa using hown)
            have HI12 := hide hI12
            obtain ⟨_, _⟩ := blk1 hI12.best
            clear hown hgrow hb12 hI12 )
        go_end0
        exact ⟨rfl, sh, .slice A12 n2 c12, HTK.out, by rw [HR.out]; exact SrI.setBest HI12.out (by rw [HLEN.out]; exact HO12.out), HF12.out.setB _⟩
      · have q1 : decide (0 ≤ L) = false := by simp; omega
        clear hcut
        go_enter Try.func54, Try.ntmps54
        go_wp2_with fail
        obtain ⟨wa, hwa⟩ : ∃ wa, w.alloc (.cells #[.int .i64 a0, .int .i64 a1, .int .i64 a2, .int .i64 p0, .int .i64 p1, .int .i64 p2] 59) = wa := ⟨_, rfl⟩
        obtain ⟨gf, hgf⟩ : ∃ gf, w.heap.size = gf := ⟨_, rfl⟩
        have hx : Blk wa gf 59 #[.int .i64 a0, .int .i64 a1, .int .i64 a2, .int .i64 p0, .int .i64 p1, .int .i64 p2] := by rw [← hwa, ← hgf]; exact Blk.new _ _ _
        have hl : Blk wa b4 3 #[.int .i64 L] := by rw [← hwa]; exact HI.out.least.alloc _
        have HIa := hide (HI.out.alloc (.cells #[.int .i64 a0, .int .i64 a1, .int .i64 a2, .int .i64 p0, .int .i64 p1, .int .i64 p2] 59))
        rw [hwa] at HIa
        have HFa := hide (show FrS b3 b4 gS w wa from by rw [← hwa]; exact FrS.of_below ((Below.refl _ _).alloc (Nat.le_refl _) _))
        have hgl : gf < wa.heap.size := hx.lt
        rw [hwa, hgf]
        have Hgf := hide hgf
        clear hwa hgf
        obtain ⟨_, _, _, _, _, _, _, _, _, _, _, _⟩ := blk6 hx
        obtain ⟨_, _⟩ := blk1 hl
        go_quiet (fail)
        obtain ⟨w8, hw8⟩ : ∃ w8, wa.drewN nq = w8 := ⟨_, rfl⟩
        have hx8 : Blk w8 gf 59 #[.int .i64 a0, .int .i64 a1, .int .i64 a2, .int .i64 p0, .int .i64 p1, .int .i64 p2] := by rw [← hw8]; exact hx.drewN _
        have hI8 := SrI.drewN HIa.out nq
        rw [hw8] at hI8
        have hF8 : FrS b3 b4 gS w w8 := by rw [← hw8]; exact HFa.out.trans (FrS.of_below (below_drewN (Below.refl _ _) _))
        rw [hw8]
        clear hw8
        have HI8 := hide hI8
        have HF8 := hide hF8
        obtain ⟨_, _, _, _, _, _, _, _, _, _, _, _⟩ := blk6 hx8
        obtain ⟨_, _⟩ := blk1 hI8.list
        obtain ⟨_, _⟩ := blk1 hI8.least
        go_wp2_with fail
        refine (KC.out _).mono ?_
        rintro e w10 ⟨rfl, hb⟩
        have hI10 := HI8.out.below hb
        have HF10 := hide (HF8.out.trans (FrS.of_below hb))
        have HI11 := hide (hI10.setLeast M)
        obtain ⟨_, _⟩ := blk1 hI10.least
        obtain ⟨_, _⟩ := blk1 hI10.shr
        obtain ⟨_, _⟩ := blk1 hI10.best
        have hz11 : gS + 1 ≤ w10.heap.size := by have := hI10.fn.lt; omega
        clear hb
        have HF11 := hide (HF10.out.setL (.int .i64 M))
        go_wp2_with
          ( at_builtin
            refine wpList_append_own _ rfl (.const (.slice none 0 0)) (.tmp 25) _ rfl (gS + 1) 3 i0 (.int .i64 0) 1 8 Try.underlying22 hi0 iz0 iz1 iz2 rfl (by decide) _ _ _ rfl (World.ownsRow_nil _ _ _ _) _ n2 n2 (sh.map (Value.int .i64)) rfl (by simp [HLEN.out]) (fun j u hu => HI11.out.srow.cells (g := gS) rfl j u hu) (by intro u hu; obtain ⟨z, _, rfl⟩ := List.mem_map.1 hu; rfl) (by unfold maxLen; omega) (by omega) (by first | exact hz11 | (simp; omega)) ?_
            intro v12 w12 hown hgrow _
            obtain ⟨A12, c12, rfl⟩ := own_form hown
            have hb12 := below_of_only hgrow (Nat.le_refl _) (fun k hk => absurd (show (none : Option Nat) = some k from hk) (by simp))
            have hI12 := SrI.below HI11.out hb12
            have HF12 := hide (HF11.out.trans (FrS.of_below hb12))
            have HO12 := hide (show w12.ownsRow (gS + 1) 3 1 (.slice A12 n2 c12) n2 (sh.map (Value.int .i64)) by simpa using hown)
            have HI12 := hide hI12
            obtain ⟨_, _⟩ := blk1 hI12.best
            clear hown hgrow hb12 hI12 )
        go_end0
        exact ⟨rfl, sh, .slice A12 n2 c12, HTK.out, by rw [HR.out]; exact SrI.setBest HI12.out (by rw [HLEN.out]; exact HO12.out), HF12.out.setB _⟩
  | succ m ih =>
    intro pred rem pre a0 a1 a2 p0 p1 p2 L bst sh vb dz w hdz hm hcp hpl htk hok hI
    subst hdz
    obtain ⟨⟨f, t, x⟩, rem, rfl⟩ : ∃ c r, rem = c :: r := by
      cases rem with
      | nil => simp at hm
      | cons c r => exact ⟨c, r, rfl⟩
    obtain ⟨M, hM⟩ : ∃ M, cst ⟨a0, a1, a2, p0, p1, p2⟩ = M := ⟨_, rfl⟩
    have hMb := cst_in hok
    rw [hM] at hMb
    obtain ⟨d, hd⟩ : ∃ d, pred.length = d := ⟨_, rfl⟩
    have hdn : d < n2 := by have h1 := hcs.len; have h2 := congrArg List.length hcp; simp at h2; omega
    have hzc : cs[d]? = some (f, t, x) := by rw [hcp, ← hd]; simp
    have hvk : vK f t x = true := vCs_mem hv (List.mem_of_getElem? hzc)
    have hlen := hI.len
    rw [hd] at htk hok ⊢
    have Hd := hide hd
    have HI := hide hI
    have KC := hide (fun w' => cost_b a0 a1 a2 p0 p1 p2 M w' hM)
    have hg2 := hI.be.size
    have hlt4 := hI.least.lt
    have hlt6 := hI.fn.lt
    have ho := hI.o
    obtain ⟨_, _⟩ := blk1 hI.least
    have IH := hide ih
    have HPC := hide (And.intro hcp (And.intro hpl hm))
    clear ih
    by_cases hcut : 0 ≤ L ∧ L ≤ M
    · have HR := hide (show srch n1 ((f, t, x) :: rem) ⟨a0, a1, a2, p0, p1, p2⟩ pre (L, bst) = (L, bst) from srch_cut (by rw [hM]; exact hcut))
      obtain ⟨q1, q2⟩ := hcut
      have HTK := hide htk
      clear hI hok hM hd hpl hcp htk hm hzc hvk hlen
      go_enter Try.func54, Try.ntmps54
      go_wp2_with fail
      obtain ⟨wa, hwa⟩ : ∃ wa, w.alloc (.cells #[.int .i64 a0, .int .i64 a1, .int .i64 a2, .int .i64 p0, .int .i64 p1, .int .i64 p2] 59) = wa := ⟨_, rfl⟩
      obtain ⟨gf, hgf⟩ : ∃ gf, w.heap.size = gf := ⟨_, rfl⟩
      have hx : Blk wa gf 59 #[.int .i64 a0, .int .i64 a1, .int .i64 a2, .int .i64 p0, .int .i64 p1, .int .i64 p2] := by rw [← hwa, ← hgf]; exact Blk.new _ _ _
      have hl : Blk wa b4 3 #[.int .i64 L] := by rw [← hwa]; exact HI.out.least.alloc _
      have HIa := hide (HI.out.alloc (.cells #[.int .i64 a0, .int .i64 a1, .int .i64 a2, .int .i64 p0, .int .i64 p1, .int .i64 p2] 59))
      rw [hwa] at HIa
      have HFa := hide (show FrS b3 b4 gS w wa from by rw [← hwa]; exact FrS.of_below ((Below.refl _ _).alloc (Nat.le_refl _) _))
      have hgl : gf < wa.heap.size := hx.lt
      rw [hwa, hgf]
      have Hgf := hide hgf
      clear hwa hgf
      obtain ⟨_, _, _, _, _, _, _, _, _, _, _, _⟩ := blk6 hx
      obtain ⟨_, _⟩ := blk1 hl
      go_region_held3 (fun w' => w'.cell? ⟨b4, 0, none⟩ = some (.int .i64 L) ∧ w'.cell? ⟨gf, 0, none⟩ = some (.int .i64 a0) ∧ w'.cell? ⟨gf, 1, none⟩ = some (.int .i64 a1) ∧ w'.cell? ⟨gf, 2, none⟩ = some (.int .i64 a2) ∧ w'.cell? ⟨gf, 3, none⟩ = some (.int .i64 p0) ∧ w'.cell? ⟨gf, 4, none⟩ = some (.int .i64 p1) ∧ w'.cell? ⟨gf, 5, none⟩ = some (.int .i64 p2))
        (first | (exact s0_mk (by repeat (first | (with_reducible assumption) | (with_reducible refine Blk.drew ?_) | (with_reducible refine Blk.drewN ?_ _) | (with_reducible refine Blk.alloc ?_ _))) (by repeat (first | (with_reducible assumption) | (with_reducible refine Blk.drew ?_) | (with_reducible refine Blk.drewN ?_ _) | (with_reducible refine Blk.alloc ?_ _)))))
        (( go_at_call 49
           with_reducible refine (KC.out _).mono ?_
           rintro e w8 ⟨rfl, hb⟩
           have hx8 : Blk w8 gf 59 #[.int .i64 a0, .int .i64 a1, .int .i64 a2, .int .i64 p0, .int .i64 p1, .int .i64 p2] := by
             refine Blk.below ?_ hb ?_
             · repeat (first | (with_reducible assumption) | (with_reducible refine Blk.drew ?_) | (with_reducible refine Blk.drewN ?_ _) | (with_reducible refine Blk.alloc ?_ _))
             · refine Blk.lt (t := 59) (cs := #[.int .i64 a0, .int .i64 a1, .int .i64 a2, .int .i64 p0, .int .i64 p1, .int .i64 p2]) ?_
               repeat (first | (with_reducible assumption) | (with_reducible refine Blk.drew ?_) | (with_reducible refine Blk.drewN ?_ _) | (with_reducible refine Blk.alloc ?_ _))
           have hl8 : Blk w8 b4 3 #[.int .i64 L] := by
             refine Blk.below ?_ hb ?_
             · repeat (first | (with_reducible assumption) | (with_reducible refine Blk.drew ?_) | (with_reducible refine Blk.drewN ?_ _) | (with_reducible refine Blk.alloc ?_ _))
             · refine Blk.lt (t := 3) (cs := #[.int .i64 L]) ?_
               repeat (first | (with_reducible assumption) | (with_reducible refine Blk.drew ?_) | (with_reducible refine Blk.drewN ?_ _) | (with_reducible refine Blk.alloc ?_ _))
           have hI8 := SrI.below (SrI.drew HIa.out) hb
           have hF8 : FrS b3 b4 gS w w8 := FrS.trans HFa.out (FrS.trans (FrS.of_below ((Below.refl _ _).drew)) (FrS.of_below hb))
           clear hb ))
      go_wp2_with fail
      go_end0
      exact ⟨rfl, sh, vb, HTK.out, by rw [HR.out]; exact hI8, hF8⟩
    · have HR := hide (show srch n1 ((f, t, x) :: rem) ⟨a0, a1, a2, p0, p1, p2⟩ pre (L, bst) = (List.range n1).foldl (fun s (r : Nat) => srch n1 rem (srv ⟨a0, a1, a2, p0, p1, p2⟩ r (f, t, x)) (pre ++ [(r : Int)]) s) (L, bst) from srch_go (by rw [hM]; exact hcut))
      obtain ⟨bc, oc, f', t', x', rfl, hbc, hz', e1, e2, e3⟩ := RdC.at_ hcs hdn
      rw [hzc] at hz'
      have hz' := Option.some.inj hz'
      injection hz' with y1 y2
      injection y2 with y2 y3
      subst y1 y2 y3
      have HCE := hide (And.intro e1 (And.intro e2 e3))
      have HTK := hide htk
      have Hok := hide hok
      have Hvk := hide hvk
      have hdd : ((d : Int) == (n2 : Int)) = false := by rw [beq_eq_false_iff_ne]; omega
      have hdz : (d : Int) < (n2 : Int) := by omega
      clear hI hok hM hd hpl hcp htk hm hlen hzc hvk e1 e2 e3
      by_cases hL : 0 ≤ L
      · have q2 : M < L := by omega
        clear hcut
        go_enter Try.func54, Try.ntmps54
        go_wp2_with fail
        obtain ⟨wa, hwa⟩ : ∃ wa, w.alloc (.cells #[.int .i64 a0, .int .i64 a1, .int .i64 a2, .int .i64 p0, .int .i64 p1, .int .i64 p2] 59) = wa := ⟨_, rfl⟩
        obtain ⟨gf, hgf⟩ : ∃ gf, w.heap.size = gf := ⟨_, rfl⟩
        have hx : Blk wa gf 59 #[.int .i64 a0, .int .i64 a1, .int .i64 a2, .int .i64 p0, .int .i64 p1, .int .i64 p2] := by rw [← hwa, ← hgf]; exact Blk.new _ _ _
        have hl : Blk wa b4 3 #[.int .i64 L] := by rw [← hwa]; exact HI.out.least.alloc _
        have HIa := hide (HI.out.alloc (.cells #[.int .i64 a0, .int .i64 a1, .int .i64 a2, .int .i64 p0, .int .i64 p1, .int .i64 p2] 59))
        rw [hwa] at HIa
        have HFa := hide (show FrS b3 b4 gS w wa from by rw [← hwa]; exact FrS.of_below ((Below.refl _ _).alloc (Nat.le_refl _) _))
        have hgl : gf < wa.heap.size := hx.lt
        rw [hwa, hgf]
        have Hgf := hide hgf
        clear hwa hgf
        obtain ⟨_, _, _, _, _, _, _, _, _, _, _, _⟩ := blk6 hx
        obtain ⟨_, _⟩ := blk1 hl
        go_region_held3 (fun w' => w'.cell? ⟨b4, 0, none⟩ = some (.int .i64 L) ∧ w'.cell? ⟨gf, 0, none⟩ = some (.int .i64 a0) ∧ w'.cell? ⟨gf, 1, none⟩ = some (.int .i64 a1) ∧ w'.cell? ⟨gf, 2, none⟩ = some (.int .i64 a2) ∧ w'.cell? ⟨gf, 3, none⟩ = some (.int .i64 p0) ∧ w'.cell? ⟨gf, 4, none⟩ = some (.int .i64 p1) ∧ w'.cell? ⟨gf, 5, none⟩ = some (.int .i64 p2))
          (first | (exact s0_mk (by repeat (first | (with_reducible assumption) | (with_reducible refine Blk.drew ?_) | (with_reducible refine Blk.drewN ?_ _) | (with_reducible refine Blk.alloc ?_ _))) (by repeat (first | (with_reducible assumption) | (with_reducible refine Blk.drew ?_) | (with_reducible refine Blk.drewN ?_ _) | (with_reducible refine Blk.alloc ?_ _)))))
          (( go_at_call 49
             with_reducible refine (KC.out _).mono ?_
             rintro e w8 ⟨rfl, hb⟩
             have hx8 : Blk w8 gf 59 #[.int .i64 a0, .int .i64 a1, .int .i64 a2, .int .i64 p0, .int .i64 p1, .int .i64 p2] := by
               refine Blk.below ?_ hb ?_
               · repeat (first | (with_reducible assumption) | (with_reducible refine Blk.drew ?_) | (with_reducible refine Blk.drewN ?_ _) | (with_reducible refine Blk.alloc ?_ _))
               · refine Blk.lt (t := 59) (cs := #[.int .i64 a0, .int .i64 a1, .int .i64 a2, .int .i64 p0, .int .i64 p1, .int .i64 p2]) ?_
                 repeat (first | (with_reducible assumption) | (with_reducible refine Blk.drew ?_) | (with_reducible refine Blk.drewN ?_ _) | (with_reducible refine Blk.alloc ?_ _))
             have hl8 : Blk w8 b4 3 #[.int .i64 L] := by
               refine Blk.below ?_ hb ?_
               · repeat (first | (with_reducible assumption) | (with_reducible refine Blk.drew ?_) | (with_reducible refine Blk.drewN ?_ _) | (with_reducible refine Blk.alloc ?_ _))
               · refine Blk.lt (t := 3) (cs := #[.int .i64 L]) ?_
                 repeat (first | (with_reducible assumption) | (with_reducible refine Blk.drew ?_) | (with_reducible refine Blk.drewN ?_ _) | (with_reducible refine Blk.alloc ?_ _))
             have hI8 := SrI.below (SrI.drew HIa.out) hb
             have hF8 : FrS b3 b4 gS w w8 := FrS.trans HFa.out (FrS.trans (FrS.of_below ((Below.refl _ _).drew)) (FrS.of_below hb))
             clear hb ))
        have HI8 := hide hI8
        have HF8 := hide hF8
        obtain ⟨_, _⟩ := blk1 hI8.list
        obtain ⟨_, _⟩ := blk1 hI8.cars
        go_wp2_with fail
        go_loopw [29] (fun iv wr => ∃ (r : Nat) (L1 : Int) (bst1 sh1 : List Int) (vb1 : Value), r ≤ n1 ∧ iv = .int .i64 r ∧ Hid ((List.range r).foldl (fun s (r : Nat) => srch n1 rem (srv ⟨a0, a1, a2, p0, p1, p2⟩ r (f, t, x)) (pre ++ [(r : Int)]) s) (L, bst) = (L1, bst1)) ∧ Hid (sh1.take d = pre) ∧ Hid (SrI W wr A1 (some ⟨bc, oc, none⟩) n1 c1 n2 c2 b1 b2 b3 b4 gS b5 b6 L1 bst1 sh1 vb1) ∧ Hid (FrS b3 b4 gS w wr) ∧ Blk wr gf 59 #[.int .i64 a0, .int .i64 a1, .int .i64 a2, .int .i64 p0, .int .i64 p1, .int .i64 p2]) (fun iv _ => n1 - (intOf iv).toNat)
        case atStart => exact ⟨0, L, bst, sh, vb, Nat.zero_le _, rfl, hide rfl, HTK, HI8, HF8, hx8⟩
        case round =>
          obtain ⟨r, L1, bst1, sh1, vb1, hr, rfl, HFO, HT1, HI1, HF1, hx1⟩ := hrel
          by_cases hrn : r < n1
          · have hrz : (r : Int) < (n1 : Int) := by omega
            have hlen1 := HI1.out.len
            have hcell := HI1.out.srow.cellAt d (by omega)
            obtain ⟨u, hu⟩ : ∃ u, (sh1.map (Value.int .i64))[d]? = some u := ⟨_, List.getElem?_eq_getElem (by rw [List.length_map]; omega)⟩
            rw [hu] at hcell
            have hfr := HI1.out.srow.frozenAt d
            obtain ⟨b0, b1', b2', q0, q1', q2', hFr⟩ := ex6 (srv ⟨a0, a1, a2, p0, p1, p2⟩ r (f, t, x))
            obtain ⟨L9, bst9, hR9⟩ : ∃ L9 b9, srch n1 rem ⟨b0, b1', b2', q0, q1', q2'⟩ (pre ++ [(r : Int)]) (L1, bst1) = (L9, b9) := ⟨_, _, rfl⟩
            have HFO2 := hide (show (List.range (r + 1)).foldl (fun s (r : Nat) => srch n1 rem (srv ⟨a0, a1, a2, p0, p1, p2⟩ r (f, t, x)) (pre ++ [(r : Int)]) s) (L, bst) = (L9, bst9) by
              rw [List.range_succ, List.foldl_append, HFO.out]
              simp only [List.foldl_cons, List.foldl_nil]
              rw [hFr, hR9])
            have hpl := HPC.out.2.1
            have KS := hide (fun w' => serve_any a0 a1 a2 p0 p1 p2 b0 b1' b2' q0 q1' q2' r f t x w' (by omega) (Hok.out.mono (by omega)) Hvk.out hFr)
            have HST := hide (show (sh1.set d (r : Int)).take (d + 1) = pre ++ [(r : Int)] by rw [set_take _ _ _ (by omega), HT1.out])
            have KI := hide (fun (w' : World) (hI' : SrI W w' A1 (some ⟨bc, oc, none⟩) n1 c1 n2 c2 b1 b2 b3 b4 gS b5 b6 L1 bst1 (sh1.set d (r : Int)) vb1) => IH.out (pred ++ [(f, t, x)]) rem (pre ++ [(r : Int)]) b0 b1' b2' q0 q1' q2' L1 bst1 (sh1.set d (r : Int)) vb1 ((d : Int) + 1) w' (by rw [List.length_append, Hd.out]; rfl) (by have := HPC.out.2.2; simpa using this) (by rw [HPC.out.1]; simp) (by simp [hpl]) (by rw [List.length_append, Hd.out]; exact HST.out) (by rw [List.length_append, Hd.out, ← hFr]; exact (Hok.out.srv r Hvk.out).mono (by simp only [List.length_cons, List.length_nil]; omega)) hI')
            rw [hR9] at KI
            have hw1 : IntKind.i64.wrap ((d : Int) + 1) = (d : Int) + 1 := IntWalk.i64_in _ (by omega)
            obtain ⟨_, _⟩ := blk1 HI1.out.shr
            clear hu hFr hR9 hpl hlen1
            go_wp2_with fail
            obtain ⟨wb, hwb⟩ : ∃ wb, wr.setCell ⟨gS, d, none⟩ (.int .i64 (r : Int)) = wb := ⟨_, rfl⟩
            have hIb : SrI W wb A1 (some ⟨bc, oc, none⟩) n1 c1 n2 c2 b1 b2 b3 b4 gS b5 b6 L1 bst1 (sh1.set d (r : Int)) vb1 := by rw [← hwb]; exact HI1.out.setShare d r
            have HFb := hide (show FrS b3 b4 gS w wb by rw [← hwb]; exact HF1.out.setS d _)
            have hxb : Blk wb gf 59 #[.int .i64 a0, .int .i64 a1, .int .i64 a2, .int .i64 p0, .int .i64 p1, .int .i64 p2] := by rw [← hwb]; exact hx1.far (p := ⟨gS, d, none⟩) (show gf ≠ gS by have := Hgf.out; omega) _
            have h6b := hIb.fn
            have h2b' := hIb.list
            have hbb := hIb.be
            rw [hwb]
            clear hwb hcell hfr hx1
            go_region_held3 (fun w' => w'.cell? ⟨b6, 0, none⟩ = some (.func (.func 54) #[] #[.pointer (some ⟨b4, 0, none⟩), .pointer (some ⟨b2, 0, none⟩), .pointer (some ⟨b5, 0, none⟩), .pointer (some ⟨b3, 0, none⟩), .pointer (some ⟨b1, 0, none⟩), .pointer (some ⟨b6, 0, none⟩)]) ∧ w'.cell? ⟨gf, 0, none⟩ = some (.int .i64 a0) ∧ w'.cell? ⟨gf, 1, none⟩ = some (.int .i64 a1) ∧ w'.cell? ⟨gf, 2, none⟩ = some (.int .i64 a2) ∧ w'.cell? ⟨gf, 3, none⟩ = some (.int .i64 p0) ∧ w'.cell? ⟨gf, 4, none⟩ = some (.int .i64 p1) ∧ w'.cell? ⟨gf, 5, none⟩ = some (.int .i64 p2) ∧ w'.cell? ⟨b2, 0, none⟩ = some (.slice (some ⟨bc, oc, none⟩) n2 c2) ∧ w'.cell? ⟨bc, oc + d * 3, none⟩ = some (.int .i64 f) ∧ w'.cell? ⟨bc, oc + d * 3 + 1, none⟩ = some (.int .i64 t) ∧ w'.cell? ⟨bc, oc + d * 3 + 2, none⟩ = some (.int .i64 x))
              (first | (exact s1_mk hbc HCE.out.1 HCE.out.2.1 HCE.out.2.2 (by repeat (first | (with_reducible assumption) | (with_reducible refine Blk.drew ?_) | (with_reducible refine Blk.drewN ?_ _) | (with_reducible refine Blk.alloc ?_ _))) (by repeat (first | (with_reducible assumption) | (with_reducible refine Blk.drew ?_) | (with_reducible refine Blk.drewN ?_ _) | (with_reducible refine Blk.alloc ?_ _))) (by repeat (first | (with_reducible assumption) | (with_reducible refine Blk.drew ?_) | (with_reducible refine Blk.drewN ?_ _) | (with_reducible refine Blk.alloc ?_ _))) (by repeat (first | (with_reducible assumption) | (with_reducible refine Below.drew ?_) | (with_reducible refine below_drewN ?_ _)))))
              (first
               | ( go_at_call 48
                   with_reducible refine (KS.out _).mono ?_
                   rintro e w10 ⟨rfl, hb⟩
                   have hI10 := SrI.below (SrI.drew hIb) hb
                   have hF10 : FrS b3 b4 gS w w10 := HFb.out.trans ((FrS.of_below (Below.refl _ _).drew).trans (FrS.of_below hb))
                   have hx10 : Blk w10 gf 59 #[.int .i64 a0, .int .i64 a1, .int .i64 a2, .int .i64 p0, .int .i64 p1, .int .i64 p2] := Blk.below (Blk.drew hxb) hb hxb.lt
                   have h610 := hI10.fn
                   have h210 := hI10.list
                   have hbe10 := hI10.be
                   clear hb )
               | ( go_at_call 54
                   with_reducible refine (KI.out _ ?_).mono ?_
                   · repeat (first | (with_reducible assumption) | (with_reducible refine SrI.drew ?_) | (with_reducible refine SrI.drewN ?_ _))
                   rintro e w11 ⟨rfl, sh9, vb9, ht9, hI9, hF9⟩
                   have hI11 : SrI W w11 A1 (some ⟨bc, oc, none⟩) n1 c1 n2 c2 b1 b2 b3 b4 gS b5 b6 L9 bst9 sh9 vb9 := hI9
                   have hx11 : Blk w11 gf 59 #[.int .i64 a0, .int .i64 a1, .int .i64 a2, .int .i64 p0, .int .i64 p1, .int .i64 p2] := hF9.blk hx10 (by have := Hgf.out; omega) (by have := Hgf.out; omega) (by have := Hgf.out; omega)
                   have hF11 : FrS b3 b4 gS w w11 := hF10.trans hF9
                   have h611 := hI11.fn
                   have h211 := hI11.list
                   have hbe11 := hI11.be
                   clear hI9 hF9 ))
            go_wp2_with fail
            go_roundw
            case rel =>
              refine ⟨r + 1, L9, bst9, sh9, vb9, by omega, by go_num, HFO2, hide ?_, hide hI11, hide hF11, hx11⟩
              have hk := ht9
              rw [List.length_append, Hd.out] at hk
              have hk2 := congrArg (List.take d) hk
              rw [List.take_take, Nat.min_eq_left (by simp only [List.length_cons, List.length_nil]; omega), List.take_left' (by rw [HPC.out.2.1, Hd.out])] at hk2
              exact hk2
            case measure => simp [intOf]; omega
          · obtain rfl : n1 = r := by omega
            have HE := hide (show srch n1 ((f, t, x) :: rem) ⟨a0, a1, a2, p0, p1, p2⟩ pre (L, bst) = (L1, bst1) by rw [HR.out, HFO.out])
            go_wp2_with fail
            go_end0
            exact ⟨rfl, sh1, vb1, HT1.out, by rw [HE.out]; exact HI1.out, HF1.out⟩
      · have q1 : decide (0 ≤ L) = false := by simp; omega
        clear hcut
        go_enter Try.func54, Try.ntmps54
        go_wp2_with fail
        obtain ⟨wa, hwa⟩ : ∃ wa, w.alloc (.cells #[.int .i64 a0, .int .i64 a1, .int .i64 a2, .int .i64 p0, .int .i64 p1, .int .i64 p2] 59) = wa := ⟨_, rfl⟩
        obtain ⟨gf, hgf⟩ : ∃ gf, w.heap.size = gf := ⟨_, rfl⟩
        have hx : Blk wa gf 59 #[.int .i64 a0, .int .i64 a1, .int .i64 a2, .int .i64 p0, .int .i64 p1, .int .i64 p2] := by rw [← hwa, ← hgf]; exact Blk.new _ _ _
        have hl : Blk wa b4 3 #[.int .i64 L] := by rw [← hwa]; exact HI.out.least.alloc _
        have HIa := hide (HI.out.alloc (.cells #[.int .i64 a0, .int .i64 a1, .int .i64 a2, .int .i64 p0, .int .i64 p1, .int .i64 p2] 59))
        rw [hwa] at HIa
        have HFa := hide (show FrS b3 b4 gS w wa from by rw [← hwa]; exact FrS.of_below ((Below.refl _ _).alloc (Nat.le_refl _) _))
        have hgl : gf < wa.heap.size := hx.lt
        rw [hwa, hgf]
        have Hgf := hide hgf
        clear hwa hgf
        obtain ⟨_, _, _, _, _, _, _, _, _, _, _, _⟩ := blk6 hx
        obtain ⟨_, _⟩ := blk1 hl
        go_quiet (fail)
        obtain ⟨w8, hw8⟩ : ∃ w8, wa.drewN nq = w8 := ⟨_, rfl⟩
        have hx8 : Blk w8 gf 59 #[.int .i64 a0, .int .i64 a1, .int .i64 a2, .int .i64 p0, .int .i64 p1, .int .i64 p2] := by rw [← hw8]; exact hx.drewN _
        have hI8 := SrI.drewN HIa.out nq
        rw [hw8] at hI8
        have hF8 : FrS b3 b4 gS w w8 := by rw [← hw8]; exact HFa.out.trans (FrS.of_below (below_drewN (Below.refl _ _) _))
        rw [hw8]
        clear hw8
        have HI8 := hide hI8
        have HF8 := hide hF8
        obtain ⟨_, _⟩ := blk1 hI8.list
        obtain ⟨_, _⟩ := blk1 hI8.cars
        go_wp2_with fail
        go_loopw [29] (fun iv wr => ∃ (r : Nat) (L1 : Int) (bst1 sh1 : List Int) (vb1 : Value), r ≤ n1 ∧ iv = .int .i64 r ∧ Hid ((List.range r).foldl (fun s (r : Nat) => srch n1 rem (srv ⟨a0, a1, a2, p0, p1, p2⟩ r (f, t, x)) (pre ++ [(r : Int)]) s) (L, bst) = (L1, bst1)) ∧ Hid (sh1.take d = pre) ∧ Hid (SrI W wr A1 (some ⟨bc, oc, none⟩) n1 c1 n2 c2 b1 b2 b3 b4 gS b5 b6 L1 bst1 sh1 vb1) ∧ Hid (FrS b3 b4 gS w wr) ∧ Blk wr gf 59 #[.int .i64 a0, .int .i64 a1, .int .i64 a2, .int .i64 p0, .int .i64 p1, .int .i64 p2]) (fun iv _ => n1 - (intOf iv).toNat)
        case atStart => exact ⟨0, L, bst, sh, vb, Nat.zero_le _, rfl, hide rfl, HTK, HI8, HF8, hx8⟩
        case round =>
          obtain ⟨r, L1, bst1, sh1, vb1, hr, rfl, HFO, HT1, HI1, HF1, hx1⟩ := hrel
          by_cases hrn : r < n1
          · have hrz : (r : Int) < (n1 : Int) := by omega
            have hlen1 := HI1.out.len
            have hcell := HI1.out.srow.cellAt d (by omega)
            obtain ⟨u, hu⟩ : ∃ u, (sh1.map (Value.int .i64))[d]? = some u := ⟨_, List.getElem?_eq_getElem (by rw [List.length_map]; omega)⟩
            rw [hu] at hcell
            have hfr := HI1.out.srow.frozenAt d
            obtain ⟨b0, b1', b2', q0, q1', q2', hFr⟩ := ex6 (srv ⟨a0, a1, a2, p0, p1, p2⟩ r (f, t, x))
            obtain ⟨L9, bst9, hR9⟩ : ∃ L9 b9, srch n1 rem ⟨b0, b1', b2', q0, q1', q2'⟩ (pre ++ [(r : Int)]) (L1, bst1) = (L9, b9) := ⟨_, _, rfl⟩
            have HFO2 := hide (show (List.range (r + 1)).foldl (fun s (r : Nat) => srch n1 rem (srv ⟨a0, a1, a2, p0, p1, p2⟩ r (f, t, x)) (pre ++ [(r : Int)]) s) (L, bst) = (L9, bst9) by
              rw [List.range_succ, List.foldl_append, HFO.out]
              simp only [List.foldl_cons, List.foldl_nil]
              rw [hFr, hR9])
            have hpl := HPC.out.2.1
            have KS := hide (fun w' => serve_any a0 a1 a2 p0 p1 p2 b0 b1' b2' q0 q1' q2' r f t x w' (by omega) (Hok.out.mono (by omega)) Hvk.out hFr)
            have HST := hide (show (sh1.set d (r : Int)).take (d + 1) = pre ++ [(r : Int)] by rw [set_take _ _ _ (by omega), HT1.out])
            have KI := hide (fun (w' : World) (hI' : SrI W w' A1 (some ⟨bc, oc, none⟩) n1 c1 n2 c2 b1 b2 b3 b4 gS b5 b6 L1 bst1 (sh1.set d (r : Int)) vb1) => IH.out (pred ++ [(f, t, x)]) rem (pre ++ [(r : Int)]) b0 b1' b2' q0 q1' q2' L1 bst1 (sh1.set d (r : Int)) vb1 ((d : Int) + 1) w' (by rw [List.length_append, Hd.out]; rfl) (by have := HPC.out.2.2; simpa using this) (by rw [HPC.out.1]; simp) (by simp [hpl]) (by rw [List.length_append, Hd.out]; exact HST.out) (by rw [List.length_append, Hd.out, ← hFr]; exact (Hok.out.srv r Hvk.out).mono (by simp only [List.length_cons, List.length_nil]; omega)) hI')
            rw [hR9] at KI
            have hw1 : IntKind.i64.wrap ((d : Int) + 1) = (d : Int) + 1 := IntWalk.i64_in _ (by omega)
            obtain ⟨_, _⟩ := blk1 HI1.out.shr
            clear hu hFr hR9 hpl hlen1
            go_wp2_with fail
            obtain ⟨wb, hwb⟩ : ∃ wb, wr.setCell ⟨gS, d, none⟩ (.int .i64 (r : Int)) = wb := ⟨_, rfl⟩
            have hIb : SrI W wb A1 (some ⟨bc, oc, none⟩) n1 c1 n2 c2 b1 b2 b3 b4 gS b5 b6 L1 bst1 (sh1.set d (r : Int)) vb1 := by rw [← hwb]; exact HI1.out.setShare d r
            have HFb := hide (show FrS b3 b4 gS w wb by rw [← hwb]; exact HF1.out.setS d _)
            have hxb : Blk wb gf 59 #[.int .i64 a0, .int .i64 a1, .int .i64 a2, .int .i64 p0, .int .i64 p1, .int .i64 p2] := by rw [← hwb]; exact hx1.far (p := ⟨gS, d, none⟩) (show gf ≠ gS by have := Hgf.out; omega) _
            have h6b := hIb.fn
            have h2b' := hIb.list
            have hbb := hIb.be
            rw [hwb]
            clear hwb hcell hfr hx1
            go_region_held3 (fun w' => w'.cell? ⟨b6, 0, none⟩ = some (.func (.func 54) #[] #[.pointer (some ⟨b4, 0, none⟩), .pointer (some ⟨b2, 0, none⟩), .pointer (some ⟨b5, 0, none⟩), .pointer (some ⟨b3, 0, none⟩), .pointer (some ⟨b1, 0, none⟩), .pointer (some ⟨b6, 0, none⟩)]) ∧ w'.cell? ⟨gf, 0, none⟩ = some (.int .i64 a0) ∧ w'.cell? ⟨gf, 1, none⟩ = some (.int .i64 a1) ∧ w'.cell? ⟨gf, 2, none⟩ = some (.int .i64 a2) ∧ w'.cell? ⟨gf, 3, none⟩ = some (.int .i64 p0) ∧ w'.cell? ⟨gf, 4, none⟩ = some (.int .i64 p1) ∧ w'.cell? ⟨gf, 5, none⟩ = some (.int .i64 p2) ∧ w'.cell? ⟨b2, 0, none⟩ = some (.slice (some ⟨bc, oc, none⟩) n2 c2) ∧ w'.cell? ⟨bc, oc + d * 3, none⟩ = some (.int .i64 f) ∧ w'.cell? ⟨bc, oc + d * 3 + 1, none⟩ = some (.int .i64 t) ∧ w'.cell? ⟨bc, oc + d * 3 + 2, none⟩ = some (.int .i64 x))
              (first | (exact s1_mk hbc HCE.out.1 HCE.out.2.1 HCE.out.2.2 (by repeat (first | (with_reducible assumption) | (with_reducible refine Blk.drew ?_) | (with_reducible refine Blk.drewN ?_ _) | (with_reducible refine Blk.alloc ?_ _))) (by repeat (first | (with_reducible assumption) | (with_reducible refine Blk.drew ?_) | (with_reducible refine Blk.drewN ?_ _) | (with_reducible refine Blk.alloc ?_ _))) (by repeat (first | (with_reducible assumption) | (with_reducible refine Blk.drew ?_) | (with_reducible refine Blk.drewN ?_ _) | (with_reducible refine Blk.alloc ?_ _))) (by repeat (first | (with_reducible assumption) | (with_reducible refine Below.drew ?_) | (with_reducible refine below_drewN ?_ _)))))
              (first
               | ( go_at_call 48
                   with_reducible refine (KS.out _).mono ?_
                   rintro e w10 ⟨rfl, hb⟩
                   have hI10 := SrI.below (SrI.drew hIb) hb
                   have hF10 : FrS b3 b4 gS w w10 := HFb.out.trans ((FrS.of_below (Below.refl _ _).drew).trans (FrS.of_below hb))
                   have hx10 : Blk w10 gf 59 #[.int .i64 a0, .int .i64 a1, .int .i64 a2, .int .i64 p0, .int .i64 p1, .int .i64 p2] := Blk.below (Blk.drew hxb) hb hxb.lt
                   have h610 := hI10.fn
                   have h210 := hI10.list
                   have hbe10 := hI10.be
                   clear hb )
               | ( go_at_call 54
                   with_reducible refine (KI.out _ ?_).mono ?_
                   · repeat (first | (with_reducible assumption) | (with_reducible refine SrI.drew ?_) | (with_reducible refine SrI.drewN ?_ _))
                   rintro e w11 ⟨rfl, sh9, vb9, ht9, hI9, hF9⟩
                   have hI11 : SrI W w11 A1 (some ⟨bc, oc, none⟩) n1 c1 n2 c2 b1 b2 b3 b4 gS b5 b6 L9 bst9 sh9 vb9 := hI9
                   have hx11 : Blk w11 gf 59 #[.int .i64 a0, .int .i64 a1, .int .i64 a2, .int .i64 p0, .int .i64 p1, .int .i64 p2] := hF9.blk hx10 (by have := Hgf.out; omega) (by have := Hgf.out; omega) (by have := Hgf.out; omega)
                   have hF11 : FrS b3 b4 gS w w11 := hF10.trans hF9
                   have h611 := hI11.fn
                   have h211 := hI11.list
                   have hbe11 := hI11.be
                   clear hI9 hF9 ))
            go_wp2_with fail
            go_roundw
            case rel =>
              refine ⟨r + 1, L9, bst9, sh9, vb9, by omega, by go_num, HFO2, hide ?_, hide hI11, hide hF11, hx11⟩
              have hk := ht9
              rw [List.length_append, Hd.out] at hk
              have hk2 := congrArg (List.take d) hk
              rw [List.take_take, Nat.min_eq_left (by simp only [List.length_cons, List.length_nil]; omega), List.take_left' (by rw [HPC.out.2.1, Hd.out])] at hk2
              exact hk2
            case measure => simp [intOf]; omega
          · obtain rfl : n1 = r := by omega
            have HE := hide (show srch n1 ((f, t, x) :: rem) ⟨a0, a1, a2, p0, p1, p2⟩ pre (L, bst) = (L1, bst1) by rw [HR.out, HFO.out])
            go_wp2_with fail
            go_end0
            exact ⟨rfl, sh1, vb1, HT1.out, by rw [HE.out]; exact HI1.out, HF1.out⟩
end Go.Proofs.Ytmhaclhcllndeaa
