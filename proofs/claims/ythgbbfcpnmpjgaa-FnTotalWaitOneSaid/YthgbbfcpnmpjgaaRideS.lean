/-
  The specification's ride: who is inside, which floors have to be visited, whether one lies ahead.
-/
import Derived.Test.YthgbbfcpnmpjgaaRideH
namespace Go.Proofs.Ythgbbfcpnmpjgaa
open Go.RowKit
set_option linter.unusedSimpArgs false
set_option linter.unusedVariables false

/-- The two rows of times and the row of calls. -/
structure SH (B : Nat) (w : World) (g g' : Nat) (Ac : Option Addr) (n cc co cf : Nat) (ps : List Pn) : Prop where
  on_ : w.ownsRow B 3 1 (.slice (some ⟨g, 0, none⟩) n co) n ((ps.map Pn.on).map (Value.int .i64))
  off_ : w.ownsRow B 3 1 (.slice (some ⟨g', 0, none⟩) n cf) n ((ps.map Pn.off).map (Value.int .i64))
  cal : w.ownsRow B 40 3 (.slice Ac n cc) n (cellsC (ps.map callOf))
  ne : g ≠ g'
section
variable {B : Nat} {w w' : World} {g g' : Nat} {Ac : Option Addr} {n cc co cf : Nat} {ps : List Pn}
theorem SH.len (H : SH B w g g' Ac n cc co cf ps) : ps.length = n := by
  have := H.on_.1
  simpa using this
theorem SH.gB (H : SH B w g g' Ac n cc co cf ps) : B ≤ g ∧ B ≤ g' := ⟨(H.on_.lt g rfl).1, (H.off_.lt g' rfl).1⟩
theorem SH.drewN (H : SH B w g g' Ac n cc co cf ps) (q : Nat) : SH B (w.drewN q) g g' Ac n cc co cf ps := ⟨H.on_, H.off_, H.cal, H.ne⟩
theorem SH.drew (H : SH B w g g' Ac n cc co cf ps) : SH B w.drew g g' Ac n cc co cf ps := H.drewN 1
theorem SH.below (H : SH B w g g' Ac n cc co cf ps) {C : Nat} (hb : Below C w w') (hC : w.heap.size ≤ C) : SH B w' g g' Ac n cc co cf ps :=
  ⟨own_below H.on_ hb hC, own_below H.off_ hb hC, own_below H.cal hb hC, H.ne⟩
theorem SH.alloc (H : SH B w g g' Ac n cc co cf ps) (o : Obj) : SH B (w.alloc o) g g' Ac n cc co cf ps :=
  H.below ((Below.refl w.heap.size _).alloc (Nat.le_refl _) o) (Nat.le_refl _)
theorem SH.setOn {l rr : List Pn} {p q : Pn} {i : Nat} (H : SH B w g g' Ac n cc co cf (l ++ p :: rr)) (hi : l.length = i) (h1 : p.off = q.off) (h2 : callOf p = callOf q) {z : Int} (hz : z = q.on) :
    SH B (w.setCell ⟨g, i, none⟩ (.int .i64 z)) g g' Ac n cc co cf (l ++ q :: rr) := by
  subst hz
  have s := (H.on_.stored i (.int .i64 q.on)).1
  rw [show (((l ++ p :: rr).map Pn.on).map (Value.int .i64)).set i (.int .i64 q.on) = ((l ++ q :: rr).map Pn.on).map (Value.int .i64) by rw [List.map_map, List.map_map]; exact set_here (Value.int .i64 ∘ Pn.on) l p q rr i hi] at s
  refine ⟨s, ?_, ?_, H.ne⟩
  · rw [← set_same Pn.off l p q rr h1]
    exact own_setOther H.off_ (by simp [Value.ownBlock]; exact fun e => H.ne e.symm) _
  · rw [← set_same callOf l p q rr h2]
    exact own_setOther H.cal (own_ne_own H.cal H.on_ (by decide)) _
theorem SH.setOff {l rr : List Pn} {p q : Pn} {i : Nat} (H : SH B w g g' Ac n cc co cf (l ++ p :: rr)) (hi : l.length = i) (h1 : p.on = q.on) (h2 : callOf p = callOf q) {z : Int} (hz : z = q.off) :
    SH B (w.setCell ⟨g', i, none⟩ (.int .i64 z)) g g' Ac n cc co cf (l ++ q :: rr) := by
  subst hz
  have s := (H.off_.stored i (.int .i64 q.off)).1
  rw [show (((l ++ p :: rr).map Pn.off).map (Value.int .i64)).set i (.int .i64 q.off) = ((l ++ q :: rr).map Pn.off).map (Value.int .i64) by rw [List.map_map, List.map_map]; exact set_here (Value.int .i64 ∘ Pn.off) l p q rr i hi] at s
  refine ⟨?_, s, ?_, H.ne⟩
  · rw [← set_same Pn.on l p q rr h1]
    exact own_setOther H.on_ (by simp [Value.ownBlock]; exact H.ne) _
  · rw [← set_same callOf l p q rr h2]
    exact own_setOther H.cal (own_ne_own H.cal H.off_ (by decide)) _
theorem SH.at_ {l rr : List Pn} {p : Pn} {i : Nat} (H : SH B w g g' Ac n cc co cf (l ++ p :: rr)) (hi : l.length = i) :
    w.cell? ⟨g, i, none⟩ = some (.int .i64 p.on) ∧ w.cell? ⟨g', i, none⟩ = some (.int .i64 p.off) ∧ w.frozen? ⟨g, i, none⟩ = false ∧ w.frozen? ⟨g', i, none⟩ = false ∧
    ∃ b, Ac = some ⟨b, 0, none⟩ ∧ w.cell? ⟨b, i * 3, none⟩ = some (.int .i64 p.f) ∧ w.cell? ⟨b, i * 3 + 1, none⟩ = some (.int .i64 p.t) ∧ w.cell? ⟨b, i * 3 + 2, none⟩ = some (.int .i64 p.c) := by
  have hn := H.len
  have hlt : i < n := by subst hi; simp at hn; omega
  have c1 := H.on_.cellAt i (by simpa using hlt)
  have c2 := H.off_.cellAt i (by simpa using hlt)
  rw [List.map_map, List.getElem?_map, at_app l p rr i hi] at c1 c2
  refine ⟨c1, c2, H.on_.frozenAt i, H.off_.frozenAt i, ?_⟩
  obtain ⟨b, off, f, t, c, hA, _, hz, d1, d2, d3⟩ := RdC.at_ (Rd.of_own H.cal) hlt
  have hoff : off = 0 := by
    rcases H.cal.2 with ⟨h1, h2⟩ | ⟨g2, cap, cur, hv, _⟩
    · omega
    · injection hv with hv
      rw [hA] at hv
      injection hv with hv
      injection hv
  subst hoff
  rw [List.getElem?_map, at_app l p rr i hi] at hz
  have hz := Option.some.inj hz
  injection hz with e1 e2
  injection e2 with e2 e3
  subst e1 e2 e3
  simp only [Nat.zero_add] at d1 d2 d3
  exact ⟨b, hA, d1, d2, d3⟩
/-- The next person, if there is one. -/
theorem next_pn {l rr : List Pn} {k n : Nat} (h1 : ps = l ++ rr) (h2 : l.length = k) (h3 : ps.length = n) (hlt : k < n) : ∃ p rr', rr = p :: rr' := by
  cases rr with
  | nil => rw [h1, List.append_nil] at h3; omega
  | cons p rr => exact ⟨p, rr, rfl⟩
theorem no_next {l rr : List Pn} {k n : Nat} (h1 : ps = l ++ rr) (h2 : l.length = k) (h3 : ps.length = n) (hlt : ¬ k < n) : rr = [] ∧ l = ps := by
  have : rr = [] := by
    rw [h1, List.length_append] at h3
    exact List.eq_nil_of_length_eq_zero (by omega)
  subst this
  exact ⟨rfl, by simpa using h1.symm⟩
end

set_option maxHeartbeats 400000 in
theorem toInt_any (b : Bool) (m : Nat) (w : World) (hm : (if b = true then 1 else 0) = m) :
    Calls Try.prog 63 #[.bool b] w fun e w' => e = .returned (.int .i64 (m : Int)) ∧ w = w' := by
  subst hm
  cases b
  all_goals
    go_enter Try.func63, Try.ntmps63
    go_wp2
    go_ret
    exact ⟨rfl, rfl⟩
def hasI (zs : List Int) (x : Int) : Bool := zs.contains x
theorem hasI_mem {zs : List Int} {x : Int} : hasI zs x = true ↔ x ∈ zs := List.contains_iff_mem
set_option maxHeartbeats 400000 in
theorem isInR_any (A : Option Addr) (n c : Nat) (zs : List Int) (x : Int) (w : World) (hn : n ≤ 1048576) (ha : RdI w .i64 A n zs) :
    Calls Try.prog 62 #[.slice A n c, .int .i64 x] w fun e w' => e = .returned (.bool (hasI zs x)) ∧ w = w' := by
  have hl := ha.len
  have Ha := hide ha
  have Hl := hide hl
  clear ha hl
  go_enter Try.func62, Try.ntmps62
  go_wp2_with fail
  go_loop [5] (fun i => ∃ k : Nat, k ≤ n ∧ i = .int .i64 k ∧ Hid (hasI (zs.take k) x = false)) (fun i => n - (intOf i).toNat)
  case atStart => exact ⟨0, Nat.zero_le _, rfl, hide (by simp [hasI])⟩
  case round =>
    obtain ⟨k, hk, rfl, HA⟩ := hrel
    by_cases hlt : k < n
    · obtain ⟨b1, o1, z, rfl, _, hz, hc1⟩ := RdI.at_ Ha.out hlt
      have Hz := hide hz
      clear hz
      have hlt' : (k : Int) < (n : Int) := by omega
      by_cases hx : z = x
      · have Hx := hide (show hasI zs x = true by rw [hasI_mem, ← hx]; exact List.mem_of_getElem? Hz.out)
        subst hx
        have he : (z == z) = true := by simp
        go_wp2_with fail
        go_ret
        exact ⟨show Ending.returned (.bool true) = .returned (.bool (hasI zs z)) from ret_bool Hx.out.symm, rfl⟩
      · have he : (z == x) = false := by simp [hx]
        have Hx := hide hx
        clear hx
        go_wp2_with fail
        go_round
        case rel => exact ⟨k + 1, by omega, by go_num, hide (by
          have h := HA.out
          cases h2 : hasI (zs.take (k + 1)) x with
          | false => rfl
          | true =>
            rw [hasI_mem, take_snoc _ _ _ Hz.out, List.mem_append] at h2
            rcases h2 with h2 | h2
            · rw [hasI_mem.2 h2] at h; cases h
            · exact absurd (List.mem_singleton.1 h2).symm Hx.out)⟩
        case measure => simp [intOf]; omega
    · obtain rfl : k = n := by omega
      have e1 := hide (show hasI zs x = false by
        have h := HA.out
        rw [List.take_of_length_le (by have := Hl.out; omega)] at h
        exact h)
      go_wp2_with fail
      go_ret
      exact ⟨show Ending.returned (.bool false) = .returned (.bool (hasI zs x)) from ret_bool e1.out.symm, rfl⟩
/-- Somebody has not left. -/
theorem contains_off {tm fl : Int} {ps : List Pn} (h : ∀ p ∈ ps, Ok tm fl p) : hasI (ps.map Pn.off) (-1) = !doneR ps := by
  rw [Bool.eq_iff_iff, hasI_mem]
  simp only [doneR, Bool.not_eq_true', List.all_eq_false, List.mem_map]
  constructor
  · rintro ⟨p, hp, e⟩
    exact ⟨p, hp, by simp [e]⟩
  · rintro ⟨p, hp, e⟩
    refine ⟨p, hp, ?_⟩
    have h1 := (h p hp).off_
    have h2 := (h p hp).f0
    have h3 := (h p hp).t0
    have h4 := (h p hp).f1
    have h5 := (h p hp).t1
    simp at e
    omega
set_option maxHeartbeats 400000 in
theorem waitingS_any (A : Option Addr) (n c : Nat) (zs : List Int) (b : Bool) (w : World) (hn : n ≤ 1048576) (hb : hasI zs (-1) = b) (ha : RdI w .i64 A n zs) :
    Calls Try.prog 47 #[.slice A n c] w fun e w' => e = .returned (.bool b) ∧ w = w' := by
  subst hb
  have Ha := hide ha
  clear ha
  go_enter Try.func47, Try.ntmps47
  go_wp2_with fail
  refine (isInR_any A n c zs (-1) _ hn Ha.out).mono ?_
  rintro e w' ⟨rfl, rfl⟩
  go_wp2_with fail
  go_ret
  exact ⟨rfl, rfl⟩
set_option maxHeartbeats 1000000 in
theorem inside_any (B g g' n cc co cf N : Nat) (Ac : Option Addr) (ps : List Pn) (w : World) (hn : n ≤ 12) (hN : nRid ps = N) (H : SH B w g g' Ac n cc co cf ps) :
    Calls Try.prog 48 #[.slice (some ⟨g, 0, none⟩) n co, .slice (some ⟨g', 0, none⟩) n cf] w fun e w' => e = .returned (.int .i64 (N : Int)) ∧ w = w' := by
  subst hN
  have HB := hide H
  have Hlen := hide H.len
  clear H
  go_enter Try.func48, Try.ntmps48
  go_wp2_with fail
  go_loop [5, 6] (fun vm vi => ∃ (k m : Nat) (l rr : List Pn), vm = .int .i64 (m : Int) ∧ vi = .int .i64 k ∧ k ≤ n ∧ m ≤ k ∧ Hid (ps = l ++ rr ∧ l.length = k ∧ nRid l = m)) (fun _ vi => n - (intOf vi).toNat)
  case atStart => exact ⟨0, 0, [], ps, rfl, rfl, Nat.zero_le _, Nat.le_refl _, hide ⟨rfl, rfl, rfl⟩⟩
  case round =>
    obtain ⟨k, m, l, rr, rfl, rfl, hk, hm, HP⟩ := hrel
    by_cases hlt : k < n
    · obtain ⟨p, rr, rfl⟩ := next_pn HP.out.1 HP.out.2.1 Hlen.out hlt
      have hAt := HB.out
      rw [HP.out.1] at hAt
      obtain ⟨c1, c2, _, _, _⟩ := hAt.at_ HP.out.2.1
      clear hAt
      have hltz : (k : Int) < (n : Int) := by omega
      cases hr : rid p
      · have HS := hide (show nRid (l ++ [p]) = m by rw [nRid_app, nRid_cons, hr, HP.out.2.2]; rfl)
        have K := hide (fun w2 => toInt_any false 0 w2 rfl)
        by_cases ho : 0 ≤ p.on
        · have ho2 : ¬ p.off < 0 := by simp [rid] at hr; omega
          have ho3 : decide (p.off < 0) = false := by simp; omega
          clear hr
          go_wp2_with (go_at_call 63; refine (K.out _).mono ?_; rintro e w' ⟨rfl, rfl⟩)
          go_round
          case rel => exact ⟨k + 1, m, l ++ [p], rr, by simp, by go_num, by omega, by omega, hide ⟨by rw [HP.out.1]; simp, by simp [HP.out.2.1], HS.out⟩⟩
          case measure => simp [intOf]; omega
        · have ho3 : decide (0 ≤ p.on) = false := by simp; omega
          clear hr
          go_wp2_with (go_at_call 63; refine (K.out _).mono ?_; rintro e w' ⟨rfl, rfl⟩)
          go_round
          case rel => exact ⟨k + 1, m, l ++ [p], rr, by simp, by go_num, by omega, by omega, hide ⟨by rw [HP.out.1]; simp, by simp [HP.out.2.1], HS.out⟩⟩
          case measure => simp [intOf]; omega
      · have HS := hide (show nRid (l ++ [p]) = m + 1 by rw [nRid_app, nRid_cons, hr, HP.out.2.2]; simp [nRid])
        have K := hide (fun w2 => toInt_any true 1 w2 rfl)
        have ho := rid_iff.1 hr
        obtain ⟨ho1, ho2⟩ := ho
        have ho3 : decide (p.off < 0) = true := by simp; omega
        have ho4 : decide (0 ≤ p.on) = true := by simp; omega
        clear hr
        go_wp2_with (go_at_call 63; refine (K.out _).mono ?_; rintro e w' ⟨rfl, rfl⟩)
        go_round
        case rel => exact ⟨k + 1, m + 1, l ++ [p], rr, int_eq (by omega), by go_num, by omega, by omega, hide ⟨by rw [HP.out.1]; simp, by simp [HP.out.2.1], HS.out⟩⟩
        case measure => simp [intOf]; omega
    · obtain ⟨rfl, rfl⟩ := no_next HP.out.1 HP.out.2.1 Hlen.out hlt
      have HF := hide HP.out.2.2
      go_wp2_with fail
      go_ret
      exact ⟨ret_int (by rw [HF.out]), rfl⟩
set_option maxHeartbeats 1000000 in
theorem ahead_any (A : Option Addr) (n c : Nat) (xs : List Int) (fl h : Int) (b : Bool) (w : World) (hn : n ≤ 1048576) (hx : ∀ x ∈ xs, 0 ≤ x ∧ x ≤ 15) (f0 : 0 ≤ fl) (f1 : fl ≤ 15) (hh : h = 1 ∨ h = -1) (hb : ahL xs fl h = b) (ha : RdI w .i64 A n xs) :
    Calls Try.prog 65 #[.slice A n c, .int .i64 fl, .int .i64 h] w fun e w' => e = .returned (.bool b) ∧ w = w' := by
  subst hb
  have hl := ha.len
  have Ha := hide ha
  have Hl := hide hl
  have Hx := hide hx
  have Hh := hide hh
  clear ha hl hx hh
  go_enter Try.func65, Try.ntmps65
  go_wp2_with fail
  go_loop [7] (fun i => ∃ k : Nat, k ≤ n ∧ i = .int .i64 k ∧ Hid (ahL (xs.take k) fl h = false)) (fun i => n - (intOf i).toNat)
  case atStart => exact ⟨0, Nat.zero_le _, rfl, hide (by simp [ahL])⟩
  case round =>
    obtain ⟨k, hk, rfl, HA⟩ := hrel
    by_cases hlt : k < n
    · obtain ⟨b1, o1, z, rfl, _, hz, hc1⟩ := RdI.at_ Ha.out hlt
      obtain ⟨z0, z1⟩ := Hx.out z (List.mem_of_getElem? hz)
      have Hz := hide hz
      clear hz
      have hlt' : (k : Int) < (n : Int) := by omega
      obtain ⟨W, hW⟩ : ∃ W, (z - fl) * h = W := ⟨_, rfl⟩
      have hq1 : IntKind.i64.wrap (z - fl) = z - fl := IntWalk.i64_in _ (by omega)
      have hW2 : -15 ≤ W ∧ W ≤ 15 := by have h1 := Hh.out; rcases h1 with rfl | rfl <;> omega
      have hq2 : IntKind.i64.wrap ((z - fl) * h) = W := by rw [hW]; exact IntWalk.i64_in _ (by omega)
      obtain ⟨_, _⟩ := hW2
      have HW := hide hW
      clear hW
      by_cases hp : 0 < W
      · have HT := hide (show ahL xs fl h = true by
          unfold ahL
          rw [List.any_eq_true]
          exact ⟨z, List.mem_of_getElem? Hz.out, by rw [HW.out]; simpa using hp⟩)
        go_wp2_with fail
        go_ret
        exact ⟨ret_bool HT.out.symm, rfl⟩
      · have HT := hide (show ahL (xs.take (k + 1)) fl h = false by
          have h2 := HA.out
          rw [take_snoc _ _ _ Hz.out]
          unfold ahL at h2 ⊢
          rw [List.any_append, h2]
          simp [HW.out, hp])
        go_wp2_with fail
        go_round
        case rel => exact ⟨k + 1, by omega, by go_num, HT⟩
        case measure => simp [intOf]; omega
    · obtain rfl : k = n := by omega
      have e1 := hide (show ahL xs fl h = false by
        have h := HA.out
        rw [List.take_of_length_le (by have := Hl.out; omega)] at h
        exact h)
      go_wp2_with fail
      go_ret
      exact ⟨ret_bool e1.out.symm, rfl⟩

set_option maxHeartbeats 2000000 in
theorem targets_any (B g g' n cc co cf : Nat) (Ac : Option Addr) (ps : List Pn) (tm : Int) (room : Bool) (w : World) (hn : n ≤ 12) (hB : B ≤ w.heap.size) (hroom : roomOf ps = room) (H : SH B w g g' Ac n cc co cf ps) :
    Calls Try.prog 64 #[.slice Ac n cc, .slice (some ⟨g, 0, none⟩) n co, .slice (some ⟨g', 0, none⟩) n cf, .int .i64 tm] w (RetI w (tgts ps room tm)) := by
  obtain ⟨i0, hi0, iz0, iz1, iz2⟩ := info_parts int_info
  have HB := hide H
  have Hlen := hide H.len
  obtain ⟨N, hN⟩ : ∃ N, nRid ps = N := ⟨_, rfl⟩
  have hRoom : decide (N < 4) = room := by rw [← hroom, roomOf, hN]
  have HN := hide hN
  have hlit := World.ownsRow_lit (e := 3) (size := 1) (base := w.heap.size) w #[] 0 (Nat.le_refl _) (by unfold maxLen; omega) rfl
  have Hlit := hide hlit
  clear H hN hroom hlit
  go_enter Try.func64, Try.ntmps64
  go_wp2_with fail
  go_loopw [9, 10] (fun v vi wr => ∃ (k m : Nat) (l rr : List Pn), vi = .int .i64 k ∧ k ≤ n ∧ m ≤ k ∧ Hid (ps = l ++ rr ∧ l.length = k) ∧ Hid (wr.ownsRow w.heap.size 3 1 v m ((tgts l room tm).map (Value.int .i64)) ∧ Below w.heap.size w wr)) (fun _ vi _ => n - (intOf vi).toNat)
  case atStart => exact ⟨0, 0, [], ps, rfl, Nat.zero_le _, Nat.le_refl _, hide ⟨rfl, rfl⟩, hide ⟨by simpa [tgts] using Hlit.out, (Below.refl _ _).alloc (Nat.le_refl _) _⟩⟩
  case round =>
    obtain ⟨k, m, l, rr, rfl, hk, hm, HP, HR⟩ := hrel
    have hzr := HR.out.2.size
    have HSr := hide (HB.out.below HR.out.2 (Nat.le_refl _))
    by_cases hlt : k < n
    · obtain ⟨p, rr, rfl⟩ := next_pn HP.out.1 HP.out.2 Hlen.out hlt
      have hAt := HSr.out
      rw [HP.out.1] at hAt
      obtain ⟨c1, c2, _, _, bc, hAc, d1, d2, d3⟩ := hAt.at_ HP.out.2
      clear hAt
      subst hAc
      have hltz : (k : Int) < (n : Int) := by omega
      have KI := hide (fun w2 (h2 : SH B w2 g g' (some ⟨bc, 0, none⟩) n cc co cf ps) => inside_any B g g' n cc co cf N (some ⟨bc, 0, none⟩) ps w2 hn HN.out h2)
      cases hr : rid p
      · have hr2 : 0 ≤ p.on → ¬ p.off < 0 := by intro h1 h2; rw [rid_iff.2 ⟨h1, h2⟩] at hr; cases hr
        by_cases ho : 0 ≤ p.on
        · have ho1 : ¬ p.off < 0 := hr2 ho
          have ho2 : decide (p.off < 0) = false := by simp; omega
          have ho3 : ¬ p.on < 0 := by omega
          have ho4 : decide (0 ≤ p.on) = true := by simp; omega
          have HT := hide (show tgt room tm p = none by simp [tgt, hr, wai]; omega)
          clear hr hr2
          have HS := hide (show tgts (l ++ [p]) room tm = tgts l room tm by rw [tgts_snoc, HT.out]; simp)
          go_wp2_with fail
          go_roundw
          case rel => exact ⟨k + 1, m, l ++ [p], rr, by go_num, by omega, by omega, hide ⟨by rw [HP.out.1]; simp, by simp [HP.out.2]⟩, hide (by rw [HS.out]; exact HR.out)⟩
          case measure => simp [intOf]; omega
        · have ho4 : decide (0 ≤ p.on) = false := by simp; omega
          have ho1 : p.on < 0 := by omega
          have ho2 : decide (p.on < 0) = true := by simp; omega
          by_cases hc : p.c ≤ tm
          · have hc2 : decide (p.c ≤ tm) = true := by simp; omega
            by_cases hRm : N < 4
            · have HT := hide (show tgt room tm p = some p.f by simp [tgt, hr, wai, ho1, hc, ← hRoom, hRm])
              have hRz : (N : Int) < 4 := by omega
              have hRz2 : decide ((N : Int) < 4) = true := by simp; omega
              clear hr hr2
              have HS := hide (show tgts (l ++ [p]) room tm = tgts l room tm ++ [p.f] by rw [tgts_snoc, HT.out]; rfl)
              go_wp2_with (first | (go_at_call 48; refine (KI.out _ HSr.out).mono ?_; rintro e w' ⟨rfl, rfl⟩) | (at_builtin; refine wpList_append_own _ rfl (.tmp 58) (.tmp 64) _ rfl w.heap.size 3 i0 (.int .i64 0) 1 8 Try.underlying29 hi0 iz0 iz1 iz2 rfl (by decide) _ _ _ rfl (HR.out.1.alloc _) _ 1 1 [.int .i64 p.f] rfl rfl (cell_one_at _ _ _ _ (by simp)) (by intro u hu; simp at hu; subst hu; rfl) (by unfold maxLen; omega) (by omega) (by (try simp); omega) ?_; intro v5 w5 hown hgrow _))
              have HR3 := hide (show w5.ownsRow w.heap.size 3 1 v5 (m + 1) ((tgts (l ++ [p]) room tm).map (Value.int .i64)) ∧ Below w.heap.size w w5 from by
                refine ⟨?_, Below.grown (HR.out.2.alloc (by omega) _) hgrow (by simp; omega) (fun j hj => (HR.out.1.lt j hj).1)⟩
                rw [HS.out, List.map_append]
                exact hown)
              clear hown hgrow HR
              go_wp2_with fail
              go_roundw
              case rel => exact ⟨k + 1, m + 1, l ++ [p], rr, by go_num, by omega, by omega, hide ⟨by rw [HP.out.1]; simp, by simp [HP.out.2]⟩, HR3⟩
              case measure => simp [intOf]; omega
            · have HT := hide (show tgt room tm p = none by simp [tgt, hr, wai, ho1, hc, ← hRoom, hRm])
              have hRz : ¬ (N : Int) < 4 := by omega
              have hRz2 : decide ((N : Int) < 4) = false := by simp; omega
              clear hr hr2
              have HS := hide (show tgts (l ++ [p]) room tm = tgts l room tm by rw [tgts_snoc, HT.out]; simp)
              go_wp2_with (go_at_call 48; refine (KI.out _ HSr.out).mono ?_; rintro e w' ⟨rfl, rfl⟩)
              go_roundw
              case rel => exact ⟨k + 1, m, l ++ [p], rr, by go_num, by omega, by omega, hide ⟨by rw [HP.out.1]; simp, by simp [HP.out.2]⟩, hide (by rw [HS.out]; exact HR.out)⟩
              case measure => simp [intOf]; omega
          · have HT := hide (show tgt room tm p = none by simp [tgt, hr, wai, ho1, hc])
            have hc2 : decide (p.c ≤ tm) = false := by simp; omega
            clear hr hr2
            have HS := hide (show tgts (l ++ [p]) room tm = tgts l room tm by rw [tgts_snoc, HT.out]; simp)
            go_wp2_with fail
            go_roundw
            case rel => exact ⟨k + 1, m, l ++ [p], rr, by go_num, by omega, by omega, hide ⟨by rw [HP.out.1]; simp, by simp [HP.out.2]⟩, hide (by rw [HS.out]; exact HR.out)⟩
            case measure => simp [intOf]; omega
      · have ho := rid_iff.1 hr
        obtain ⟨ho1, ho2⟩ := ho
        have ho3 : decide (p.off < 0) = true := by simp; omega
        have ho4 : decide (0 ≤ p.on) = true := by simp; omega
        have ho5 : ¬ p.on < 0 := by omega
        have HT := hide (show tgt room tm p = some p.t by simp [tgt, hr])
        clear hr
        have c1b := hide c1
        have HS := hide (show tgts (l ++ [p]) room tm = tgts l room tm ++ [p.t] by rw [tgts_snoc, HT.out]; rfl)
        go_wp2_with (at_builtin; refine wpList_append_own _ rfl (.tmp 30) (.tmp 36) _ rfl w.heap.size 3 i0 (.int .i64 0) 1 8 Try.underlying29 hi0 iz0 iz1 iz2 rfl (by decide) _ _ _ rfl (HR.out.1.alloc _) _ 1 1 [.int .i64 p.t] rfl rfl (cell_one_at _ _ _ _ (by simp)) (by intro u hu; simp at hu; subst hu; rfl) (by unfold maxLen; omega) (by omega) (by (try simp); omega) ?_; intro v5 w5 hown hgrow _; have HR3 := hide (show w5.ownsRow w.heap.size 3 1 v5 (m + 1) ((tgts (l ++ [p]) room tm).map (Value.int .i64)) ∧ Below w.heap.size w w5 from ⟨by rw [HS.out, List.map_append]; exact hown, Below.grown (HR.out.2.alloc (by omega) _) hgrow (by simp; omega) (fun j hj => (HR.out.1.lt j hj).1)⟩); have hAt := HB.out.below HR3.out.2 (Nat.le_refl _); rw [HP.out.1] at hAt; obtain ⟨c1', c2', _, _, _⟩ := hAt.at_ HP.out.2; clear hown hgrow HR hAt)
        go_roundw
        case rel => exact ⟨k + 1, m + 1, l ++ [p], rr, by go_num, by omega, by omega, hide ⟨by rw [HP.out.1]; simp, by simp [HP.out.2]⟩, HR3⟩
        case measure => simp [intOf]; omega
    · obtain ⟨rfl, rfl⟩ := no_next HP.out.1 HP.out.2 Hlen.out hlt
      obtain ⟨Av, cv, rfl⟩ := own_form HR.out.1
      go_wp2_with fail
      go_ret
      exact ⟨_, _, _, rfl, HR.out.1, HR.out.2⟩

set_option maxHeartbeats 1000000 in
theorem turnAround_any (B g g' n cc co cf : Nat) (Ac : Option Addr) (ps : List Pn) (tm fl h : Int) (w : World) (hn : n ≤ 12) (hB : B ≤ w.heap.size) (hm : ∀ p ∈ ps, Mid tm fl p) (f0 : 0 ≤ fl) (f1 : fl ≤ 15) (hh : h = 1 ∨ h = -1) (H : SH B w g g' Ac n cc co cf ps) :
    Calls Try.prog 49 #[.slice Ac n cc, .slice (some ⟨g, 0, none⟩) n co, .slice (some ⟨g', 0, none⟩) n cf, .int .i64 tm, .int .i64 fl, .int .i64 h] w fun e w' => e = .returned (.int .i64 (if (!ahd ps (roomOf ps) tm fl h && ahd ps (roomOf ps) tm fl (-h)) = true then -h else h)) ∧ Below w.heap.size w w' := by
  have HB := hide H
  have hx := hide (tgts_in (room := roomOf ps) hm)
  have hln := (tgts_len ps (roomOf ps) tm)
  rw [H.len] at hln
  have Hh := hide hh
  have Hh2 := hide (show -h = 1 ∨ -h = -1 by omega)
  obtain ⟨a, ha⟩ : ∃ a, ahd ps (roomOf ps) tm fl h = a := ⟨_, rfl⟩
  obtain ⟨b, hb⟩ : ∃ b, ahd ps (roomOf ps) tm fl (-h) = b := ⟨_, rfl⟩
  rw [ha, hb]
  have Ha := hide ((ahL_tgts ps (roomOf ps) tm fl h).trans ha)
  have Hb := hide ((ahL_tgts ps (roomOf ps) tm fl (-h)).trans hb)
  have hq : IntKind.i64.wrap (-h) = -h := IntWalk.i64_in _ (by omega)
  clear ha hb hm hh H
  go_enter Try.func49, Try.ntmps49
  go_wp2_with fail
  refine (targets_any B g g' n cc co cf Ac ps tm (roomOf ps) _ hn hB rfl HB.out).mono ?_
  rintro e w1 ⟨At, nt, ct, rfl, ho, hb⟩
  have hnt : nt ≤ 12 := by have h1 := RdI.len (Rd.of_own ho); omega
  have HT := hide (And.intro ho hb)
  have K1 := hide (ahead_any At nt ct _ fl h a w1 (by omega) hx.out f0 f1 Hh.out Ha.out (Rd.of_own ho))
  have K2 := hide (ahead_any At nt ct _ fl (-h) b w1 (by omega) hx.out f0 f1 Hh2.out Hb.out (Rd.of_own ho))
  clear ho hb
  cases a
  · cases b
    all_goals
      go_wp2_with fail
      refine K1.out.mono ?_
      rintro e w' ⟨rfl, rfl⟩
      go_wp2_with fail
      refine K2.out.mono ?_
      rintro e w' ⟨rfl, rfl⟩
      go_wp2_with fail
      go_ret
      exact ⟨ret_int (by simp), HT.out.2⟩
  · go_wp2_with fail
    refine K1.out.mono ?_
    rintro e w' ⟨rfl, rfl⟩
    go_wp2_with fail
    go_ret
    exact ⟨ret_int (by simp), HT.out.2⟩
set_option maxHeartbeats 1000000 in
theorem moveOf_any (B g g' n cc co cf : Nat) (Ac : Option Addr) (ps : List Pn) (tm fl h : Int) (w : World) (hn : n ≤ 12) (hB : B ≤ w.heap.size) (hm : ∀ p ∈ ps, Mid tm fl p) (f0 : 0 ≤ fl) (f1 : fl ≤ 15) (hh : h = 1 ∨ h = -1) (H : SH B w g g' Ac n cc co cf ps) :
    Calls Try.prog 50 #[.slice Ac n cc, .slice (some ⟨g, 0, none⟩) n co, .slice (some ⟨g', 0, none⟩) n cf, .int .i64 tm, .int .i64 fl, .int .i64 h] w fun e w' => e = .returned (.int .i64 (if ahd ps (roomOf ps) tm fl h = true then h else 0)) ∧ Below w.heap.size w w' := by
  have HB := hide H
  have hx := hide (tgts_in (room := roomOf ps) hm)
  have hln := (tgts_len ps (roomOf ps) tm)
  rw [H.len] at hln
  have Hh := hide hh
  obtain ⟨a, ha⟩ : ∃ a, ahd ps (roomOf ps) tm fl h = a := ⟨_, rfl⟩
  rw [ha]
  have Ha := hide ((ahL_tgts ps (roomOf ps) tm fl h).trans ha)
  clear ha hm hh H
  go_enter Try.func50, Try.ntmps50
  go_wp2_with fail
  refine (targets_any B g g' n cc co cf Ac ps tm (roomOf ps) _ hn hB rfl HB.out).mono ?_
  rintro e w1 ⟨At, nt, ct, rfl, ho, hb⟩
  have hnt : nt ≤ 12 := by have h1 := RdI.len (Rd.of_own ho); omega
  have HT := hide (And.intro ho hb)
  have K1 := hide (ahead_any At nt ct _ fl h a w1 (by omega) hx.out f0 f1 Hh.out Ha.out (Rd.of_own ho))
  clear ho hb
  cases a
  all_goals
    go_wp2_with fail
    refine K1.out.mono ?_
    rintro e w' ⟨rfl, rfl⟩
    go_wp2_with fail
    go_ret
    exact ⟨ret_int (by simp), HT.out.2⟩
end Go.Proofs.Ythgbbfcpnmpjgaa
