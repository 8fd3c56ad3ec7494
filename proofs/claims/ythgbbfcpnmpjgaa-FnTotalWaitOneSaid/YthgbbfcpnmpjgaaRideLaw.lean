/-
  A car that serves calls, in plain Lean: its state, a step, a run; everybody arrives; the room; one person alone. No program is in sight here.
-/
import Derived.Test.YthgbbfcpnmpjgaaCallsA
namespace Go.Proofs.Ythgbbfcpnmpjgaa
set_option linter.unusedVariables false
set_option linter.unusedSimpArgs false

/-- A person: from, to, time of the call; when entered, when left. -/
structure Pn where
  f : Int
  t : Int
  c : Int
  on : Int
  off : Int

def rid (p : Pn) : Bool := decide (0 ≤ p.on) && decide (p.off < 0)
def wai (tm : Int) (p : Pn) : Bool := decide (p.on < 0) && decide (p.c ≤ tm)
def nRid (ps : List Pn) : Nat := ps.countP rid
def outP (fl tm : Int) (p : Pn) : Pn := if rid p = true ∧ p.t = fl then { p with off := tm } else p
def entC (fl tm : Int) (k : Nat) (p : Pn) : Bool := wai tm p && (p.f == fl) && decide (k < 4)
def inGo (fl tm : Int) : Nat → List Pn → List Pn
  | _, [] => []
  | k, p :: ps => if entC fl tm k p = true then { p with on := tm } :: inGo fl tm (k + 1) ps else p :: inGo fl tm k ps
def ent (fl tm : Int) : Nat → List Pn → Nat
  | _, [] => 0
  | k, p :: ps => if entC fl tm k p = true then ent fl tm (k + 1) ps + 1 else ent fl tm k ps
def outA (ps : List Pn) (fl tm : Int) : List Pn := ps.map (outP fl tm)
def inA (ps : List Pn) (fl tm : Int) : List Pn := inGo fl tm (nRid ps) ps
def outC (ps : List Pn) (fl : Int) : Bool := ps.any fun p => rid p && (p.t == fl)
def inC (ps : List Pn) (fl tm : Int) : Bool := decide (0 < ent fl tm (nRid ps) ps)
def tgt (room : Bool) (tm : Int) (p : Pn) : Option Int := if rid p = true then some p.t else if (room && wai tm p) = true then some p.f else none
def ahT (fl h : Int) (x : Option Int) : Bool := match x with
  | some x => decide (0 < (x - fl) * h)
  | none => false
def ahd (ps : List Pn) (room : Bool) (tm fl h : Int) : Bool := ps.any fun p => ahT fl h (tgt room tm p)
def roomOf (ps : List Pn) : Bool := decide (nRid ps < 4)
/-- Where the car is and heads after a step without a change. -/
def driveR (ps : List Pn) (tm fl h : Int) : Int × Int :=
  if ahd ps (roomOf ps) tm fl h = true then (fl + h, h)
  else if ahd ps (roomOf ps) tm fl (-h) = true then (fl - h, -h)
  else (fl, h)
structure RS where
  fl : Int
  h : Int
  ps : List Pn
def stepR (s : RS) (tm : Int) : RS :=
  if (outC s.ps s.fl || inC (outA s.ps s.fl tm) s.fl tm) = true then ⟨s.fl, s.h, inA (outA s.ps s.fl tm) s.fl tm⟩
  else ⟨(driveR (inA (outA s.ps s.fl tm) s.fl tm) tm s.fl s.h).1, (driveR (inA (outA s.ps s.fl tm) s.fl tm) tm s.fl s.h).2, inA (outA s.ps s.fl tm) s.fl tm⟩
def doneR (ps : List Pn) : Bool := ps.all fun p => decide (0 ≤ p.off)
def runR : Nat → RS → Int → RS
  | 0, s, _ => s
  | n + 1, s, tm => if doneR s.ps = true then s else runR n (stepR s tm) (tm + 1)

/-! The parts of a person that never turn. -/
theorem outP_f (fl tm : Int) (p : Pn) : (outP fl tm p).f = p.f ∧ (outP fl tm p).t = p.t ∧ (outP fl tm p).c = p.c ∧ (outP fl tm p).on = p.on := by
  unfold outP; split <;> exact ⟨rfl, rfl, rfl, rfl⟩
theorem inGo_len (fl tm : Int) : ∀ (ps : List Pn) (k : Nat), (inGo fl tm k ps).length = ps.length
  | [], _ => rfl
  | p :: ps, k => by
    unfold inGo; split
    · simp [inGo_len fl tm ps]
    · simp [inGo_len fl tm ps]
theorem inGo_append (fl tm : Int) : ∀ (a b : List Pn) (k : Nat), inGo fl tm k (a ++ b) = inGo fl tm k a ++ inGo fl tm (k + ent fl tm k a) b
  | [], b, k => by simp [inGo, ent]
  | p :: a, b, k => by
    simp only [List.cons_append]
    by_cases h : entC fl tm k p = true
    · simp only [inGo, ent, h, if_true, List.cons_append, inGo_append fl tm a b]
      rw [show k + 1 + ent fl tm (k + 1) a = k + (ent fl tm (k + 1) a + 1) from by omega]
    · simp [inGo, ent, h, inGo_append fl tm a b]
theorem ent_append (fl tm : Int) : ∀ (a b : List Pn) (k : Nat), ent fl tm k (a ++ b) = ent fl tm k a + ent fl tm (k + ent fl tm k a) b
  | [], b, k => by simp [ent]
  | p :: a, b, k => by
    simp only [List.cons_append]
    by_cases h : entC fl tm k p = true
    · simp only [ent, h, if_true, ent_append fl tm a b]
      rw [show k + 1 + ent fl tm (k + 1) a = k + (ent fl tm (k + 1) a + 1) from by omega]
      omega
    · simp [ent, h, ent_append fl tm a b]

/-! What holds of each person at each time. -/
/-- At the beginning of time tm, the car at floor fl. -/
structure Ok (tm fl : Int) (p : Pn) : Prop where
  f0 : 0 ≤ p.f
  f1 : p.f ≤ 15
  t0 : 0 ≤ p.t
  t1 : p.t ≤ 15
  ne : p.f ≠ p.t
  c0 : 0 ≤ p.c
  c1 : p.c ≤ 200
  on_ : p.on = -1 ∨ (p.c ≤ p.on ∧ p.on < tm)
  off_ : p.off = -1 ∨ (0 ≤ p.on ∧ p.on + 1 + (p.t - p.f) ≤ p.off ∧ p.on + 1 + (p.f - p.t) ≤ p.off ∧ p.off < tm)
  near : rid p = true → fl - p.f ≤ tm - p.on - 1 ∧ p.f - fl ≤ tm - p.on - 1

theorem rid_iff {p : Pn} : rid p = true ↔ 0 ≤ p.on ∧ p.off < 0 := by simp [rid]
theorem wai_iff {p : Pn} {tm : Int} : wai tm p = true ↔ p.on < 0 ∧ p.c ≤ tm := by simp [wai]

/-- In the midst of time tm: those who have left or entered at tm. -/
structure Mid (tm fl : Int) (p : Pn) : Prop where
  f0 : 0 ≤ p.f
  f1 : p.f ≤ 15
  t0 : 0 ≤ p.t
  t1 : p.t ≤ 15
  ne : p.f ≠ p.t
  c0 : 0 ≤ p.c
  c1 : p.c ≤ 200
  on_ : p.on = -1 ∨ (p.c ≤ p.on ∧ p.on ≤ tm)
  off_ : p.off = -1 ∨ (0 ≤ p.on ∧ p.on + 1 + (p.t - p.f) ≤ p.off ∧ p.on + 1 + (p.f - p.t) ≤ p.off ∧ p.off ≤ tm)
  near : rid p = true → (p.on = tm ∧ fl = p.f) ∨ (fl - p.f ≤ tm - p.on - 1 ∧ p.f - fl ≤ tm - p.on - 1)

theorem Ok.out {tm fl : Int} {p : Pn} (h : Ok tm fl p) (h0 : 0 ≤ tm) : Mid tm fl (outP fl tm p) := by
  obtain ⟨f0, f1, t0, t1, ne, c0, c1, on_, off_, near⟩ := h
  unfold outP
  split
  · rename_i hr
    obtain ⟨hr, he⟩ := hr
    have hn := near hr
    have hr' := rid_iff.1 hr
    refine ⟨f0, f1, t0, t1, ne, c0, c1, ?_, ?_, ?_⟩
    · simp only; omega
    · simp only; right; omega
    · intro hx
      have := rid_iff.1 hx
      simp only at this
      omega
  · refine ⟨f0, f1, t0, t1, ne, c0, c1, ?_, ?_, ?_⟩
    · omega
    · omega
    · intro hx; exact .inr (near hx)
theorem Mid.ent {tm fl : Int} {p : Pn} {k : Nat} (h : Mid tm fl p) (h0 : 0 ≤ tm) (he : entC fl tm k p = true) : Mid tm fl { p with on := tm } := by
  obtain ⟨f0, f1, t0, t1, ne, c0, c1, on_, off_, near⟩ := h
  have he' : (p.on < 0 ∧ p.c ≤ tm) ∧ p.f = fl := by
    simp [entC, wai] at he
    exact ⟨he.1.1, he.1.2⟩
  refine ⟨f0, f1, t0, t1, ne, c0, c1, ?_, ?_, ?_⟩
  · simp only; omega
  · simp only; omega
  · intro _; exact .inl ⟨rfl, he'.2.symm⟩
theorem Mid.inGo {tm fl : Int} (h0 : 0 ≤ tm) : ∀ {ps : List Pn} {k : Nat}, (∀ p ∈ ps, Mid tm fl p) → ∀ p ∈ inGo fl tm k ps, Mid tm fl p
  | [], _, _, p, hp => by simp [Go.Proofs.Ythgbbfcpnmpjgaa.inGo] at hp
  | q :: ps, k, h, p, hp => by
    have hq := h q (by simp)
    have ht := fun x hx => h x (List.mem_cons_of_mem _ hx)
    unfold Go.Proofs.Ythgbbfcpnmpjgaa.inGo at hp
    split at hp
    · rename_i he
      rcases List.mem_cons.1 hp with rfl | hp
      · exact hq.ent h0 he
      · exact Mid.inGo h0 ht p hp
    · rcases List.mem_cons.1 hp with rfl | hp
      · exact hq
      · exact Mid.inGo h0 ht p hp
/-- To the next time: the car has moved by at most one floor; if anybody has just entered, by none. -/
theorem Mid.next {tm fl fl' : Int} {p : Pn} (h : Mid tm fl p) (hm : fl' - fl ≤ 1 ∧ fl - fl' ≤ 1) (hs : fl' ≠ fl → p.on = tm → False) : Ok (tm + 1) fl' p := by
  obtain ⟨f0, f1, t0, t1, ne, c0, c1, on_, off_, near⟩ := h
  refine ⟨f0, f1, t0, t1, ne, c0, c1, by omega, by omega, ?_⟩
  intro hr
  rcases near hr with ⟨h1, h2⟩ | h1
  · by_cases e : fl' = fl
    · omega
    · exact absurd h1 (fun h => hs e h)
  · omega
/-- What holds of the car. -/
structure Car (s : RS) : Prop where
  f0 : 0 ≤ s.fl
  f1 : s.fl ≤ 15
  h1 : s.h = 1 ∨ s.h = -1

theorem ahd_iff {ps : List Pn} {room : Bool} {tm fl h : Int} : ahd ps room tm fl h = true ↔ ∃ p ∈ ps, ∃ x, tgt room tm p = some x ∧ 0 < (x - fl) * h := by
  unfold ahd
  rw [List.any_eq_true]
  constructor
  · rintro ⟨p, hp, h⟩
    cases hx : tgt room tm p with
    | none => rw [hx] at h; cases h
    | some x => rw [hx] at h; exact ⟨p, hp, x, hx, by simpa [ahT] using h⟩
  · rintro ⟨p, hp, x, hx, h⟩
    exact ⟨p, hp, by rw [hx]; simpa [ahT] using h⟩
theorem tgt_in {tm fl : Int} {p : Pn} (h : Mid tm fl p) {room : Bool} {x : Int} (hx : tgt room tm p = some x) : 0 ≤ x ∧ x ≤ 15 := by
  unfold tgt at hx
  split at hx
  · have := Option.some.inj hx; have := h.t0; have := h.t1; omega
  · split at hx
    · have := Option.some.inj hx; have := h.f0; have := h.f1; omega
    · cases hx
theorem drive_in {tm fl h : Int} {ps : List Pn} (hp : ∀ p ∈ ps, Mid tm fl p) (f0 : 0 ≤ fl) (f1 : fl ≤ 15) (hh : h = 1 ∨ h = -1) :
    (0 ≤ (driveR ps tm fl h).1 ∧ (driveR ps tm fl h).1 ≤ 15) ∧ ((driveR ps tm fl h).2 = 1 ∨ (driveR ps tm fl h).2 = -1) ∧ ((driveR ps tm fl h).1 - fl ≤ 1 ∧ fl - (driveR ps tm fl h).1 ≤ 1) := by
  unfold driveR
  split
  · rename_i ha
    obtain ⟨p, hm, x, hx, h0⟩ := ahd_iff.1 ha
    have hi := tgt_in (hp p hm) hx
    rcases hh with rfl | rfl <;> simp at h0 ⊢ <;> omega
  · split
    · rename_i ha
      obtain ⟨p, hm, x, hx, h0⟩ := ahd_iff.1 ha
      have hi := tgt_in (hp p hm) hx
      rcases hh with rfl | rfl <;> simp at h0 ⊢ <;> omega
    · simp only; omega

/-- What holds at the beginning of time tm. -/
structure Inv (tm : Int) (s : RS) : Prop where
  car : Car s
  ok : ∀ p ∈ s.ps, Ok tm s.fl p
theorem outA_mid {tm : Int} {s : RS} (h : Inv tm s) (h0 : 0 ≤ tm) : ∀ p ∈ outA s.ps s.fl tm, Mid tm s.fl p := by
  intro p hp
  obtain ⟨q, hq, rfl⟩ := List.mem_map.1 hp
  exact (h.ok q hq).out h0
theorem inA_mid {tm : Int} {s : RS} (h : Inv tm s) (h0 : 0 ≤ tm) : ∀ p ∈ inA (outA s.ps s.fl tm) s.fl tm, Mid tm s.fl p :=
  Mid.inGo h0 (outA_mid h h0)
/-- No change: nobody has turned. -/
theorem inGo_none {fl tm : Int} : ∀ {ps : List Pn} {k : Nat}, ent fl tm k ps = 0 → inGo fl tm k ps = ps
  | [], _, _ => rfl
  | p :: ps, k, h => by
    unfold ent at h
    unfold inGo
    split at h
    · omega
    · rename_i hc
      rw [if_neg hc, inGo_none h]
theorem inC_false {ps : List Pn} {fl tm : Int} (h : inC ps fl tm = false) : inA ps fl tm = ps ∧ ent fl tm (nRid ps) ps = 0 := by
  have : ent fl tm (nRid ps) ps = 0 := by simpa [inC] using h
  exact ⟨inGo_none this, this⟩
theorem outC_false {ps : List Pn} {fl : Int} (tm : Int) (h : outC ps fl = false) : outA ps fl tm = ps := by
  unfold outA
  have : ∀ p ∈ ps, outP fl tm p = p := by
    intro p hp
    unfold outP
    rw [if_neg]
    rintro ⟨h1, h2⟩
    have := List.any_eq_false.1 h p hp
    simp [h1, h2] at this
  rw [List.map_congr_left this]
  simp
theorem quiet_step {s : RS} {tm : Int} (h : (outC s.ps s.fl || inC (outA s.ps s.fl tm) s.fl tm) = false) :
    inA (outA s.ps s.fl tm) s.fl tm = s.ps ∧ outC s.ps s.fl = false ∧ ent s.fl tm (nRid s.ps) s.ps = 0 := by
  simp only [Bool.or_eq_false_iff] at h
  have h1 := outC_false tm h.1
  rw [h1] at h ⊢
  have h2 := inC_false h.2
  exact ⟨h2.1, h.1, h2.2⟩
theorem Inv.step {tm : Int} {s : RS} (h : Inv tm s) (h0 : 0 ≤ tm) : Inv (tm + 1) (stepR s tm) := by
  unfold stepR
  split
  · exact ⟨⟨h.car.f0, h.car.f1, h.car.h1⟩, fun p hp => (inA_mid h h0 p hp).next (by simp only; omega) (fun e => absurd rfl e)⟩
  · rename_i hq
    have hq' := quiet_step (by simpa using hq)
    have hm := inA_mid h h0
    have hd := drive_in hm h.car.f0 h.car.f1 h.car.h1
    refine ⟨⟨hd.1.1, hd.1.2, hd.2.1⟩, fun p hp => (hm p hp).next hd.2.2 (fun _ e => ?_)⟩
    simp only at hp
    rw [hq'.1] at hp
    have := (h.ok p hp).on_
    omega

/-! Everybody arrives. -/
def todo (ps : List Pn) : Nat := ps.countP (fun p => decide (p.on < 0)) + ps.countP (fun p => decide (p.off < 0))
theorem todo_cons (p : Pn) (ps : List Pn) : todo (p :: ps) = (if p.on < 0 then 1 else 0) + (if p.off < 0 then 1 else 0) + todo ps := by
  unfold todo
  rw [List.countP_cons, List.countP_cons]
  by_cases h1 : p.on < 0 <;> by_cases h2 : p.off < 0 <;> simp [h1, h2] <;> omega
theorem todo_out (fl tm : Int) (h0 : 0 ≤ tm) : ∀ ps : List Pn, todo (outA ps fl tm) ≤ todo ps ∧ (outC ps fl = true → todo (outA ps fl tm) < todo ps)
  | [] => ⟨Nat.le_refl _, fun h => by simp [outC] at h⟩
  | p :: ps => by
    obtain ⟨h1, h2⟩ := todo_out fl tm h0 ps
    have e : outA (p :: ps) fl tm = outP fl tm p :: outA ps fl tm := rfl
    rw [e, todo_cons, todo_cons]
    have e2 : outC (p :: ps) fl = ((rid p && (p.t == fl)) || outC ps fl) := rfl
    rw [e2]
    by_cases hc : rid p = true ∧ p.t = fl
    · have hr := rid_iff.1 hc.1
      have e3 : outP fl tm p = { p with off := tm } := if_pos hc
      rw [e3]
      simp only
      rw [if_neg (by omega), if_neg (by omega), if_pos hr.2]
      exact ⟨by omega, fun _ => by omega⟩
    · have e3 : outP fl tm p = p := if_neg hc
      rw [e3]
      refine ⟨by omega, fun h => ?_⟩
      have : outC ps fl = true := by
        simp only [Bool.or_eq_true, Bool.and_eq_true, beq_iff_eq] at h
        rcases h with h | h
        · exact absurd h hc
        · exact h
      have := h2 this
      omega
theorem todo_in (fl tm : Int) (h0 : 0 ≤ tm) : ∀ (ps : List Pn) (k : Nat), todo (inGo fl tm k ps) + ent fl tm k ps = todo ps
  | [], _ => rfl
  | p :: ps, k => by
    by_cases hc : entC fl tm k p = true
    · have hon : p.on < 0 := by simp [entC, wai] at hc; omega
      simp only [inGo, ent, hc, if_true]
      rw [todo_cons, todo_cons]
      have := todo_in fl tm h0 ps (k + 1)
      simp only
      rw [if_neg (by omega), if_pos hon]
      omega
    · rw [show inGo fl tm k (p :: ps) = p :: inGo fl tm k ps by simp [inGo, hc], show ent fl tm k (p :: ps) = ent fl tm k ps by simp [ent, hc]]
      rw [todo_cons, todo_cons]
      have := todo_in fl tm h0 ps k
      omega
/-- A step with a change brings somebody on. -/
theorem todo_step {s : RS} {tm : Int} (h0 : 0 ≤ tm) : todo (stepR s tm).ps ≤ todo s.ps ∧ ((outC s.ps s.fl || inC (outA s.ps s.fl tm) s.fl tm) = true → todo (stepR s tm).ps < todo s.ps) := by
  have e : (stepR s tm).ps = inA (outA s.ps s.fl tm) s.fl tm := by unfold stepR; split <;> rfl
  rw [e]
  have h1 := todo_out s.fl tm h0 s.ps
  have h2 : todo (inA (outA s.ps s.fl tm) s.fl tm) + ent s.fl tm (nRid (outA s.ps s.fl tm)) (outA s.ps s.fl tm) = todo (outA s.ps s.fl tm) := todo_in s.fl tm h0 _ _
  refine ⟨by omega, fun h => ?_⟩
  simp only [Bool.or_eq_true] at h
  rcases h with h | h
  · have := h1.2 h; omega
  · have : 0 < ent s.fl tm (nRid (outA s.ps s.fl tm)) (outA s.ps s.fl tm) := by simpa [inC] using h
    omega
/-- At a time from 200 on, no change: there is a floor to visit, and the car is not there. -/
theorem has_target {s : RS} {tm : Int} (hi : Inv tm s) (ht : 200 ≤ tm) (hq : (outC s.ps s.fl || inC (outA s.ps s.fl tm) s.fl tm) = false) (hd : doneR s.ps = false) :
    ∃ p ∈ s.ps, ∃ x, tgt (roomOf s.ps) tm p = some x := by
  obtain ⟨p, hp, hoff⟩ : ∃ p ∈ s.ps, p.off < 0 := by
    obtain ⟨p, hp, h⟩ := List.all_eq_false.1 hd
    exact ⟨p, hp, by simpa using h⟩
  have hok := hi.ok p hp
  by_cases hr : rid p = true
  · exact ⟨p, hp, p.t, by simp [tgt, hr]⟩
  · have hon : p.on < 0 := by
      rcases Int.lt_or_le p.on 0 with h | h
      · exact h
      · exact absurd (rid_iff.2 ⟨h, hoff⟩) hr
    by_cases hroom : roomOf s.ps = true
    · refine ⟨p, hp, p.f, ?_⟩
      have hw : wai tm p = true := wai_iff.2 ⟨hon, by have := hok.c1; omega⟩
      simp [tgt, hr, hroom, hw]
    · have : 0 < nRid s.ps := by simp [roomOf] at hroom; omega
      obtain ⟨q, hq1, hq2⟩ := List.countP_pos_iff.1 this
      exact ⟨q, hq1, q.t, by simp [tgt, hq2]⟩
theorem no_target_here {s : RS} {tm : Int} (hq : (outC s.ps s.fl || inC (outA s.ps s.fl tm) s.fl tm) = false) {p : Pn} (hp : p ∈ s.ps) {x : Int} (hx : tgt (roomOf s.ps) tm p = some x) : x ≠ s.fl := by
  obtain ⟨_, h1, h2⟩ := quiet_step hq
  intro e
  subst e
  unfold tgt at hx
  split at hx
  · rename_i hr
    have := List.any_eq_false.1 h1 p hp
    have e := Option.some.inj hx
    simp [hr, e] at this
  · rename_i hr
    split at hx
    · rename_i hw
      have e := Option.some.inj hx
      simp only [Bool.and_eq_true] at hw
      -- p could enter: nobody before p has, so the count stands
      have key : ∀ (ps : List Pn) (k : Nat), k < 4 → ent s.fl tm k ps = 0 → p ∈ ps → False := by
        intro ps
        induction ps with
        | nil => intro k _ _ h; cases h
        | cons q ps ih =>
          intro k hk he hm
          unfold ent at he
          split at he
          · omega
          · rename_i hc
            rcases List.mem_cons.1 hm with rfl | hm
            · apply hc
              simp [entC, hw.2, e, hk]
            · exact ih k hk he hm
      exact key s.ps (nRid s.ps) (by simpa [roomOf] using hw.1) h2 hp
    · cases hx

theorem runR_done {n : Nat} {s : RS} {tm : Int} (h : doneR s.ps = true) : runR n s tm = s := by
  cases n with
  | zero => rfl
  | succ n => simp [runR, h]
theorem runR_step {n : Nat} {s : RS} {tm : Int} (h : doneR s.ps = false) : runR (n + 1) s tm = runR n (stepR s tm) (tm + 1) := by simp [runR, h]
theorem doneR_of_todo : ∀ {ps : List Pn}, todo ps = 0 → doneR ps = true
  | [], _ => rfl
  | p :: ps, h => by
    rw [todo_cons] at h
    have h1 : ¬ p.off < 0 := by
      intro hx
      rw [if_pos hx] at h
      omega
    have h2 := doneR_of_todo (ps := ps) (by omega)
    have e : doneR (p :: ps) = (decide (0 ≤ p.off) && doneR ps) := rfl
    rw [e, h2]
    simp; omega
theorem quiet_state {s : RS} {tm : Int} (h : (outC s.ps s.fl || inC (outA s.ps s.fl tm) s.fl tm) = false) :
    stepR s tm = ⟨(driveR s.ps tm s.fl s.h).1, (driveR s.ps tm s.fl s.h).2, s.ps⟩ := by
  unfold stepR
  rw [if_neg (by simp [h]), (quiet_step h).1]
theorem tgt_later {s : RS} {tm : Int} (hi : Inv tm s) (ht : 200 ≤ tm) {p : Pn} (hp : p ∈ s.ps) (room : Bool) : tgt room (tm + 1) p = tgt room tm p := by
  have hc := (hi.ok p hp).c1
  have : wai (tm + 1) p = wai tm p := by
    unfold wai
    rw [show decide (p.c ≤ tm + 1) = true from by simp; omega, show decide (p.c ≤ tm) = true from by simp; omega]
  unfold tgt
  rw [this]

/-- All have left, if there is time enough: from time 200 on. -/
theorem arrive_late : ∀ (t : Nat) (s : RS) (tm : Int) (n : Nat), Inv tm s → 200 ≤ tm → todo s.ps ≤ t → 17 * t ≤ n → doneR (runR n s tm).ps = true
  | 0, s, tm, n, hi, ht, h0, hn => by
    have := doneR_of_todo (ps := s.ps) (by omega)
    rw [runR_done this]; exact this
  | t + 1, s, tm, n, hi, ht, h0, hn => by
    -- somebody to visit ahead, d floors away
    have ahead : ∀ (D : Nat) (s : RS) (tm : Int) (n : Nat), Inv tm s → 200 ≤ tm → todo s.ps ≤ t + 1 → (∃ p ∈ s.ps, ∃ (x : Int) (d : Nat), tgt (roomOf s.ps) tm p = some x ∧ d ≤ D ∧ x = s.fl + s.h * d) → 17 * t + D + 1 ≤ n → doneR (runR n s tm).ps = true := by
      intro D
      induction D with
      | zero =>
        rintro s tm n hi ht h0 ⟨p, hp, x, d, hx, hd, he⟩ hn
        by_cases hdn : doneR s.ps = true
        · rw [runR_done hdn]; exact hdn
        obtain ⟨n, rfl⟩ : ∃ m, n = m + 1 := ⟨n - 1, by omega⟩
        rw [runR_step (by simpa using hdn)]
        by_cases hev : (outC s.ps s.fl || inC (outA s.ps s.fl tm) s.fl tm) = true
        · have := (todo_step (s := s) (tm := tm) (by omega)).2 hev
          exact arrive_late t _ _ _ (hi.step (by omega)) (by omega) (by omega) (by omega)
        · have := no_target_here (by simpa using hev) hp hx
          have : d = 0 := by omega
          subst this
          simp at he
          exact absurd he this
      | succ D ih =>
        rintro s tm n hi ht h0 ⟨p, hp, x, d, hx, hd, he⟩ hn
        by_cases hdn : doneR s.ps = true
        · rw [runR_done hdn]; exact hdn
        obtain ⟨n, rfl⟩ : ∃ m, n = m + 1 := ⟨n - 1, by omega⟩
        rw [runR_step (by simpa using hdn)]
        by_cases hev : (outC s.ps s.fl || inC (outA s.ps s.fl tm) s.fl tm) = true
        · have := (todo_step (s := s) (tm := tm) (by omega)).2 hev
          exact arrive_late t _ _ _ (hi.step (by omega)) (by omega) (by omega) (by omega)
        · have hev' : (outC s.ps s.fl || inC (outA s.ps s.fl tm) s.fl tm) = false := by simpa using hev
          have hne := no_target_here hev' hp hx
          have hi' := hi.step (tm := tm) (by omega)
          have hq := quiet_state hev'
          have hh := hi.car.h1
          have hd0 : d ≠ 0 := by
            rintro rfl
            simp at he
            exact hne he
          obtain ⟨d', rfl⟩ : ∃ d', d = d' + 1 := ⟨d - 1, by omega⟩
          have hah : ahd s.ps (roomOf s.ps) tm s.fl s.h = true := ahd_iff.2 ⟨p, hp, x, hx, by
            rcases hh with h | h <;> rw [h] at he ⊢ <;> simp at he ⊢ <;> omega⟩
          have hdr : driveR s.ps tm s.fl s.h = (s.fl + s.h, s.h) := by unfold driveR; rw [if_pos hah]
          rw [hdr] at hq
          rw [hq] at hi' ⊢
          refine ih _ _ _ hi' (by omega) h0 ⟨p, hp, x, d', ?_, by omega, ?_⟩ (by omega)
          · rw [tgt_later hi ht hp]; exact hx
          · simp only
            rcases hh with h | h <;> rw [h] at he ⊢ <;> simp at he ⊢ <;> omega
    by_cases hdn : doneR s.ps = true
    · rw [runR_done hdn]; exact hdn
    have hdn' : doneR s.ps = false := by simpa using hdn
    by_cases hev : (outC s.ps s.fl || inC (outA s.ps s.fl tm) s.fl tm) = true
    · obtain ⟨n, rfl⟩ : ∃ m, n = m + 1 := ⟨n - 1, by omega⟩
      rw [runR_step hdn']
      have := (todo_step (s := s) (tm := tm) (by omega)).2 hev
      exact arrive_late t _ _ _ (hi.step (by omega)) (by omega) (by omega) (by omega)
    have hev' : (outC s.ps s.fl || inC (outA s.ps s.fl tm) s.fl tm) = false := by simpa using hev
    have hmid : ∀ p ∈ s.ps, Mid tm s.fl p := by
      have := inA_mid hi (by omega : (0 : Int) ≤ tm)
      rw [(quiet_step hev').1] at this
      exact this
    have hf0 := hi.car.f0
    have hf1 := hi.car.f1
    have hh := hi.car.h1
    by_cases hah : ahd s.ps (roomOf s.ps) tm s.fl s.h = true
    · obtain ⟨p, hp, x, hx, hpos⟩ := ahd_iff.1 hah
      have hin := tgt_in (hmid p hp) hx
      refine ahead 15 s tm n hi ht h0 ⟨p, hp, x, (x - s.fl).natAbs, hx, by omega, ?_⟩ (by omega)
      rcases hh with h | h <;> rw [h] at hpos ⊢ <;> simp at hpos ⊢ <;> omega
    · obtain ⟨p, hp, x, hx⟩ := has_target hi ht hev' hdn'
      have hne := no_target_here hev' hp hx
      have hin := tgt_in (hmid p hp) hx
      have hneg : ¬ 0 < (x - s.fl) * s.h := fun h => hah (ahd_iff.2 ⟨p, hp, x, hx, h⟩)
      have hbeh : ahd s.ps (roomOf s.ps) tm s.fl (-s.h) = true := ahd_iff.2 ⟨p, hp, x, hx, by
        rcases hh with h | h <;> rw [h] at hneg ⊢ <;> simp at hneg ⊢ <;> omega⟩
      have hdr : driveR s.ps tm s.fl s.h = (s.fl - s.h, -s.h) := by unfold driveR; rw [if_neg hah, if_pos hbeh]
      obtain ⟨n, rfl⟩ : ∃ m, n = m + 1 := ⟨n - 1, by omega⟩
      rw [runR_step hdn']
      have hi' := hi.step (tm := tm) (by omega)
      have hq := quiet_state hev'
      rw [hdr] at hq
      rw [hq] at hi' ⊢
      refine ahead 14 _ _ _ hi' (by omega) h0 ⟨p, hp, x, (x - s.fl).natAbs - 1, ?_, by omega, ?_⟩ (by omega)
      · rw [tgt_later hi ht hp]; exact hx
      · simp only
        rcases hh with h | h <;> rw [h] at hneg ⊢ <;> simp at hneg ⊢ <;> omega
theorem arrive : ∀ (k : Nat) (t : Nat) (s : RS) (tm : Int) (n : Nat), Inv tm s → 0 ≤ tm → 200 ≤ tm + k → todo s.ps ≤ t → 17 * t + k ≤ n → doneR (runR n s tm).ps = true
  | 0, t, s, tm, n, hi, h0, hk, ht, hn => arrive_late t s tm n hi (by omega) ht (by omega)
  | k + 1, t, s, tm, n, hi, h0, hk, ht, hn => by
    by_cases hdn : doneR s.ps = true
    · rw [runR_done hdn]; exact hdn
    obtain ⟨n, rfl⟩ : ∃ m, n = m + 1 := ⟨n - 1, by omega⟩
    rw [runR_step (by simpa using hdn)]
    have := (todo_step (s := s) (tm := tm) h0).1
    exact arrive k t _ _ n (hi.step h0) (by omega) (by omega) (by omega) (by omega)
theorem todo_le : ∀ ps : List Pn, todo ps ≤ 2 * ps.length
  | [] => Nat.le_refl _
  | p :: ps => by
    rw [todo_cons]
    have := todo_le ps
    simp only [List.length_cons]
    split <;> split <;> omega
theorem Inv.run : ∀ (n : Nat) (s : RS) (tm : Int), Inv tm s → 0 ≤ tm → ∃ tm', tm ≤ tm' ∧ Inv tm' (runR n s tm)
  | 0, s, tm, hi, _ => ⟨tm, Int.le_refl _, hi⟩
  | n + 1, s, tm, hi, h0 => by
    by_cases hdn : doneR s.ps = true
    · rw [runR_done hdn]; exact ⟨tm, Int.le_refl _, hi⟩
    rw [runR_step (by simpa using hdn)]
    obtain ⟨tm', h1, h2⟩ := Inv.run n _ _ (hi.step h0) (by omega)
    exact ⟨tm', by omega, h2⟩

/-! The calls stay. -/
def callOf (p : Pn) : CallQ := (p.f, p.t, p.c)
def newP (c : CallQ) : Pn := ⟨c.1, c.2.1, c.2.2, -1, -1⟩
theorem callOf_out (fl tm : Int) (ps : List Pn) : (outA ps fl tm).map callOf = ps.map callOf := by
  unfold outA
  rw [List.map_map]
  apply List.map_congr_left
  intro p _
  obtain ⟨h1, h2, h3, _⟩ := outP_f fl tm p
  simp [callOf, h1, h2, h3]
theorem callOf_in (fl tm : Int) : ∀ (ps : List Pn) (k : Nat), (inGo fl tm k ps).map callOf = ps.map callOf
  | [], _ => rfl
  | p :: ps, k => by
    unfold inGo
    split
    · simp [callOf_in fl tm ps, callOf]
    · simp [callOf_in fl tm ps]
theorem step_ps (s : RS) (tm : Int) : (stepR s tm).ps = inA (outA s.ps s.fl tm) s.fl tm := by unfold stepR; split <;> rfl
theorem callOf_step (s : RS) (tm : Int) : (stepR s tm).ps.map callOf = s.ps.map callOf := by
  rw [step_ps, inA, callOf_in, callOf_out]
theorem callOf_run : ∀ (n : Nat) (s : RS) (tm : Int), (runR n s tm).ps.map callOf = s.ps.map callOf
  | 0, _, _ => rfl
  | n + 1, s, tm => by
    by_cases hdn : doneR s.ps = true
    · rw [runR_done hdn]
    rw [runR_step (by simpa using hdn), callOf_run n, callOf_step]

/-- A valid call. -/
def vCall (c : CallQ) : Bool := decide (0 ≤ c.1 ∧ c.1 ≤ 15) && decide (0 ≤ c.2.1 ∧ c.2.1 ≤ 15) && decide (c.1 ≠ c.2.1) && decide (0 ≤ c.2.2 ∧ c.2.2 ≤ 200)
def rideR (cs : List CallQ) (start : Int) : List Pn := (runR 901 ⟨start, 1, cs.map newP⟩ 0).ps
theorem start_inv {cs : List CallQ} {start : Int} (hv : ∀ c ∈ cs, vCall c = true) (h0 : 0 ≤ start) (h1 : start ≤ 15) : Inv 0 ⟨start, 1, cs.map newP⟩ := by
  refine ⟨⟨h0, h1, .inl rfl⟩, ?_⟩
  intro p hp
  obtain ⟨c, hc, rfl⟩ := List.mem_map.1 hp
  have h := hv c hc
  simp [vCall] at h
  refine ⟨by simp only [newP]; omega, by simp only [newP]; omega, by simp only [newP]; omega, by simp only [newP]; omega, by simp only [newP]; exact h.1.2, by simp only [newP]; omega, by simp only [newP]; omega, .inl rfl, .inl rfl, ?_⟩
  intro hr
  have := rid_iff.1 hr
  simp [newP] at this
/-- Everybody arrives; nobody enters before the call, or leaves before the way is done. -/
theorem rideR_all {cs : List CallQ} {start : Int} (hv : ∀ c ∈ cs, vCall c = true) (hl : cs.length ≤ 12) (h0 : 0 ≤ start) (h1 : start ≤ 15) :
    ∀ p ∈ rideR cs start, p.c ≤ p.on ∧ 0 ≤ p.on ∧ p.on + 1 + (p.t - p.f) ≤ p.off ∧ p.on + 1 + (p.f - p.t) ≤ p.off := by
  have hi := start_inv hv h0 h1
  have ht : todo (cs.map newP) ≤ 24 := by have := todo_le (cs.map newP); simp at this; omega
  have hd : doneR (rideR cs start) = true := arrive 200 24 _ 0 901 hi (Int.le_refl _) (by omega) ht (by omega)
  obtain ⟨tm', _, hi'⟩ := hi.run 901 _ _ (Int.le_refl _)
  intro p hp
  have hok := hi'.ok p hp
  have hoff : 0 ≤ p.off := by
    have := List.all_eq_true.1 hd p hp
    simpa using this
  have h2 := hok.off_
  have h3 := hok.on_
  have h4 := hok.c0
  omega

/-! The room: at most four persons are in the car. -/
def inAt (t : Int) (p : Pn) : Bool := decide (0 ≤ p.on ∧ p.on ≤ t) && (decide (p.off < 0) || decide (t < p.off))
def cnt (ps : List Pn) (t : Int) : Nat := ps.countP (inAt t)
theorem cnt_out (fl tm t : Int) (h0 : 0 ≤ tm) (ht : t < tm) (ps : List Pn) : cnt (outA ps fl tm) t = cnt ps t := by
  unfold cnt outA
  rw [List.countP_map]
  apply List.countP_congr
  intro p _
  unfold outP
  simp only [Function.comp]
  split
  · rename_i hc
    have hr := rid_iff.1 hc.1
    unfold inAt
    simp only
    rw [show decide (tm < 0) = false from by simp; omega, show decide (t < tm) = true from by simp; omega, show decide (p.off < 0) = true from by simp; omega]
    simp
  · rfl
theorem cnt_in (fl tm t : Int) (h0 : 0 ≤ tm) (ht : t < tm) : ∀ (ps : List Pn) (k : Nat), cnt (inGo fl tm k ps) t = cnt ps t
  | [], _ => rfl
  | p :: ps, k => by
    by_cases hc : entC fl tm k p = true
    · have hon : p.on < 0 := by simp [entC, wai] at hc; omega
      have e : inGo fl tm k (p :: ps) = { p with on := tm } :: inGo fl tm (k + 1) ps := by simp [inGo, hc]
      have ih := cnt_in fl tm t h0 ht ps (k + 1)
      unfold cnt at ih ⊢
      rw [e, List.countP_cons, List.countP_cons, ih]
      have h1 : inAt t { p with on := tm } = false := by unfold inAt; simp only; rw [show decide (0 ≤ tm ∧ tm ≤ t) = false from by simp; omega]; rfl
      have h2 : inAt t p = false := by unfold inAt; rw [show decide (0 ≤ p.on ∧ p.on ≤ t) = false from by simp; omega]; rfl
      rw [h1, h2]
    · have e : inGo fl tm k (p :: ps) = p :: inGo fl tm k ps := by simp [inGo, hc]
      have ih := cnt_in fl tm t h0 ht ps k
      unfold cnt at ih ⊢
      rw [e, List.countP_cons, List.countP_cons, ih]
theorem cnt_now {tm fl : Int} {ps : List Pn} (h : ∀ p ∈ ps, Mid tm fl p) : cnt ps tm = nRid ps := by
  unfold cnt nRid
  apply List.countP_congr
  intro p hp
  have hm := h p hp
  have h1 := hm.on_
  have h2 := hm.off_
  have h3 := hm.c0
  unfold inAt rid
  simp
  omega
theorem nRid_in (fl tm : Int) (h0 : 0 ≤ tm) : ∀ (ps : List Pn) (k : Nat), (∀ p ∈ ps, p.on < 0 → p.off < 0) → nRid (inGo fl tm k ps) = nRid ps + ent fl tm k ps
  | [], _, _ => rfl
  | p :: ps, k, h => by
    have ht := fun x hx => h x (List.mem_cons_of_mem _ hx)
    by_cases hc : entC fl tm k p = true
    · have hon : p.on < 0 := by simp [entC, wai] at hc; omega
      have hoff := h p (by simp) hon
      have e : inGo fl tm k (p :: ps) = { p with on := tm } :: inGo fl tm (k + 1) ps := by simp [inGo, hc]
      have e2 : ent fl tm k (p :: ps) = ent fl tm (k + 1) ps + 1 := by simp [ent, hc]
      have ih := nRid_in fl tm h0 ps (k + 1) ht
      unfold nRid at ih ⊢
      rw [e, e2, List.countP_cons, List.countP_cons, ih]
      have h1 : rid { p with on := tm } = true := by rw [rid_iff]; simp only; omega
      have h2 : rid p = false := by
        rw [Bool.eq_false_iff]; intro hx; have := rid_iff.1 hx; omega
      rw [h1, h2]
      simp
      omega
    · have e : inGo fl tm k (p :: ps) = p :: inGo fl tm k ps := by simp [inGo, hc]
      have e2 : ent fl tm k (p :: ps) = ent fl tm k ps := by simp [ent, hc]
      have ih := nRid_in fl tm h0 ps k ht
      unfold nRid at ih ⊢
      rw [e, e2, List.countP_cons, List.countP_cons, ih]
      omega
theorem ent_room (fl tm : Int) : ∀ (ps : List Pn) (k : Nat), 0 < ent fl tm k ps → k + ent fl tm k ps ≤ 4
  | [], _, h => by simp [ent] at h
  | p :: ps, k, h => by
    by_cases hc : entC fl tm k p = true
    · have hk : k < 4 := by simp [entC] at hc; omega
      have e2 : ent fl tm k (p :: ps) = ent fl tm (k + 1) ps + 1 := by simp [ent, hc]
      rw [e2]
      by_cases h0 : 0 < ent fl tm (k + 1) ps
      · have := ent_room fl tm ps (k + 1) h0; omega
      · omega
    · have e2 : ent fl tm k (p :: ps) = ent fl tm k ps := by simp [ent, hc]
      rw [e2] at h ⊢
      exact ent_room fl tm ps k h
theorem mem_in (fl tm : Int) : ∀ (ps : List Pn) (k : Nat) (p : Pn), p ∈ inGo fl tm k ps → p ∈ ps ∨ (p.on = tm ∧ 0 < ent fl tm k ps)
  | [], _, p, h => by simp [inGo] at h
  | q :: ps, k, p, h => by
    by_cases hc : entC fl tm k q = true
    · have e : inGo fl tm k (q :: ps) = { q with on := tm } :: inGo fl tm (k + 1) ps := by simp [inGo, hc]
      have e2 : ent fl tm k (q :: ps) = ent fl tm (k + 1) ps + 1 := by simp [ent, hc]
      rw [e] at h
      rw [e2]
      rcases List.mem_cons.1 h with rfl | h
      · exact .inr ⟨rfl, by omega⟩
      · rcases mem_in fl tm ps (k + 1) p h with h | h
        · exact .inl (List.mem_cons_of_mem _ h)
        · exact .inr ⟨h.1, by omega⟩
    · have e : inGo fl tm k (q :: ps) = q :: inGo fl tm k ps := by simp [inGo, hc]
      have e2 : ent fl tm k (q :: ps) = ent fl tm k ps := by simp [ent, hc]
      rw [e] at h
      rw [e2]
      rcases List.mem_cons.1 h with rfl | h
      · exact .inl (by simp)
      · rcases mem_in fl tm ps k p h with h | h
        · exact .inl (List.mem_cons_of_mem _ h)
        · exact .inr h
/-- Whenever somebody has entered, at most four were in the car then. -/
def Room (ps : List Pn) : Prop := ∀ p ∈ ps, 0 ≤ p.on → cnt ps p.on ≤ 4
theorem Room.step {tm : Int} {s : RS} (hi : Inv tm s) (h0 : 0 ≤ tm) (hr : Room s.ps) : Room (stepR s tm).ps := by
  rw [step_ps]
  have hm := inA_mid hi h0
  intro p hp hon
  have old : ∀ t, t < tm → cnt (inA (outA s.ps s.fl tm) s.fl tm) t = cnt s.ps t := fun t ht => by
    unfold inA; rw [cnt_in _ _ _ h0 ht, cnt_out _ _ _ h0 ht]
  rcases mem_in _ _ _ _ _ hp with h | ⟨h1, h2⟩
  · obtain ⟨q, hq, rfl⟩ := List.mem_map.1 h
    have hqo := (hi.ok q hq).on_
    rw [(outP_f s.fl tm q).2.2.2] at hon ⊢
    rw [old _ (by omega)]
    exact hr q hq hon
  · rw [h1, cnt_now hm]
    have hoff : ∀ p ∈ outA s.ps s.fl tm, p.on < 0 → p.off < 0 := by
      intro p hp hon
      have := outA_mid hi h0 p hp
      have h1 := this.on_
      have h2 := this.off_
      omega
    have := nRid_in s.fl tm h0 (outA s.ps s.fl tm) (nRid (outA s.ps s.fl tm)) hoff
    have h4 := ent_room _ _ _ _ h2
    unfold inA
    omega
theorem Room.run : ∀ (n : Nat) (s : RS) (tm : Int), Inv tm s → 0 ≤ tm → Room s.ps → Room (runR n s tm).ps
  | 0, s, tm, hi, _, hr => hr
  | n + 1, s, tm, hi, h0, hr => by
    by_cases hdn : doneR s.ps = true
    · rw [runR_done hdn]; exact hr
    rw [runR_step (by simpa using hdn)]
    exact Room.run n _ _ (hi.step h0) (by omega) (hr.step hi h0)
theorem rideR_room {cs : List CallQ} {start : Int} (hv : ∀ c ∈ cs, vCall c = true) (h0 : 0 ≤ start) (h1 : start ≤ 15) : Room (rideR cs start) := by
  refine Room.run 901 _ 0 (start_inv hv h0 h1) (Int.le_refl _) ?_
  intro p hp hon
  obtain ⟨c, _, rfl⟩ := List.mem_map.1 hp
  simp [newP] at hon

/-! One person alone. -/
theorem run_wait : ∀ (k n : Nat) (fl h tm f t c : Int), tm + k ≤ c → runR (n + k) ⟨fl, h, [⟨f, t, c, -1, -1⟩]⟩ tm = runR n ⟨fl, h, [⟨f, t, c, -1, -1⟩]⟩ (tm + k)
  | 0, n, fl, h, tm, f, t, c, hk => by simp
  | k + 1, n, fl, h, tm, f, t, c, hk => by
    have hd : doneR [(⟨f, t, c, -1, -1⟩ : Pn)] = false := rfl
    rw [← Nat.add_assoc, runR_step hd]
    have hw : wai tm ⟨f, t, c, -1, -1⟩ = false := by unfold wai; simp; omega
    have hs : stepR ⟨fl, h, [⟨f, t, c, -1, -1⟩]⟩ tm = ⟨fl, h, [⟨f, t, c, -1, -1⟩]⟩ := by
      simp [stepR, outC, outA, inC, inA, outP, rid, ent, entC, inGo, hw, driveR, ahd, tgt, ahT]
    rw [hs, run_wait k n fl h (tm + 1) f t c (by omega)]
    congr 1
    omega
theorem run_fetch : ∀ (d n : Nat) (fl h tm f t c : Int), (h = 1 ∨ h = -1) → (fl - f).natAbs = d → c ≤ tm →
    ∃ h', (h' = 1 ∨ h' = -1) ∧ runR (n + d) ⟨fl, h, [⟨f, t, c, -1, -1⟩]⟩ tm = runR n ⟨f, h', [⟨f, t, c, -1, -1⟩]⟩ (tm + d)
  | 0, n, fl, h, tm, f, t, c, hh, hd, hc => by
    obtain rfl : fl = f := by omega
    exact ⟨h, hh, by simp⟩
  | d + 1, n, fl, h, tm, f, t, c, hh, hd, hc => by
    have hdn : doneR [(⟨f, t, c, -1, -1⟩ : Pn)] = false := rfl
    rw [← Nat.add_assoc, runR_step hdn]
    have hw : wai tm ⟨f, t, c, -1, -1⟩ = true := by unfold wai; simp; omega
    have hne : ¬ f = fl := by omega
    have hs : stepR ⟨fl, h, [⟨f, t, c, -1, -1⟩]⟩ tm = ⟨(driveR [⟨f, t, c, -1, -1⟩] tm fl h).1, (driveR [⟨f, t, c, -1, -1⟩] tm fl h).2, [⟨f, t, c, -1, -1⟩]⟩ := by
      simp [stepR, outC, outA, inC, inA, outP, rid, ent, entC, inGo, hw, hne]
    have hah : ∀ g : Int, ahd [⟨f, t, c, -1, -1⟩] (roomOf [⟨f, t, c, -1, -1⟩]) tm fl g = decide (0 < (f - fl) * g) := by
      intro g
      simp [ahd, roomOf, nRid, rid, tgt, hw, ahT]
    rw [hs]
    by_cases hp : 0 < (f - fl) * h
    · have hdr : driveR [⟨f, t, c, -1, -1⟩] tm fl h = (fl + h, h) := by unfold driveR; rw [hah, if_pos (by simpa using hp)]
      rw [hdr]
      obtain ⟨h', hh', e⟩ := run_fetch d n (fl + h) h (tm + 1) f t c hh (by rcases hh with rfl | rfl <;> simp at hp <;> omega) (by omega)
      refine ⟨h', hh', ?_⟩
      rw [e]; congr 1; omega
    · have hp' : 0 < (f - fl) * -h := by rcases hh with rfl | rfl <;> simp at hp ⊢ <;> omega
      have hdr : driveR [⟨f, t, c, -1, -1⟩] tm fl h = (fl - h, -h) := by unfold driveR; rw [hah, hah, if_neg (by simpa using hp), if_pos (by simpa using hp')]
      rw [hdr]
      obtain ⟨h', hh', e⟩ := run_fetch d n (fl - h) (-h) (tm + 1) f t c (by omega) (by rcases hh with rfl | rfl <;> simp at hp' <;> omega) (by omega)
      refine ⟨h', hh', ?_⟩
      rw [e]; congr 1; omega
theorem run_bring : ∀ (d n : Nat) (fl h tm f t c on : Int), (h = 1 ∨ h = -1) → (fl - t).natAbs = d → 0 ≤ on →
    ∃ h', (h' = 1 ∨ h' = -1) ∧ runR (n + d) ⟨fl, h, [⟨f, t, c, on, -1⟩]⟩ tm = runR n ⟨t, h', [⟨f, t, c, on, -1⟩]⟩ (tm + d)
  | 0, n, fl, h, tm, f, t, c, on, hh, hd, hc => by
    obtain rfl : fl = t := by omega
    exact ⟨h, hh, by simp⟩
  | d + 1, n, fl, h, tm, f, t, c, on, hh, hd, hc => by
    have hdn : doneR [(⟨f, t, c, on, -1⟩ : Pn)] = false := by simp [doneR]
    rw [← Nat.add_assoc, runR_step hdn]
    have hr : rid ⟨f, t, c, on, -1⟩ = true := by rw [rid_iff]; simp only; omega
    have hw : wai tm ⟨f, t, c, on, -1⟩ = false := by unfold wai; simp; omega
    have hne : ¬ t = fl := by omega
    have hs : stepR ⟨fl, h, [⟨f, t, c, on, -1⟩]⟩ tm = ⟨(driveR [⟨f, t, c, on, -1⟩] tm fl h).1, (driveR [⟨f, t, c, on, -1⟩] tm fl h).2, [⟨f, t, c, on, -1⟩]⟩ := by
      simp [stepR, outC, outA, inC, inA, outP, hr, ent, entC, inGo, hw, hne]
    have hah : ∀ g : Int, ahd [⟨f, t, c, on, -1⟩] (roomOf [⟨f, t, c, on, -1⟩]) tm fl g = decide (0 < (t - fl) * g) := by
      intro g
      simp [ahd, tgt, hr, ahT]
    rw [hs]
    by_cases hp : 0 < (t - fl) * h
    · have hdr : driveR [⟨f, t, c, on, -1⟩] tm fl h = (fl + h, h) := by unfold driveR; rw [hah, if_pos (by simpa using hp)]
      rw [hdr]
      obtain ⟨h', hh', e⟩ := run_bring d n (fl + h) h (tm + 1) f t c on hh (by rcases hh with rfl | rfl <;> simp at hp <;> omega) hc
      refine ⟨h', hh', ?_⟩
      rw [e]; congr 1; omega
    · have hp' : 0 < (t - fl) * -h := by rcases hh with rfl | rfl <;> simp at hp ⊢ <;> omega
      have hdr : driveR [⟨f, t, c, on, -1⟩] tm fl h = (fl - h, -h) := by unfold driveR; rw [hah, hah, if_neg (by simpa using hp), if_pos (by simpa using hp')]
      rw [hdr]
      obtain ⟨h', hh', e⟩ := run_bring d n (fl - h) (-h) (tm + 1) f t c on (by omega) (by rcases hh with rfl | rfl <;> simp at hp' <;> omega) hc
      refine ⟨h', hh', ?_⟩
      rw [e]; congr 1; omega
theorem step_enter (f h tm t c : Int) (hc : c ≤ tm) : stepR ⟨f, h, [⟨f, t, c, -1, -1⟩]⟩ tm = ⟨f, h, [⟨f, t, c, tm, -1⟩]⟩ := by
  have hw : wai tm ⟨f, t, c, -1, -1⟩ = true := by unfold wai; simp; omega
  have hr : rid ⟨f, t, c, -1, -1⟩ = false := rfl
  simp [stepR, outC, outA, inC, inA, outP, hr, ent, entC, inGo, nRid, hw]
theorem step_leave (t h tm f c on : Int) (h0 : 0 ≤ on) : stepR ⟨t, h, [⟨f, t, c, on, -1⟩]⟩ tm = ⟨t, h, [⟨f, t, c, on, tm⟩]⟩ := by
  have hr : rid ⟨f, t, c, on, -1⟩ = true := by rw [rid_iff]; simp only; omega
  have hw : wai tm ⟨f, t, c, on, tm⟩ = false := by unfold wai; simp; omega
  simp [stepR, outC, outA, inC, inA, outP, hr, ent, entC, inGo, hw]
/-- A single person is served directly. -/
theorem rideR_one {f t c start : Int} (hv : vCall (f, t, c) = true) (h0 : 0 ≤ start) (h1 : start ≤ 15) :
    rideR [(f, t, c)] start = [⟨f, t, c, c + (f - start).natAbs, c + (f - start).natAbs + 1 + (t - f).natAbs⟩] := by
  simp [vCall] at hv
  obtain ⟨k, rfl⟩ : ∃ k : Nat, c = (k : Int) := ⟨c.toNat, by omega⟩
  have hne := hv.1.2
  unfold rideR
  show (runR 901 ⟨start, 1, [⟨f, t, k, -1, -1⟩]⟩ 0).ps = _
  obtain ⟨m, hm⟩ : ∃ m, 901 = (((m + 1) + (f - t).natAbs) + 1 + (start - f).natAbs) + k := ⟨901 - 1 - (f - t).natAbs - 1 - (start - f).natAbs - k, by omega⟩
  rw [hm, run_wait k _ start 1 0 f t k (by omega)]
  obtain ⟨h', hh', e⟩ := run_fetch (start - f).natAbs (m + 1 + (f - t).natAbs + 1) start 1 (0 + k) f t k (.inl rfl) rfl (by omega)
  rw [e]
  have hw : wai (0 + (k : Int) + (start - f).natAbs) ⟨f, t, k, -1, -1⟩ = true := by unfold wai; simp; omega
  rw [runR_step rfl]
  have hs := step_enter f h' (0 + (k : Int) + (start - f).natAbs) t k (by omega)
  rw [hs]
  obtain ⟨h'', hh'', e2⟩ := run_bring (f - t).natAbs (m + 1) f h' (0 + (k : Int) + (start - f).natAbs + 1) f t k (0 + (k : Int) + (start - f).natAbs) hh' rfl (by omega)
  rw [e2, runR_step (by simp [doneR])]
  have hs2 := step_leave t h'' (0 + (k : Int) + (start - f).natAbs + 1 + (f - t).natAbs) f k (0 + (k : Int) + (start - f).natAbs) (by omega)
  rw [hs2, runR_done (by simp [doneR]; omega)]
  simp only [List.cons.injEq, Pn.mk.injEq, and_true, true_and]
  omega
end Go.Proofs.Ythgbbfcpnmpjgaa
