/-
  One person after the other: how a step of the car is built up, in plain Lean.
-/
import Derived.Test.YthgbbfcpnmpjgaaRideLaw
namespace Go.Proofs.Ythgbbfcpnmpjgaa
set_option linter.unusedSimpArgs false
set_option linter.unusedVariables false

def nOff (ps : List Pn) : Nat := ps.countP fun p => decide (0 ≤ p.off)
theorem nRid_app (a b : List Pn) : nRid (a ++ b) = nRid a + nRid b := by simp [nRid]
theorem nRid_cons (p : Pn) (b : List Pn) : nRid (p :: b) = nRid b + if rid p = true then 1 else 0 := by simp [nRid, List.countP_cons]
theorem nOff_app (a b : List Pn) : nOff (a ++ b) = nOff a + nOff b := by simp [nOff]
theorem nOff_cons (p : Pn) (b : List Pn) : nOff (p :: b) = nOff b + if 0 ≤ p.off then 1 else 0 := by simp [nOff, List.countP_cons]
theorem nRid_le (a : List Pn) : nRid a ≤ a.length := List.countP_le_length
theorem nOff_le (a : List Pn) : nOff a ≤ a.length := List.countP_le_length
theorem doneR_iff (ps : List Pn) : doneR ps = decide (ps.length ≤ nOff ps) := by
  induction ps with
  | nil => rfl
  | cons p ps ih =>
    have e : doneR (p :: ps) = (decide (0 ≤ p.off) && doneR ps) := rfl
    have hl := nOff_le ps
    rw [e, ih, nOff_cons]
    by_cases h : 0 ≤ p.off
    · simp [h]
    · simp [h]; omega
theorem nOff_in (fl tm : Int) : ∀ (ps : List Pn) (k : Nat), nOff (inGo fl tm k ps) = nOff ps
  | [], _ => rfl
  | p :: ps, k => by
    unfold inGo
    split
    · rw [nOff_cons, nOff_cons, nOff_in fl tm ps]
    · rw [nOff_cons, nOff_cons, nOff_in fl tm ps]
theorem nOff_start (cs : List CallQ) : nOff (cs.map newP) = 0 := by
  induction cs with
  | nil => rfl
  | cons c cs ih => rw [List.map_cons, nOff_cons, ih]; simp [newP]
theorem nRid_start (cs : List CallQ) : nRid (cs.map newP) = 0 := by
  induction cs with
  | nil => rfl
  | cons c cs ih => rw [List.map_cons, nRid_cons, ih]; simp [newP, rid]
/-- One more person has been asked to leave. -/
theorem outA_snoc (l : List Pn) (p : Pn) (fl tm : Int) : outA (l ++ [p]) fl tm = outA l fl tm ++ [outP fl tm p] := by simp [outA]
theorem outC_snoc (l : List Pn) (p : Pn) (fl : Int) : outC (l ++ [p]) fl = (outC l fl || (rid p && (p.t == fl))) := by simp [outC]
theorem outP_yes {fl tm : Int} {p : Pn} (h : rid p = true) (h2 : p.t = fl) : outP fl tm p = { p with off := tm } := by simp [outP, h, h2]
theorem outP_no {fl tm : Int} {p : Pn} (h : ¬ (rid p = true ∧ p.t = fl)) : outP fl tm p = p := by simp only [outP, if_neg h]
theorem inGo_snoc (fl tm : Int) (l : List Pn) (p : Pn) (k : Nat) : inGo fl tm k (l ++ [p]) = inGo fl tm k l ++ [if entC fl tm (k + ent fl tm k l) p = true then { p with on := tm } else p] := by
  rw [inGo_append]
  congr 1
  simp only [inGo]
  split
  all_goals rfl
theorem ent_snoc (fl tm : Int) (l : List Pn) (p : Pn) (k : Nat) : ent fl tm k (l ++ [p]) = ent fl tm k l + if entC fl tm (k + ent fl tm k l) p = true then 1 else 0 := by
  rw [ent_append]
  simp only [ent, Nat.zero_add]
theorem set_here {α β : Type} (f : α → β) (l : List α) (p q : α) (r : List α) (i : Nat) (hi : l.length = i) : ((l ++ p :: r).map f).set i (f q) = (l ++ q :: r).map f := by
  subst hi
  simp
theorem set_same {α β : Type} (f : α → β) (l : List α) (p q : α) (r : List α) (h : f p = f q) : (l ++ p :: r).map f = (l ++ q :: r).map f := by simp [h]
theorem ahd_snoc (l : List Pn) (p : Pn) (room : Bool) (tm fl h : Int) : ahd (l ++ [p]) room tm fl h = (ahd l room tm fl h || ahT fl h (tgt room tm p)) := by simp [ahd]
/-- The floors that the car has to visit. -/
def tgts (ps : List Pn) (room : Bool) (tm : Int) : List Int := ps.filterMap (tgt room tm)
def ahL (xs : List Int) (fl h : Int) : Bool := xs.any fun x => decide (0 < (x - fl) * h)
theorem ahL_tgts (ps : List Pn) (room : Bool) (tm fl h : Int) : ahL (tgts ps room tm) fl h = ahd ps room tm fl h := by
  induction ps with
  | nil => rfl
  | cons p ps ih =>
    have e : ahd (p :: ps) room tm fl h = (ahT fl h (tgt room tm p) || ahd ps room tm fl h) := rfl
    rw [e, ← ih]
    unfold tgts
    cases ht : tgt room tm p with
    | none => simp [List.filterMap_cons, ht, ahT, ahL]
    | some x => simp [List.filterMap_cons, ht, ahT, ahL]
theorem tgts_snoc (l : List Pn) (p : Pn) (room : Bool) (tm : Int) : tgts (l ++ [p]) room tm = tgts l room tm ++ (tgt room tm p).toList := by
  unfold tgts
  rw [List.filterMap_append]
  cases h : tgt room tm p <;> simp [List.filterMap_cons, h]
theorem tgts_len (ps : List Pn) (room : Bool) (tm : Int) : (tgts ps room tm).length ≤ ps.length := List.length_filterMap_le _ _
theorem tgts_in {tm fl : Int} {ps : List Pn} {room : Bool} (hp : ∀ p ∈ ps, Mid tm fl p) : ∀ x ∈ tgts ps room tm, 0 ≤ x ∧ x ≤ 15 := by
  intro x hx
  obtain ⟨p, hm, hx⟩ := List.mem_filterMap.1 hx
  exact tgt_in (hp p hm) hx
/-- The new heading, and the floor after it. -/
theorem drive_parts (ps : List Pn) (tm fl h : Int) :
    driveR ps tm fl h = (if (!ahd ps (roomOf ps) tm fl h && ahd ps (roomOf ps) tm fl (-h)) = true then (fl + -h, -h) else if ahd ps (roomOf ps) tm fl h = true then (fl + h, h) else (fl, h)) := by
  unfold driveR
  cases h1 : ahd ps (roomOf ps) tm fl h <;> cases h2 : ahd ps (roomOf ps) tm fl (-h) <;> simp [Int.sub_eq_add_neg]
theorem stepR_quiet {s : RS} {tm : Int} {ps2 : List Pn} (h2 : inA (outA s.ps s.fl tm) s.fl tm = ps2) (h : (outC s.ps s.fl || inC (outA s.ps s.fl tm) s.fl tm) = false) : stepR s tm = ⟨(driveR ps2 tm s.fl s.h).1, (driveR ps2 tm s.fl s.h).2, ps2⟩ := by
  unfold stepR
  rw [if_neg (by simp [h]), h2]
theorem stepR_stay {s : RS} {tm : Int} {ps2 : List Pn} (h2 : inA (outA s.ps s.fl tm) s.fl tm = ps2) (h : (outC s.ps s.fl || inC (outA s.ps s.fl tm) s.fl tm) = true) : stepR s tm = ⟨s.fl, s.h, ps2⟩ := by
  unfold stepR
  rw [if_pos h, h2]
theorem len_out (ps : List Pn) (fl tm : Int) : (outA ps fl tm).length = ps.length := by simp [outA]
theorem len_in (ps : List Pn) (fl tm : Int) : (inA ps fl tm).length = ps.length := inGo_len fl tm ps _
theorem len_step (s : RS) (tm : Int) : (stepR s tm).ps.length = s.ps.length := by rw [step_ps, len_in, len_out]
/-- The number in the car after letting in. -/
theorem nRid_inA {tm : Int} {s : RS} (hi : Inv tm s) (h0 : 0 ≤ tm) : nRid (inA (outA s.ps s.fl tm) s.fl tm) = nRid (outA s.ps s.fl tm) + ent s.fl tm (nRid (outA s.ps s.fl tm)) (outA s.ps s.fl tm) := by
  refine nRid_in s.fl tm h0 _ _ fun p hp hon => ?_
  have hm := outA_mid hi h0 p hp
  have h1 := hm.on_
  have h2 := hm.off_
  omega
theorem ent_le (fl tm : Int) : ∀ (ps : List Pn) (k : Nat), ent fl tm k ps ≤ ps.length
  | [], _ => Nat.le_refl _
  | p :: ps, k => by
    unfold ent
    split
    · have := ent_le fl tm ps (k + 1); simp; omega
    · have := ent_le fl tm ps k; simp; omega
theorem vCall_of {c : CallQ} (h : vK c.1 c.2.1 c.2.2 = true) : vCall c = true := by
  have := vK_iff.1 h
  simp [vCall]
  exact ⟨⟨⟨this.1, this.2.1⟩, this.2.2.1⟩, this.2.2.2⟩
theorem vCs_all {cs : List CallQ} (h : vCs cs = true) : cs.length ≤ 12 ∧ ∀ c ∈ cs, vCall c = true := by
  unfold vCs at h
  simp only [Bool.and_eq_true, decide_eq_true_eq, List.all_eq_true] at h
  exact ⟨h.1, fun c hc => vCall_of (h.2 c hc)⟩
end Go.Proofs.Ythgbbfcpnmpjgaa
