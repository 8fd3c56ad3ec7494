/-
  What a ride hands back, in plain Lean.
-/
import Derived.Test.YthgbbfcpnmpjgaaRideStep
import Derived.Test.YthgbbfcpnmpjgaaSortI
namespace Go.Proofs.Ythgbbfcpnmpjgaa
set_option linter.unusedSimpArgs false
set_option linter.unusedVariables false

/-- A person whose times have not been laid yet. -/
def zeroP (c : CallQ) : Pn := ⟨c.1, c.2.1, c.2.2, 0, 0⟩
def halfP (c : CallQ) : Pn := ⟨c.1, c.2.1, c.2.2, -1, 0⟩
def halfQ (c : CallQ) : Pn := ⟨c.1, c.2.1, c.2.2, 0, -1⟩
theorem callOf_zero (cs : List CallQ) : (cs.map zeroP).map callOf = cs := by
  induction cs with
  | nil => rfl
  | cons c cs ih => simp only [List.map_cons, ih]; rfl
theorem on_zero (cs : List CallQ) : (cs.map zeroP).map Pn.on = List.replicate cs.length 0 := by
  induction cs with
  | nil => rfl
  | cons c cs ih => simp only [List.map_cons, ih]; rfl
theorem off_zero (cs : List CallQ) : (cs.map zeroP).map Pn.off = List.replicate cs.length 0 := by
  induction cs with
  | nil => rfl
  | cons c cs ih => simp only [List.map_cons, ih]; rfl
theorem Inv.run2 : ∀ (n : Nat) (s : RS) (tm : Int), Inv tm s → 0 ≤ tm → ∃ tm', tm ≤ tm' ∧ tm' ≤ tm + n ∧ Inv tm' (runR n s tm)
  | 0, s, tm, hi, _ => ⟨tm, Int.le_refl _, by omega, hi⟩
  | n + 1, s, tm, hi, h0 => by
    by_cases hdn : doneR s.ps = true
    · rw [runR_done hdn]; exact ⟨tm, Int.le_refl _, by omega, hi⟩
    rw [runR_step (by simpa using hdn)]
    obtain ⟨tm', h1, h2, h3⟩ := Inv.run2 n _ _ (hi.step h0) (by omega)
    exact ⟨tm', by omega, by omega, h3⟩
/-- The ride of the sorted calls. -/
def rideK (cs : List CallQ) (start : Int) : List Pn := if (vCs cs && inB start 0 15) = true then rideR (insL cs) start else []
theorem rideK_ok {cs : List CallQ} {start : Int} (h1 : vCs cs = true) (h2 : inB start 0 15 = true) : rideK cs start = rideR (insL cs) start := by simp [rideK, h1, h2]
theorem rideK_no {cs : List CallQ} {start : Int} (h : (vCs cs && inB start 0 15) = false) : rideK cs start = [] := by simp [rideK, h]
theorem valid_insL {cs : List CallQ} (h : vCs cs = true) : (insL cs).length ≤ 12 ∧ ∀ c ∈ insL cs, vCall c = true := vCs_all (by rw [vCs_insL]; exact h)
theorem rideR_calls (cs : List CallQ) (start : Int) : (rideR cs start).map callOf = cs := by
  unfold rideR
  rw [callOf_run]
  simp only [List.map_map]
  have : callOf ∘ newP = id := rfl
  rw [this, List.map_id]
theorem rideR_len (cs : List CallQ) (start : Int) : (rideR cs start).length = cs.length := by
  have := congrArg List.length (rideR_calls cs start)
  simpa using this
theorem rideK_len (cs : List CallQ) (start : Int) : (rideK cs start).length ≤ 12 := by
  unfold rideK
  split
  · rename_i h
    simp only [Bool.and_eq_true] at h
    rw [rideR_len]
    exact (valid_insL h.1).1
  · simp
theorem rideR_on {cs : List CallQ} {start : Int} (hv : ∀ c ∈ cs, vCall c = true) (h0 : 0 ≤ start) (h1 : start ≤ 15) : ∀ p ∈ rideR cs start, p.on ≤ 901 ∧ p.off ≤ 901 ∧ -1 ≤ p.on ∧ -1 ≤ p.off := by
  obtain ⟨tm', h2, h3, hi⟩ := (start_inv hv h0 h1).run2 901 _ _ (Int.le_refl _)
  intro p hp
  have hok := hi.ok p hp
  have a := hok.on_
  have b := hok.off_
  have c := hok.c0
  have d := hok.f0
  have e := hok.f1
  have f := hok.t0
  have g := hok.t1
  omega
/-- The sum of the waits. -/
def waits (ps : List Pn) : Int := (ps.map fun p => p.on - p.c).sum
theorem waits_snoc (l : List Pn) (p : Pn) : waits (l ++ [p]) = waits l + (p.on - p.c) := by simp [waits]
theorem waits_in : ∀ (ps : List Pn), (∀ p ∈ ps, p.c ≤ p.on ∧ p.on ≤ 901 ∧ 0 ≤ p.c) → 0 ≤ waits ps ∧ waits ps ≤ 901 * ps.length
  | [], _ => by simp [waits]
  | p :: ps, h => by
    have ih := waits_in ps fun q hq => h q (List.mem_cons_of_mem _ hq)
    have hp := h p (by simp)
    have e : waits (p :: ps) = (p.on - p.c) + waits ps := by simp [waits]
    rw [e]
    simp only [List.length_cons]
    omega
def totK (cs : List CallQ) (start : Int) : Int := if (vCs cs && inB start 0 15) = true then waits (rideR (insL cs) start) else -1
theorem rideR_waits {cs : List CallQ} {start : Int} (hv : ∀ c ∈ cs, vCall c = true) (hl : cs.length ≤ 12) (h0 : 0 ≤ start) (h1 : start ≤ 15) : ∀ p ∈ rideR cs start, p.c ≤ p.on ∧ p.on ≤ 901 ∧ 0 ≤ p.c := by
  intro p hp
  have a := rideR_all hv hl h0 h1 p hp
  have b := rideR_on hv h0 h1 p hp
  have hc : callOf p ∈ cs := by rw [← rideR_calls cs start]; exact List.mem_map_of_mem hp
  have d := hv _ hc
  simp only [vCall, callOf, Bool.and_eq_true] at d
  have d2 := (of_decide_eq_true d.2).1
  exact ⟨a.1, b.1, d2⟩
/-- The specification's way of driving. -/
theorem drive_spec (ps : List Pn) (tm fl h : Int) (h' : Int) (hh : (if (!ahd ps (roomOf ps) tm fl h && ahd ps (roomOf ps) tm fl (-h)) = true then -h else h) = h') :
    driveR ps tm fl h = (fl + (if ahd ps (roomOf ps) tm fl h' = true then h' else 0), h') := by
  subst hh
  rw [drive_parts]
  cases h1 : ahd ps (roomOf ps) tm fl h <;> cases h2 : ahd ps (roomOf ps) tm fl (-h) <;> simp [h1, h2]
theorem h_turn {h h' : Int} {b : Bool} (hh : h = 1 ∨ h = -1) (e : (if b = true then -h else h) = h') : h' = 1 ∨ h' = -1 := by
  split at e <;> omega
end Go.Proofs.Ythgbbfcpnmpjgaa
