/-
  The functions over one door, built on the step of a valid door.
-/
import Derived.Test.YtlcdcelelpapnaaDoorA
namespace Go.Proofs.Ytlcdcelelpapnaa
open Go.RowKit

theorem stepDoor_s (s l : Int) (a b : Bool) (w : World) (hv : vD s l = true) :
    Calls Try.prog 33 #[.agg #[.int .i64 s, .int .i64 l], .bool a, .bool b] w (RetD (dStep s l a b) w) := by
  rw [show dStep s l a b = stepD s l a b from if_pos hv]
  exact stepDoor_v s l a b w (vD_iff.1 hv).2.1 (vD_iff.1 hv).2.2

set_option maxHeartbeats 400000 in
theorem StepDoor_s (s l : Int) (a b : Bool) (w : World) :
    Calls Try.prog 16 #[.agg #[.int .i64 s, .int .i64 l], .bool a, .bool b] w (RetD (dStep s l a b) w) := by
  by_cases hv : vD s l = true
  · go_enter Try.func16, Try.ntmps16
    go_wp2_with fail
    refine (validDoor_s _ _ _).mono ?_
    rintro e w' ⟨rfl, rfl⟩
    go_wp2_with fail
    refine (stepDoor_s s l a b _ hv).mono ?_
    rintro e w' ⟨rfl, hb⟩
    obtain ⟨hc, hf⟩ := bcell hb
    have hz := hb.size
    have Hb := hide hb
    clear hb
    simp at hz
    go_wp2_with fail
    exact bodyPost_ret (v := .agg #[.int .i64 (dStep s l a b).1, .int .i64 (dStep s l a b).2]) (by simp [results, Try.results16, go_sem, hc]) rfl ⟨rfl, (by repeat (first | exact Below.refl _ _ | refine Below.drew ?_ | refine below_drewN ?_ _ | refine Below.alloc ?_ (by first | (simp; done) | (simp; omega)) _ | refine Below.setCell ?_ (by first | (simp; done) | (simp; omega)) _ | refine Below.trans ?_ (Hb.out.mono (by first | (simp; done) | (simp; omega))) | refine Below.trans ?_ (Hb1.out.mono (by first | (simp; done) | (simp; omega))) | refine Below.trans ?_ (Hb2.out.mono (by first | (simp; done) | (simp; omega))) | refine Below.trans ?_ (Hb3.out.mono (by first | (simp; done) | (simp; omega)))))⟩
  · have hv' : vD s l = false := by simpa using hv
    have e1 := hide (show dStep s l a b = (0, 0) from if_neg hv)
    clear hv
    go_enter Try.func16, Try.ntmps16
    go_wp2_with fail
    refine (validDoor_s _ _ _).mono ?_
    rintro e w' ⟨rfl, rfl⟩
    go_wp2_with fail
    refine bodyPost_ret (v := .agg #[.int .i64 0, .int .i64 0]) (by simp [results, Try.results16, go_sem]) rfl ⟨?_, (by repeat (first | exact Below.refl _ _ | refine Below.drew ?_ | refine below_drewN ?_ _ | refine Below.alloc ?_ (by first | (simp; done) | (simp; omega)) _ | refine Below.setCell ?_ (by first | (simp; done) | (simp; omega)) _ | refine Below.trans ?_ (Hb.out.mono (by first | (simp; done) | (simp; omega))) | refine Below.trans ?_ (Hb1.out.mono (by first | (simp; done) | (simp; omega))) | refine Below.trans ?_ (Hb2.out.mono (by first | (simp; done) | (simp; omega))) | refine Below.trans ?_ (Hb3.out.mono (by first | (simp; done) | (simp; omega)))))⟩
    rw [e1.out]


def followD (s : Int) : Int × Int := if s = 1 then (2, 3) else if s = 2 then (3, 3) else (0, 0)
set_option maxHeartbeats 400000 in
theorem following_any (s l : Int) (w : World) :
    Calls Try.prog 34 #[.agg #[.int .i64 s, .int .i64 l]] w (RetD (followD s) w) := by
  by_cases h1 : s = 1
  · subst h1
    rw [show followD 1 = (2, 3) by rfl]
    go_enter Try.func34, Try.ntmps34
    go_wp2_with fail
    exact bodyPost_ret (v := .agg #[.int .i64 2, .int .i64 3]) (by simp [results, Try.results34, go_sem]) rfl ⟨rfl, (by repeat (first | exact Below.refl _ _ | refine Below.drew ?_ | refine below_drewN ?_ _ | refine Below.alloc ?_ (by first | (simp; done) | (simp; omega)) _ | refine Below.setCell ?_ (by first | (simp; done) | (simp; omega)) _ | refine Below.trans ?_ (Hb.out.mono (by first | (simp; done) | (simp; omega))) | refine Below.trans ?_ (Hb1.out.mono (by first | (simp; done) | (simp; omega))) | refine Below.trans ?_ (Hb2.out.mono (by first | (simp; done) | (simp; omega))) | refine Below.trans ?_ (Hb3.out.mono (by first | (simp; done) | (simp; omega)))))⟩
  · by_cases h2 : s = 2
    · subst h2
      rw [show followD 2 = (3, 3) by rfl]
      go_enter Try.func34, Try.ntmps34
      go_wp2_with fail
      exact bodyPost_ret (v := .agg #[.int .i64 3, .int .i64 3]) (by simp [results, Try.results34, go_sem]) rfl ⟨rfl, (by repeat (first | exact Below.refl _ _ | refine Below.drew ?_ | refine below_drewN ?_ _ | refine Below.alloc ?_ (by first | (simp; done) | (simp; omega)) _ | refine Below.setCell ?_ (by first | (simp; done) | (simp; omega)) _ | refine Below.trans ?_ (Hb.out.mono (by first | (simp; done) | (simp; omega))) | refine Below.trans ?_ (Hb1.out.mono (by first | (simp; done) | (simp; omega))) | refine Below.trans ?_ (Hb2.out.mono (by first | (simp; done) | (simp; omega))) | refine Below.trans ?_ (Hb3.out.mono (by first | (simp; done) | (simp; omega)))))⟩
    · rw [show followD s = (0, 0) by simp [followD, h1, h2]]
      go_enter Try.func34, Try.ntmps34
      go_wp2_with fail
      exact bodyPost_ret (v := .agg #[.int .i64 0, .int .i64 0]) (by simp [results, Try.results34, go_sem]) rfl ⟨rfl, (by repeat (first | exact Below.refl _ _ | refine Below.drew ?_ | refine below_drewN ?_ _ | refine Below.alloc ?_ (by first | (simp; done) | (simp; omega)) _ | refine Below.setCell ?_ (by first | (simp; done) | (simp; omega)) _ | refine Below.trans ?_ (Hb.out.mono (by first | (simp; done) | (simp; omega))) | refine Below.trans ?_ (Hb1.out.mono (by first | (simp; done) | (simp; omega))) | refine Below.trans ?_ (Hb2.out.mono (by first | (simp; done) | (simp; omega))) | refine Below.trans ?_ (Hb3.out.mono (by first | (simp; done) | (simp; omega)))))⟩

set_option maxHeartbeats 2000000 in
theorem StepDoor_i (s l : Int) (a b : Bool) (w : World) :
    Calls Try.prog 17 #[.agg #[.int .i64 s, .int .i64 l], .bool a, .bool b] w (RetD (dStep s l a b) w) := by
  by_cases hv : vD s l = true
  · have hl := (vD_iff.1 hv).2
    rw [show dStep s l a b = stepD s l a b from if_pos hv]
    obtain ⟨l0, l1⟩ := hl
    go_enter Try.func17, Try.ntmps17
    go_wp2_with fail
    refine (ValidDoor_i _ _ _).mono ?_
    rintro e w' ⟨rfl, rfl⟩
    go_wp2_with fail
    all_goals first
      | (refine bodyPost_ret (v := .agg #[.int .i64 (stepD s l a b).1, .int .i64 (stepD s l a b).2]) ?_ rfl ⟨rfl, (by repeat (first | exact Below.refl _ _ | refine Below.drew ?_ | refine below_drewN ?_ _ | refine Below.alloc ?_ (by first | (simp; done) | (simp; omega)) _ | refine Below.setCell ?_ (by first | (simp; done) | (simp; omega)) _ | refine Below.trans ?_ (Hb.out.mono (by first | (simp; done) | (simp; omega))) | refine Below.trans ?_ (Hb1.out.mono (by first | (simp; done) | (simp; omega))) | refine Below.trans ?_ (Hb2.out.mono (by first | (simp; done) | (simp; omega))) | refine Below.trans ?_ (Hb3.out.mono (by first | (simp; done) | (simp; omega)))))⟩
         go_light
         simp_all [results, Try.results17, go_sem, stepD]; done)
      | skip
    all_goals
      have hq : stepD s l a b = followD s := by
        go_light
        have h0 : ¬ 0 < l := by omega
        unfold stepD followD
        rw [if_neg h0]
        clear h0
        simp_all
      have Hq := hide hq
      clear hq
      refine (following_any _ _ _).mono ?_
      rintro e w' ⟨rfl, hb⟩
      obtain ⟨hc, hf⟩ := bcell hb
      have Hb := hide hb
      clear hb
      go_wp2_with fail
      refine bodyPost_ret (v := .agg #[.int .i64 (stepD s l a b).1, .int .i64 (stepD s l a b).2]) ?_ rfl ⟨rfl, (by repeat (first | exact Below.refl _ _ | refine Below.drew ?_ | refine below_drewN ?_ _ | refine Below.alloc ?_ (by first | (simp; done) | (simp; omega)) _ | refine Below.setCell ?_ (by first | (simp; done) | (simp; omega)) _ | refine Below.trans ?_ (Hb.out.mono (by first | (simp; done) | (simp; omega))) | refine Below.trans ?_ (Hb1.out.mono (by first | (simp; done) | (simp; omega))) | refine Below.trans ?_ (Hb2.out.mono (by first | (simp; done) | (simp; omega))) | refine Below.trans ?_ (Hb3.out.mono (by first | (simp; done) | (simp; omega)))))⟩
      rw [Hq.out]
      clear Hq Hb
      go_light
      simp_all [results, Try.results17, go_sem]
  · have hv' : vD s l = false := by simpa using hv
    have e1 := hide (show dStep s l a b = (0, 0) from if_neg hv)
    clear hv
    go_enter Try.func17, Try.ntmps17
    go_wp2_with fail
    refine (ValidDoor_i _ _ _).mono ?_
    rintro e w' ⟨rfl, rfl⟩
    go_wp2_with fail
    refine bodyPost_ret (v := .agg #[.int .i64 0, .int .i64 0]) (by simp [results, Try.results17, go_sem]) rfl ⟨?_, (by repeat (first | exact Below.refl _ _ | refine Below.drew ?_ | refine below_drewN ?_ _ | refine Below.alloc ?_ (by first | (simp; done) | (simp; omega)) _ | refine Below.setCell ?_ (by first | (simp; done) | (simp; omega)) _ | refine Below.trans ?_ (Hb.out.mono (by first | (simp; done) | (simp; omega))) | refine Below.trans ?_ (Hb1.out.mono (by first | (simp; done) | (simp; omega))) | refine Below.trans ?_ (Hb2.out.mono (by first | (simp; done) | (simp; omega))) | refine Below.trans ?_ (Hb3.out.mono (by first | (simp; done) | (simp; omega)))))⟩
    rw [e1.out]

set_option maxHeartbeats 400000 in
theorem toDoor_any (s l : Int) (w : World) :
    Calls Try.prog 14 #[.agg #[.int .i64 s, .int .i64 l]] w (RetD (s, l) w) := by
  go_enter Try.func14, Try.ntmps14
  go_wp2_with fail
  exact bodyPost_ret (v := .agg #[.int .i64 s, .int .i64 l]) (by simp [results, Try.results14, go_sem]) rfl ⟨rfl, (by repeat (first | exact Below.refl _ _ | refine Below.drew ?_ | refine below_drewN ?_ _ | refine Below.alloc ?_ (by first | (simp; done) | (simp; omega)) _ | refine Below.setCell ?_ (by first | (simp; done) | (simp; omega)) _ | refine Below.trans ?_ (Hb.out.mono (by first | (simp; done) | (simp; omega))) | refine Below.trans ?_ (Hb1.out.mono (by first | (simp; done) | (simp; omega))) | refine Below.trans ?_ (Hb2.out.mono (by first | (simp; done) | (simp; omega))) | refine Below.trans ?_ (Hb3.out.mono (by first | (simp; done) | (simp; omega)))))⟩

set_option maxHeartbeats 400000 in
theorem eqDoor_same (s l : Int) (w : World) :
    Calls Try.prog 18 #[.agg #[.int .i64 s, .int .i64 l], .agg #[.int .i64 s, .int .i64 l]] w fun e w' => e = .returned (.bool true) ∧ Below w.heap.size w w' := by
  go_enter Try.func18, Try.ntmps18
  go_wp2_with fail
  go_ret
  exact ⟨rfl, (by repeat (first | exact Below.refl _ _ | refine Below.drew ?_ | refine below_drewN ?_ _ | refine Below.alloc ?_ (by first | (simp; done) | (simp; omega)) _ | refine Below.setCell ?_ (by first | (simp; done) | (simp; omega)) _ | refine Below.trans ?_ (Hb.out.mono (by first | (simp; done) | (simp; omega))) | refine Below.trans ?_ (Hb1.out.mono (by first | (simp; done) | (simp; omega))) | refine Below.trans ?_ (Hb2.out.mono (by first | (simp; done) | (simp; omega))) | refine Below.trans ?_ (Hb3.out.mono (by first | (simp; done) | (simp; omega)))))⟩

end Go.Proofs.Ytlcdcelelpapnaa
