/-
  The memory of a car that serves calls: its block, the two rows of times, the row of calls.
-/
import Derived.Test.YthgbbfcpnmpjgaaRideStep
import Derived.Test.YthgbbfcpnmpjgaaDs
namespace Go.Proofs.Ythgbbfcpnmpjgaa
open Go.RowKit
set_option linter.unusedSimpArgs false
set_option linter.unusedVariables false

theorem blk7 {w : World} {g : Nat} {t : TypeId} {a b c d e f h : Value} (hx : Blk w g t #[a, b, c, d, e, f, h]) :
    w.cell? ⟨g, 0, none⟩ = some a ∧ w.cell? ⟨g, 1, none⟩ = some b ∧ w.cell? ⟨g, 2, none⟩ = some c ∧ w.cell? ⟨g, 3, none⟩ = some d ∧ w.cell? ⟨g, 4, none⟩ = some e ∧ w.cell? ⟨g, 5, none⟩ = some f ∧ w.cell? ⟨g, 6, none⟩ = some h ∧
    w.frozen? ⟨g, 0, none⟩ = false ∧ w.frozen? ⟨g, 1, none⟩ = false ∧ w.frozen? ⟨g, 2, none⟩ = false ∧ w.frozen? ⟨g, 3, none⟩ = false ∧ w.frozen? ⟨g, 4, none⟩ = false ∧ w.frozen? ⟨g, 5, none⟩ = false ∧ w.frozen? ⟨g, 6, none⟩ = false :=
  ⟨hx.cell 0, hx.cell 1, hx.cell 2, hx.cell 3, hx.cell 4, hx.cell 5, hx.cell 6, hx.frozen 0, hx.frozen 1, hx.frozen 2, hx.frozen 3, hx.frozen 4, hx.frozen 5, hx.frozen 6⟩
theorem own_Blk {w : World} {base : Nat} {e : TypeId} {size n c g : Nat} {xs : List Value} (h : w.ownsRow base e size (.slice (some ⟨g, 0, none⟩) n c) n xs) : ∃ cs, Blk w g e cs := by
  rcases h.2 with ⟨h1, _⟩ | ⟨g', cap, cur, hv, _, hg, _⟩
  · cases h1
  · cases hv
    exact ⟨cur, hg⟩
theorem own_ne_own {w : World} {base base' : Nat} {e e' : TypeId} {size size' n n' c c' g : Nat} {A : Option Addr} {xs xs' : List Value} (h : w.ownsRow base e size (.slice A n c) n xs) (h' : w.ownsRow base' e' size' (.slice (some ⟨g, 0, none⟩) n' c') n' xs') (hne : e ≠ e') : (Value.slice A n c).ownBlock ≠ some g := by
  obtain ⟨cs, hx⟩ := own_Blk h'
  exact own_blk_ne h hx hne

/-- The car's memory. -/
structure RH (B : Nat) (w : World) (r g g' : Nat) (Ac : Option Addr) (n cc co cf : Nat) (ps : List Pn) (fl h ins lf : Int) : Prop where
  blk : Blk w r 52 #[.slice Ac n cc, .slice (some ⟨g, 0, none⟩) n co, .slice (some ⟨g', 0, none⟩) n cf, .int .i64 fl, .int .i64 h, .int .i64 ins, .int .i64 lf]
  on_ : w.ownsRow B 3 1 (.slice (some ⟨g, 0, none⟩) n co) n ((ps.map Pn.on).map (Value.int .i64))
  off_ : w.ownsRow B 3 1 (.slice (some ⟨g', 0, none⟩) n cf) n ((ps.map Pn.off).map (Value.int .i64))
  cal : w.ownsRow B 40 3 (.slice Ac n cc) n (cellsC (ps.map callOf))
  rB : B ≤ r
  ne : g ≠ g'
section
variable {B : Nat} {w w' : World} {r g g' : Nat} {Ac : Option Addr} {n cc co cf : Nat} {ps : List Pn} {fl h ins lf : Int}
theorem RH.len (H : RH B w r g g' Ac n cc co cf ps fl h ins lf) : ps.length = n := by
  have := H.on_.1
  simpa using this
theorem RH.gr (H : RH B w r g g' Ac n cc co cf ps fl h ins lf) : g ≠ r := by
  intro e
  exact own_blk_ne H.on_ H.blk (by decide) (by rw [e]; rfl)
theorem RH.gr' (H : RH B w r g g' Ac n cc co cf ps fl h ins lf) : g' ≠ r := by
  intro e
  exact own_blk_ne H.off_ H.blk (by decide) (by rw [e]; rfl)
theorem RH.gB (H : RH B w r g g' Ac n cc co cf ps fl h ins lf) : B ≤ g ∧ B ≤ g' := ⟨(H.on_.lt g rfl).1, (H.off_.lt g' rfl).1⟩
theorem RH.drewN (H : RH B w r g g' Ac n cc co cf ps fl h ins lf) (q : Nat) : RH B (w.drewN q) r g g' Ac n cc co cf ps fl h ins lf := ⟨H.blk, H.on_, H.off_, H.cal, H.rB, H.ne⟩
theorem RH.drew (H : RH B w r g g' Ac n cc co cf ps fl h ins lf) : RH B w.drew r g g' Ac n cc co cf ps fl h ins lf := H.drewN 1
theorem RH.below (H : RH B w r g g' Ac n cc co cf ps fl h ins lf) {C : Nat} (hb : Below C w w') (hC : w.heap.size ≤ C) : RH B w' r g g' Ac n cc co cf ps fl h ins lf :=
  ⟨H.blk.below hb (by have := H.blk.lt; omega), own_below H.on_ hb hC, own_below H.off_ hb hC, own_below H.cal hb hC, H.rB, H.ne⟩
theorem RH.alloc (H : RH B w r g g' Ac n cc co cf ps fl h ins lf) (o : Obj) : RH B (w.alloc o) r g g' Ac n cc co cf ps fl h ins lf :=
  H.below ((Below.refl w.heap.size _).alloc (Nat.le_refl _) o) (Nat.le_refl _)
/-- A new block (of any kind) that is the car's own box is written: the rest stands. -/
theorem RH.far (H : RH B w r g g' Ac n cc co cf ps fl h ins lf) {p : Addr} (h1 : p.block ≠ r) (h2 : p.block ≠ g) (h3 : p.block ≠ g') (h4 : (Value.slice Ac n cc).ownBlock ≠ some p.block) (u : Value) : RH B (w.setCell p u) r g g' Ac n cc co cf ps fl h ins lf :=
  ⟨H.blk.far (fun e => h1 e.symm) u, own_setOther H.on_ (by simp [Value.ownBlock]; exact fun e => h2 e.symm) u, own_setOther H.off_ (by simp [Value.ownBlock]; exact fun e => h3 e.symm) u, own_setOther H.cal h4 u, H.rB, H.ne⟩
theorem RH.fld (H : RH B w r g g' Ac n cc co cf ps fl h ins lf) (i : Nat) (u : Value) {fl2 h2 ins2 lf2 : Int} (hu : (#[.slice Ac n cc, .slice (some ⟨g, 0, none⟩) n co, .slice (some ⟨g', 0, none⟩) n cf, .int .i64 fl, .int .i64 h, .int .i64 ins, .int .i64 lf] : Array Value).setIfInBounds i u = #[.slice Ac n cc, .slice (some ⟨g, 0, none⟩) n co, .slice (some ⟨g', 0, none⟩) n cf, .int .i64 fl2, .int .i64 h2, .int .i64 ins2, .int .i64 lf2]) : RH B (w.setCell ⟨r, i, none⟩ u) r g g' Ac n cc co cf ps fl2 h2 ins2 lf2 := by
  have hb := H.blk.set_ i u
  rw [hu] at hb
  exact ⟨hb, own_setOther H.on_ (by simp [Value.ownBlock]; exact H.gr) u, own_setOther H.off_ (by simp [Value.ownBlock]; exact H.gr') u, own_setOther H.cal (own_blk_ne H.cal H.blk (by decide)) u, H.rB, H.ne⟩
theorem RH.floor (H : RH B w r g g' Ac n cc co cf ps fl h ins lf) (x : Int) : RH B (w.setCell ⟨r, 3, none⟩ (.int .i64 x)) r g g' Ac n cc co cf ps x h ins lf := H.fld 3 _ rfl
theorem RH.heading (H : RH B w r g g' Ac n cc co cf ps fl h ins lf) (x : Int) : RH B (w.setCell ⟨r, 4, none⟩ (.int .i64 x)) r g g' Ac n cc co cf ps fl x ins lf := H.fld 4 _ rfl
theorem RH.inside (H : RH B w r g g' Ac n cc co cf ps fl h ins lf) (x : Int) : RH B (w.setCell ⟨r, 5, none⟩ (.int .i64 x)) r g g' Ac n cc co cf ps fl h x lf := H.fld 5 _ rfl
theorem RH.left (H : RH B w r g g' Ac n cc co cf ps fl h ins lf) (x : Int) : RH B (w.setCell ⟨r, 6, none⟩ (.int .i64 x)) r g g' Ac n cc co cf ps fl h ins x := H.fld 6 _ rfl
/-- Person i has turned from p to q: the time of entering is stored. -/
theorem RH.setOn {l rr : List Pn} {p q : Pn} {i : Nat} (H : RH B w r g g' Ac n cc co cf (l ++ p :: rr) fl h ins lf) (hi : l.length = i) (h1 : p.off = q.off) (h2 : callOf p = callOf q) {z : Int} (hz : z = q.on) :
    RH B (w.setCell ⟨g, i, none⟩ (.int .i64 z)) r g g' Ac n cc co cf (l ++ q :: rr) fl h ins lf := by
  subst hz
  have s := (H.on_.stored i (.int .i64 q.on)).1
  rw [show (((l ++ p :: rr).map Pn.on).map (Value.int .i64)).set i (.int .i64 q.on) = ((l ++ q :: rr).map Pn.on).map (Value.int .i64) by rw [List.map_map, List.map_map]; exact set_here (Value.int .i64 ∘ Pn.on) l p q rr i hi] at s
  refine ⟨H.blk.far (fun e => H.gr e.symm) _, s, ?_, ?_, H.rB, H.ne⟩
  · rw [← set_same Pn.off l p q rr h1]
    exact own_setOther H.off_ (by simp [Value.ownBlock]; exact fun e => H.ne e.symm) _
  · rw [← set_same callOf l p q rr h2]
    exact own_setOther H.cal (own_ne_own H.cal H.on_ (by decide)) _
theorem RH.setOff {l rr : List Pn} {p q : Pn} {i : Nat} (H : RH B w r g g' Ac n cc co cf (l ++ p :: rr) fl h ins lf) (hi : l.length = i) (h1 : p.on = q.on) (h2 : callOf p = callOf q) {z : Int} (hz : z = q.off) :
    RH B (w.setCell ⟨g', i, none⟩ (.int .i64 z)) r g g' Ac n cc co cf (l ++ q :: rr) fl h ins lf := by
  subst hz
  have s := (H.off_.stored i (.int .i64 q.off)).1
  rw [show (((l ++ p :: rr).map Pn.off).map (Value.int .i64)).set i (.int .i64 q.off) = ((l ++ q :: rr).map Pn.off).map (Value.int .i64) by rw [List.map_map, List.map_map]; exact set_here (Value.int .i64 ∘ Pn.off) l p q rr i hi] at s
  refine ⟨H.blk.far (fun e => H.gr' e.symm) _, ?_, s, ?_, H.rB, H.ne⟩
  · rw [← set_same Pn.on l p q rr h1]
    exact own_setOther H.on_ (by simp [Value.ownBlock]; exact H.ne) _
  · rw [← set_same callOf l p q rr h2]
    exact own_setOther H.cal (own_ne_own H.cal H.off_ (by decide)) _
theorem at_app {α : Type} (l : List α) (p : α) (rr : List α) (i : Nat) (hi : l.length = i) : (l ++ p :: rr)[i]? = some p := by
  subst hi; simp
/-- What the walk reads of person i. -/
theorem RH.at_ {l rr : List Pn} {p : Pn} {i : Nat} (H : RH B w r g g' Ac n cc co cf (l ++ p :: rr) fl h ins lf) (hi : l.length = i) :
    w.cell? ⟨g, i, none⟩ = some (.int .i64 p.on) ∧ w.cell? ⟨g', i, none⟩ = some (.int .i64 p.off) ∧ w.frozen? ⟨g, i, none⟩ = false ∧ w.frozen? ⟨g', i, none⟩ = false ∧
    ∃ b, Ac = some ⟨b, 0, none⟩ ∧ w.cell? ⟨b, i * 3, none⟩ = some (.int .i64 p.f) ∧ w.cell? ⟨b, i * 3 + 1, none⟩ = some (.int .i64 p.t) ∧ w.cell? ⟨b, i * 3 + 2, none⟩ = some (.int .i64 p.c) := by
  have hn := H.len
  have hlt : i < n := by subst hi; simp at hn; omega
  have c1 := H.on_.cellAt i (by simpa using hlt)
  have c2 := H.off_.cellAt i (by simpa using hlt)
  rw [List.map_map, List.getElem?_map, at_app l p rr i hi] at c1 c2
  refine ⟨c1, c2, H.on_.frozenAt i, H.off_.frozenAt i, ?_⟩
  obtain ⟨b, off, f, t, c, hA, _, hz, d1, d2, d3⟩ := RdC.at_ (Rd.of_own H.cal) hlt
  have hoff : off = 0 := by
    rcases H.cal.2 with ⟨h1, h2⟩ | ⟨g2, cap, cur, hv, _⟩
    · omega
    · injection hv with hv
      rw [hA] at hv
      injection hv with hv
      injection hv
  subst hoff
  rw [List.getElem?_map, at_app l p rr i hi] at hz
  have hz := Option.some.inj hz
  injection hz with e1 e2
  injection e2 with e2 e3
  subst e1 e2 e3
  simp only [Nat.zero_add] at d1 d2 d3
  exact ⟨b, hA, d1, d2, d3⟩
end
end Go.Proofs.Ythgbbfcpnmpjgaa
