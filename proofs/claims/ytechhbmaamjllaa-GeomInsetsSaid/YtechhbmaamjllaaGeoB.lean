/- The contracts of geom: what each call answers, in the words of GeoP; nothing that was there is changed. -/
import Derived.Test.YtechhbmaamjllaaGeoF
import Derived.WalkKit
import Derived.WalkSpells
import Derived.WalkLawsBesides
import Derived.Test.YtechhbmaamjllaaPGeomMeetsx2
import Derived.Test.YtechhbmaamjllaaPGeomMeetsx3
import Derived.Test.YtechhbmaamjllaaPGeomMeetsx4
namespace Go.Proofs.Ytechhbmaamjllaa.Geo
open Go.RowKit Go.Proofs.YtechhbmaamjllaaW.PrintMore Go.Proofs.YtechhbmaamjllaaW.PrintWords Go.Proofs.YtechhbmaamjllaaW.PrintLast
set_option linter.unusedVariables false
set_option linter.unusedSimpArgs false

attribute [local go_sem] max2_int min2_int max_two min_two max_three min_three max_four min_four
theorem bcell {W w1 : World} (hb : Below W.heap.size W w1) : (∀ b o, b < W.heap.size → w1.cell? ⟨b, o, none⟩ = W.cell? ⟨b, o, none⟩) ∧ (∀ b o, b < W.heap.size → w1.frozen? ⟨b, o, none⟩ = W.frozen? ⟨b, o, none⟩) :=
  ⟨fun b o h => hb.cell (p := ⟨b, o, none⟩) h, fun b o h => hb.frozen (p := ⟨b, o, none⟩) h⟩
theorem ret_bool {a b : Bool} (h : a = b) : Ending.returned (.bool a) = Ending.returned (.bool b) := by rw [h]
theorem ret_int {a b : Int} (h : a = b) : Ending.returned (.int .i64 a) = Ending.returned (.int .i64 b) := by rw [h]
/-- A law's own ending: true. -/
def Yes (w : World) (e : Ending) (w' : World) : Prop := e = .returned (.bool true) ∧ Below w.heap.size w w'
def RetB (b : Bool) (w : World) (e : Ending) (w' : World) : Prop := e = .returned (.bool b) ∧ Below w.heap.size w w'
def RetI (n : Int) (w : World) (e : Ending) (w' : World) : Prop := e = .returned (.int .i64 n) ∧ Below w.heap.size w w'
def RetR (a : Rc) (w : World) (e : Ending) (w' : World) : Prop := e = .returned (.agg #[.int .i64 a.x, .int .i64 a.y, .int .i64 a.w, .int .i64 a.h]) ∧ Below w.heap.size w w'

theorem cell_held {W w1 : World} {a : Addr} {v : Value} (hb : Below W.heap.size W w1) (h : W.cell? a = some v) : w1.cell? a = some v := (hb.cell (World.block_lt_of_cell? W _ h)).trans h
theorem free_held {W w1 : World} {a : Addr} (hb : Below W.heap.size W w1) (hlt : a.block < W.heap.size) (h : W.frozen? a = false) : w1.frozen? a = false := (hb.frozen hlt).trans h
theorem c_gSpan (v l m : Int) (w : World) : Calls Try.prog 16 #[.int .i64 v, .int .i64 l, .int .i64 m] w (RetI (spanP v l m) w) := Go.Proofs.Ytechhbmaamjllaa.PGeomMeets.geom_Span.calls v l m _ w (span_eq v l m)
theorem c_gRight (a : Rc) (w : World) : Calls Try.prog 21 #[.agg #[.int .i64 a.x, .int .i64 a.y, .int .i64 a.w, .int .i64 a.h]] w (RetB (rightB a) w) := Go.Proofs.Ytechhbmaamjllaa.PGeomMeets.geom_Right.calls a.x a.y a.w a.h _ w (right_eq a)
theorem c_gEmpty (a : Rc) (w : World) : Calls Try.prog 19 #[.agg #[.int .i64 a.x, .int .i64 a.y, .int .i64 a.w, .int .i64 a.h]] w (RetB (emptyB a) w) := Go.Proofs.Ytechhbmaamjllaa.PGeomMeets.geom_Empty.calls a.x a.y a.w a.h _ w (empty_eq a)
theorem c_gShift (a : Rc) (dx dy : Int) (w : World) : Calls Try.prog 9 #[.agg #[.int .i64 a.x, .int .i64 a.y, .int .i64 a.w, .int .i64 a.h], .int .i64 dx, .int .i64 dy] w (RetR (shiftP a dx dy) w) := Go.Proofs.Ytechhbmaamjllaa.PGeomMeets.geom_Shift.calls a.x a.y a.w a.h dx dy _ _ _ _ w (shift_eq a dx dy)
theorem c_gInset (a : Rc) (l t r b : Int) (w : World) : Calls Try.prog 11 #[.agg #[.int .i64 a.x, .int .i64 a.y, .int .i64 a.w, .int .i64 a.h], .agg #[.int .i64 l, .int .i64 t, .int .i64 r, .int .i64 b]] w (RetR (insetP a l t r b) w) := Go.Proofs.Ytechhbmaamjllaa.PGeomMeets.geom_Inset.calls a.x a.y a.w a.h l t r b _ _ _ _ w (inset_eq a l t r b)
theorem c_gKeep (a b : Rc) (w : World) : Calls Try.prog 13 #[.agg #[.int .i64 a.x, .int .i64 a.y, .int .i64 a.w, .int .i64 a.h], .agg #[.int .i64 b.x, .int .i64 b.y, .int .i64 b.w, .int .i64 b.h]] w (RetR (keepP a b) w) := Go.Proofs.Ytechhbmaamjllaa.PGeomMeets.geom_Keep.calls 1 a.x a.y a.w a.h b.x b.y b.w b.h _ _ _ _ w (keep_eq a b)
theorem c_gInter (a b : Rc) (w : World) : Calls Try.prog 30 #[.agg #[.int .i64 a.x, .int .i64 a.y, .int .i64 a.w, .int .i64 a.h], .agg #[.int .i64 b.x, .int .i64 b.y, .int .i64 b.w, .int .i64 b.h]] w (RetR (interP a b) w) := Go.Proofs.Ytechhbmaamjllaa.PGeomMeets.geom_Inter.calls 1 a.x a.y a.w a.h b.x b.y b.w b.h _ _ _ _ w (inter_eq a b)
theorem c_gBetween (x y u v : Int) (hx : I64 x) (hy : I64 y) (hu : I64 u) (hv : I64 v) (w : World) : Calls Try.prog 28 #[.agg #[.int .i64 x, .int .i64 y], .agg #[.int .i64 u, .int .i64 v]] w (RetR (betweenP x y u v) w) := Go.Proofs.Ytechhbmaamjllaa.PGeomMeets.geom_Between.calls x y u v _ _ _ _ w (between_eq x y u v hx hy hu hv)
set_option maxHeartbeats 400000 in
theorem c_gClamp (v : Int) (w : World) : Calls Try.prog 18 #[.int .i64 v] w (RetI (spanP v (-32768) 32767) w) := by
  unfold RetI
  go_enter Try.func18, Try.ntmps18
  go_wp2_with fail
  refine (c_gSpan v (-32768) 32767 _).mono ?_
  rintro e w1 ⟨rfl, hb⟩
  go_wp2_with fail
  go_ret
  exact ⟨rfl, hb⟩
set_option maxHeartbeats 400000 in
theorem c_gArea (a : Rc) (w : World) : Calls Try.prog 24 #[.agg #[.int .i64 a.x, .int .i64 a.y, .int .i64 a.w, .int .i64 a.h]] w (RetI (areaP a) w) := by
  unfold RetI
  by_cases h : emptyB a = true
  · rw [show areaP a = 0 by unfold areaP; rw [if_pos h]]
    go_enter Try.func24, Try.ntmps24
    go_wp2_with fail
    refine (c_gEmpty a _).mono ?_
    rintro e w1 ⟨rfl, hb⟩
    go_wp2_with fail
    go_ret
    exact ⟨rfl, below_step (below_alloc (Below.refl _ _) _) hb⟩
  · simp only [Bool.not_eq_true] at h
    have g := nonempty h
    have e0 : areaP a = wrap64 (a.w * a.h) := by
      unfold areaP; rw [if_neg (by rw [h]; decide), wrap64_i]
      · have := Int.mul_nonneg (show 0 ≤ a.w by omega) (show 0 ≤ a.h by omega); omega
      · have := Int.mul_le_mul (show a.w ≤ 65536 by omega) (show a.h ≤ 65536 by omega) (by omega) (by omega); omega
    rw [e0]
    clear e0 g
    go_enter Try.func24, Try.ntmps24
    go_wp2_with fail
    refine (c_gEmpty a _).mono ?_
    rintro e w1 ⟨rfl, hb⟩
    obtain ⟨hc, hf⟩ := bcell hb
    have HB := Aside0.mk (below_step (below_alloc (Below.refl _ _) _) hb)
    clear hb
    go_wp2_with fail
    go_ret
    exact ⟨rfl, HB.out⟩
set_option maxHeartbeats 1000000 in
theorem c_gHas (a : Rc) (px py : Int) (w : World) : Calls Try.prog 26 #[.agg #[.int .i64 a.x, .int .i64 a.y, .int .i64 a.w, .int .i64 a.h], .agg #[.int .i64 px, .int .i64 py]] w (RetB (hasB a px py) w) := by
  unfold RetB
  by_cases h : emptyB a = true
  · rw [show hasB a px py = false by unfold hasB; rw [h]; rfl]
    go_enter Try.func26, Try.ntmps26
    go_wp2_with fail
    refine (c_gEmpty a _).mono ?_
    rintro e w1 ⟨rfl, hb⟩
    go_wp2_with fail
    go_ret
    exact ⟨rfl, below_step (below_alloc (below_alloc (Below.refl _ _) _) _) hb⟩
  · simp only [Bool.not_eq_true] at h
    have g := nonempty h
    have e0 : hasB a px py = decide (a.x ≤ px ∧ px ≤ a.x + a.w - 1 ∧ a.y ≤ py ∧ py ≤ a.y + a.h - 1) := by unfold hasB; rw [h]; rfl
    rw [e0]
    clear e0
    obtain ⟨⟨g1, g2, g3, g4⟩, g5, g6, g7, g8⟩ := g
    rcases (show (¬ (a.x ≤ px)) ∨ ((a.x ≤ px) ∧ ¬ (px ≤ a.x + a.w - 1)) ∨ ((a.x ≤ px) ∧ (px ≤ a.x + a.w - 1) ∧ ¬ (a.y ≤ py)) ∨ ((a.x ≤ px) ∧ (px ≤ a.x + a.w - 1) ∧ (a.y ≤ py) ∧ ¬ (py ≤ a.y + a.h - 1)) ∨ ((a.x ≤ px) ∧ (px ≤ a.x + a.w - 1) ∧ (a.y ≤ py) ∧ (py ≤ a.y + a.h - 1)) from by omega) with c0 | ⟨c0, c1⟩ | ⟨c0, c1, c2⟩ | ⟨c0, c1, c2, c3⟩ | ⟨c0, c1, c2, c3⟩
    · rw [show decide (a.x ≤ px ∧ px ≤ a.x + a.w - 1 ∧ a.y ≤ py ∧ py ≤ a.y + a.h - 1) = false from decide_eq_false (by omega)]
      have d0 : decide (a.x ≤ px) = false := decide_eq_false c0
      clear c0
      go_enter Try.func26, Try.ntmps26
      go_wp2_with fail
      refine (c_gEmpty a _).mono ?_
      rintro e w1 ⟨rfl, hb⟩
      obtain ⟨hc, hf⟩ := bcell hb
      have HB := Aside0.mk (below_step (below_alloc (below_alloc (Below.refl _ _) _) _) hb)
      clear hb
      go_wp2_with fail
      go_ret
      exact ⟨rfl, HB.out⟩
    · rw [show decide (a.x ≤ px ∧ px ≤ a.x + a.w - 1 ∧ a.y ≤ py ∧ py ≤ a.y + a.h - 1) = false from decide_eq_false (by omega)]
      have d0 : decide (a.x ≤ px) = true := decide_eq_true c0
      have d1 : decide (px ≤ a.x + a.w - 1) = false := decide_eq_false c1
      clear c0 c1
      go_enter Try.func26, Try.ntmps26
      go_wp2_with fail
      refine (c_gEmpty a _).mono ?_
      rintro e w1 ⟨rfl, hb⟩
      obtain ⟨hc, hf⟩ := bcell hb
      have HB := Aside0.mk (below_step (below_alloc (below_alloc (Below.refl _ _) _) _) hb)
      clear hb
      go_wp2_with fail
      go_ret
      exact ⟨rfl, HB.out⟩
    · rw [show decide (a.x ≤ px ∧ px ≤ a.x + a.w - 1 ∧ a.y ≤ py ∧ py ≤ a.y + a.h - 1) = false from decide_eq_false (by omega)]
      have d0 : decide (a.x ≤ px) = true := decide_eq_true c0
      have d1 : decide (px ≤ a.x + a.w - 1) = true := decide_eq_true c1
      have d2 : decide (a.y ≤ py) = false := decide_eq_false c2
      clear c0 c1 c2
      go_enter Try.func26, Try.ntmps26
      go_wp2_with fail
      refine (c_gEmpty a _).mono ?_
      rintro e w1 ⟨rfl, hb⟩
      obtain ⟨hc, hf⟩ := bcell hb
      have HB := Aside0.mk (below_step (below_alloc (below_alloc (Below.refl _ _) _) _) hb)
      clear hb
      go_wp2_with fail
      go_ret
      exact ⟨rfl, HB.out⟩
    · rw [show decide (a.x ≤ px ∧ px ≤ a.x + a.w - 1 ∧ a.y ≤ py ∧ py ≤ a.y + a.h - 1) = false from decide_eq_false (by omega)]
      have d0 : decide (a.x ≤ px) = true := decide_eq_true c0
      have d1 : decide (px ≤ a.x + a.w - 1) = true := decide_eq_true c1
      have d2 : decide (a.y ≤ py) = true := decide_eq_true c2
      have d3 : decide (py ≤ a.y + a.h - 1) = false := decide_eq_false c3
      clear c0 c1 c2 c3
      go_enter Try.func26, Try.ntmps26
      go_wp2_with fail
      refine (c_gEmpty a _).mono ?_
      rintro e w1 ⟨rfl, hb⟩
      obtain ⟨hc, hf⟩ := bcell hb
      have HB := Aside0.mk (below_step (below_alloc (below_alloc (Below.refl _ _) _) _) hb)
      clear hb
      go_wp2_with fail
      go_ret
      exact ⟨rfl, HB.out⟩
    · rw [show decide (a.x ≤ px ∧ px ≤ a.x + a.w - 1 ∧ a.y ≤ py ∧ py ≤ a.y + a.h - 1) = true from decide_eq_true (by omega)]
      have d0 : decide (a.x ≤ px) = true := decide_eq_true c0
      have d1 : decide (px ≤ a.x + a.w - 1) = true := decide_eq_true c1
      have d2 : decide (a.y ≤ py) = true := decide_eq_true c2
      have d3 : decide (py ≤ a.y + a.h - 1) = true := decide_eq_true c3
      clear c0 c1 c2 c3
      go_enter Try.func26, Try.ntmps26
      go_wp2_with fail
      refine (c_gEmpty a _).mono ?_
      rintro e w1 ⟨rfl, hb⟩
      obtain ⟨hc, hf⟩ := bcell hb
      have HB := Aside0.mk (below_step (below_alloc (below_alloc (Below.refl _ _) _) _) hb)
      clear hb
      go_wp2_with fail
      go_ret
      exact ⟨rfl, HB.out⟩
end Go.Proofs.Ytechhbmaamjllaa.Geo
