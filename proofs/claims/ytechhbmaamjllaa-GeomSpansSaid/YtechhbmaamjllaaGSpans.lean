/- GeomSpans: what the law's own function does, called with whatever numbers: it answers true, and nothing that was there is changed. -/
import Derived.Test.YtechhbmaamjllaaPGeomSpansx1
import Derived.Test.YtechhbmaamjllaaPGeomSpansx4
namespace Go.Proofs.Ytechhbmaamjllaa.PGeomSpans
open Go.RowKit Go.Proofs.YtechhbmaamjllaaW.PrintWords Go.Proofs.YtechhbmaamjllaaW.PrintLast Go.Proofs.YtechhbmaamjllaaW.PrintMore
attribute [local go_sem] max2_int min2_int max_two min_two max_three min_three max_four min_four   -- for this text's walks alone
set_option linter.unusedVariables false
set_option linter.unusedSimpArgs false
attribute [local go_sem high] eqA23

set_option maxHeartbeats 400000 in
theorem rect_any (a b c d : Int) (w : World) : Calls Try.prog 41 #[.int .i64 a, .int .i64 b, .int .i64 c, .int .i64 d] w fun e w' => e = .returned (.agg #[.int .i64 a, .int .i64 b, .int .i64 c, .int .i64 d]) ∧ Below w.heap.size w w' := by
  go_enter Try.func41, Try.ntmps41
  go_wp2
  exact bodyPost_ret (v := .agg #[.int .i64 a, .int .i64 b, .int .i64 c, .int .i64 d]) (by simp [results, Try.results41, go_sem]) rfl ⟨rfl, below_alloc (Below.refl _ _) _⟩

set_option maxHeartbeats 8000000 in
set_option maxRecDepth 100000 in
theorem awake_any (w : World) : Calls Try.prog 15 #[] w fun e w' => e = .returned (.bool true) ∧ Below w.heap.size w w' := by
  have HB := Aside0.mk (Below.refl w.heap.size w)
  go_enter Try.func15, Try.ntmps15
  go_wp2_with fail
  refine (rect_any 0 0 4 4 _).mono ?_
  rintro e w1 ⟨rfl, hb⟩
  replace HB := Aside0.mk (below_step HB.out hb)
  clear hb
  go_wp2_with fail
  refine (rect_any 2 2 4 4 _).mono ?_
  rintro e w1 ⟨rfl, hb⟩
  replace HB := Aside0.mk (below_step HB.out hb)
  clear hb
  go_wp2_with fail
  refine (geom_Inter.calls 3 0 0 4 4 2 2 4 4 2 2 2 2 _ (by kernel_rfl)).mono ?_
  rintro e w1 ⟨rfl, hb⟩
  replace HB := Aside0.mk (below_step HB.out hb)
  clear hb
  go_wp2_with fail
  refine (rect_any 2 2 2 2 _).mono ?_
  rintro e w1 ⟨rfl, hb⟩
  replace HB := Aside0.mk (below_step HB.out hb)
  clear hb
  go_wp2_with fail
  refine (rect_any 0 0 4 4 _).mono ?_
  rintro e w1 ⟨rfl, hb⟩
  replace HB := Aside0.mk (below_step HB.out hb)
  clear hb
  go_wp2_with fail
  refine (geom_Shift.calls 0 0 4 4 40000 (-1) 32764 (-1) 4 4 _ (by kernel_rfl)).mono ?_
  rintro e w1 ⟨rfl, hb⟩
  replace HB := Aside0.mk (below_step HB.out hb)
  clear hb
  go_wp2_with fail
  refine (rect_any 32764 (-1) 4 4 _).mono ?_
  rintro e w1 ⟨rfl, hb⟩
  replace HB := Aside0.mk (below_step HB.out hb)
  clear hb
  go_wp2_with fail
  refine (rect_any 0 0 4 4 _).mono ?_
  rintro e w1 ⟨rfl, hb⟩
  replace HB := Aside0.mk (below_step HB.out hb)
  clear hb
  go_wp2_with fail
  refine (geom_Inset.calls 0 0 4 4 1 0 9 0 1 0 0 4 _ (by kernel_rfl)).mono ?_
  rintro e w1 ⟨rfl, hb⟩
  replace HB := Aside0.mk (below_step HB.out hb)
  clear hb
  go_wp2_with fail
  refine (rect_any 1 0 0 4 _).mono ?_
  rintro e w1 ⟨rfl, hb⟩
  replace HB := Aside0.mk (below_step HB.out hb)
  clear hb
  go_wp2_with fail
  refine (rect_any 9 9 4 4 _).mono ?_
  rintro e w1 ⟨rfl, hb⟩
  replace HB := Aside0.mk (below_step HB.out hb)
  clear hb
  go_wp2_with fail
  refine (rect_any 0 0 10 10 _).mono ?_
  rintro e w1 ⟨rfl, hb⟩
  replace HB := Aside0.mk (below_step HB.out hb)
  clear hb
  go_wp2_with fail
  refine (geom_Keep.calls 3 9 9 4 4 0 0 10 10 6 6 4 4 _ (by kernel_rfl)).mono ?_
  rintro e w1 ⟨rfl, hb⟩
  replace HB := Aside0.mk (below_step HB.out hb)
  clear hb
  go_wp2_with fail
  refine (rect_any 6 6 4 4 _).mono ?_
  rintro e w1 ⟨rfl, hb⟩
  replace HB := Aside0.mk (below_step HB.out hb)
  clear hb
  go_wp2_with fail
  go_ret
  exact ⟨rfl, HB.out⟩

def refSpanP (v l m : Int) : Int := mx l (mn v m)
theorem geomSpan_eq (v l m : Int) : geom_Span.f v l m = some (refSpanP v l m) := rfl
set_option maxHeartbeats 400000 in
theorem refSpan_any (v l m : Int) (w : World) : Calls Try.prog 17 #[.int .i64 v, .int .i64 l, .int .i64 m] w fun e w' => e = .returned (.int .i64 (refSpanP v l m)) ∧ Below w.heap.size w w' := by
  unfold refSpanP mx mn
  by_cases h1 : m < v <;> by_cases h2 : v < l <;> by_cases h3 : m < l
  all_goals
    go_enter Try.func17, Try.ntmps17
    go_wp2
    all_goals first | done | (go_ret; exact ⟨by simp [h1, h2, h3] <;> omega, Below.refl _ _⟩)
set_option maxHeartbeats 400000 in
theorem clamp_any (v : Int) (w : World) : Calls Try.prog 18 #[.int .i64 v] w fun e w' => e = .returned (.int .i64 (refSpanP v (-32768) 32767)) ∧ Below w.heap.size w w' := by
  go_enter Try.func18, Try.ntmps18
  go_wp2_with fail
  refine (geom_Span.calls v (-32768) 32767 _ _ (geomSpan_eq _ _ _)).mono ?_
  rintro e w1 ⟨rfl, hb⟩
  go_wp2_with fail
  go_ret
  exact ⟨rfl, hb⟩
set_option maxHeartbeats 400000 in
theorem law_any (a0 : Int) (a1 : Int) (a2 : Int) (W : World) (w0 : (Lit.int .i64 a0).wf = true) (w1 : (Lit.int .i64 a1).wf = true) (w2 : (Lit.int .i64 a2).wf = true) :
    Calls Try.prog 4 #[.int .i64 a0, .int .i64 a1, .int .i64 a2] W fun e w' => e = .returned (.bool true) ∧ Below W.heap.size W w' := by
  have HB := Aside0.mk (Below.refl W.heap.size W)
  clear w0 w1 w2
  go_enter Try.func4, Try.ntmps4
  go_wp2_with fail
  refine (geom_Span.calls a0 a1 a2 _ _ (geomSpan_eq _ _ _)).mono ?_
  rintro e w1 ⟨rfl, hb⟩
  replace HB := Aside0.mk (below_step HB.out hb)
  clear hb
  go_wp2_with fail
  refine (refSpan_any a0 a1 a2 _).mono ?_
  rintro e w1 ⟨rfl, hb⟩
  replace HB := Aside0.mk (below_step HB.out hb)
  clear hb
  go_wp2_with fail
  refine (clamp_any a0 _).mono ?_
  rintro e w1 ⟨rfl, hb⟩
  replace HB := Aside0.mk (below_step HB.out hb)
  clear hb
  go_wp2_with fail
  refine (refSpan_any a0 (-32768) 32767 _).mono ?_
  rintro e w1 ⟨rfl, hb⟩
  replace HB := Aside0.mk (below_step HB.out hb)
  clear hb
  go_wp2_with fail
  refine (awake_any _).mono ?_
  rintro e w1 ⟨rfl, hb⟩
  replace HB := Aside0.mk (below_step HB.out hb)
  clear hb
  go_wp2_with fail
  go_ret
  exact ⟨rfl, HB.out⟩
end Go.Proofs.Ytechhbmaamjllaa.PGeomSpans
