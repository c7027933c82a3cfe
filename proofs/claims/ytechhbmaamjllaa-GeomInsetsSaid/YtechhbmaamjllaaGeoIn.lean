/- The contract of geom.Inside. -/
import Derived.Test.YtechhbmaamjllaaGeoB
import Derived.Test.YtechhbmaamjllaaGeoS
import Derived.Deep.RegionHeld3
import Derived.Test.YtechhbmaamjllaaPGeomMeetsx1
namespace Go.Proofs.Ytechhbmaamjllaa.Geo
open Go.RowKit Go.Proofs.YtechhbmaamjllaaW.PrintMore Go.Proofs.YtechhbmaamjllaaW.PrintWords Go.Proofs.YtechhbmaamjllaaW.PrintLast
set_option linter.unusedVariables false
set_option linter.unusedSimpArgs false
attribute [local go_sem high] Go.Proofs.Ytechhbmaamjllaa.PGeomMeets.eqA23

theorem inside_val (a b : Rc) (h : emptyB a = false) : insideB a b = ((interP a b).x == a.x && ((interP a b).y == a.y && ((interP a b).w == a.w && ((interP a b).h == a.h)))) := by
  unfold insideB
  rw [h, Bool.false_or]
  have k := inter_self_iff a b h
  rw [Bool.eq_iff_iff]
  simp only [Bool.and_eq_true, beq_iff_eq, decide_eq_true_eq]
  constructor
  · intro q
    have := k.2 q
    rw [this]; exact ⟨rfl, rfl, rfl, rfl⟩
  · rintro ⟨q1, q2, q3, q4⟩
    exact k.1 (Rc.ext' q1 q2 q3 q4)

set_option maxHeartbeats 8000000 in
set_option maxRecDepth 100000 in
theorem c_gInside (a b : Rc) (W : World) : Calls Try.prog 20 #[.agg #[.int .i64 a.x, .int .i64 a.y, .int .i64 a.w, .int .i64 a.h], .agg #[.int .i64 b.x, .int .i64 b.y, .int .i64 b.w, .int .i64 b.h]] W (RetB (insideB a b) W) := by
  have HB := Aside0.mk (below_alloc (below_alloc (Below.refl W.heap.size W) (.cells #[.int .i64 a.x, .int .i64 a.y, .int .i64 a.w, .int .i64 a.h] 23)) (.cells #[.int .i64 b.x, .int .i64 b.y, .int .i64 b.w, .int .i64 b.h] 23))
  by_cases h : emptyB a = true
  · rw [show insideB a b = true by unfold insideB; rw [h]; rfl]
    go_enter Try.func20, Try.ntmps20
    go_wp2_with fail
    go_region_with (go_at_call 19; refine (c_gEmpty a _).mono ?_; rintro e w1 ⟨rfl, hb⟩)
    all_goals
      go_wp2
      go_ret
      exact ⟨rfl, below_step (below_drew HB.out) (by assumption)⟩
  · simp only [Bool.not_eq_true] at h
    rw [inside_val a b h]
    go_enter Try.func20, Try.ntmps20
    go_wp2_with fail
    go_region_held3 (fun w' => w'.cell? ⟨W.heap.size, 0, none⟩ = some (.int .i64 a.x) ∧ w'.cell? ⟨W.heap.size, 1, none⟩ = some (.int .i64 a.y) ∧ w'.cell? ⟨W.heap.size, 2, none⟩ = some (.int .i64 a.w) ∧ w'.cell? ⟨W.heap.size, 3, none⟩ = some (.int .i64 a.h) ∧ w'.cell? ⟨W.heap.size + 1, 0, none⟩ = some (.int .i64 b.x) ∧ w'.cell? ⟨W.heap.size + 1, 1, none⟩ = some (.int .i64 b.y) ∧ w'.cell? ⟨W.heap.size + 1, 2, none⟩ = some (.int .i64 b.w) ∧ w'.cell? ⟨W.heap.size + 1, 3, none⟩ = some (.int .i64 b.h) ∧ Below W.heap.size W w')
      (first
        | (go_split_ands; exact ⟨cell_held ‹_› ‹_›, cell_held ‹_› ‹_›, cell_held ‹_› ‹_›, cell_held ‹_› ‹_›, cell_held ‹_› ‹_›, cell_held ‹_› ‹_›, cell_held ‹_› ‹_›, cell_held ‹_› ‹_›, below_step ‹_› ‹_›⟩)
        | ((refine ⟨?_, ?_, ?_, ?_, ?_, ?_, ?_, ?_, ?_⟩) <;> first | exact below_drew HB.out | (go_simp; done)))
      (first
        | (go_at_call 19; refine (c_gEmpty a _).mono ?_; rintro e w1 ⟨rfl, hb⟩)
        | (go_at_call 30; refine (c_gInter a b _).mono ?_; rintro e w1 ⟨rfl, hb⟩))
    go_split_ands
    go_wp2
    go_ret
    exact ⟨rfl, by assumption⟩
end Go.Proofs.Ytechhbmaamjllaa.Geo
