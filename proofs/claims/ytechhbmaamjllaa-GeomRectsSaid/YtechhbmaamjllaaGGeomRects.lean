/- GeomRects: which rectangles are right, which are empty, how many places each has, and which: the program's answers are the reference's. -/
import Derived.Test.YtechhbmaamjllaaGeoA
import Derived.Test.YtechhbmaamjllaaGeoRI
import Derived.Deep.RegionHeld3
import Derived.Test.YtechhbmaamjllaaPGeomMeetsx1
namespace Go.Proofs.Ytechhbmaamjllaa.Geo
open Go.RowKit Go.Proofs.YtechhbmaamjllaaW.PrintMore Go.Proofs.YtechhbmaamjllaaW.PrintWords Go.Proofs.YtechhbmaamjllaaW.PrintLast
set_option linter.unusedVariables false
set_option linter.unusedSimpArgs false
attribute [local go_sem high] Go.Proofs.Ytechhbmaamjllaa.PGeomMeets.eqA23


set_option maxHeartbeats 8000000 in
set_option maxRecDepth 100000 in
theorem GeomRects_any (a : Rc) (px py : Int) (W : World)  : Calls Try.prog 7 #[.agg #[.int .i64 a.x, .int .i64 a.y, .int .i64 a.w, .int .i64 a.h], .agg #[.int .i64 px, .int .i64 py]] W (Yes W) := by
  have HB := Aside0.mk (below_alloc (below_alloc (Below.refl W.heap.size W) (.cells #[.int .i64 a.x, .int .i64 a.y, .int .i64 a.w, .int .i64 a.h] 23)) (.cells #[.int .i64 px, .int .i64 py] 41))
  go_enter Try.func7, Try.ntmps7
  go_wp2_with fail
  go_region_held3 (fun w' => w'.cell? ⟨W.heap.size, 0, none⟩ = some (.int .i64 a.x) ∧ w'.cell? ⟨W.heap.size, 1, none⟩ = some (.int .i64 a.y) ∧ w'.cell? ⟨W.heap.size, 2, none⟩ = some (.int .i64 a.w) ∧ w'.cell? ⟨W.heap.size, 3, none⟩ = some (.int .i64 a.h) ∧ w'.cell? ⟨W.heap.size + 1, 0, none⟩ = some (.int .i64 px) ∧ w'.cell? ⟨W.heap.size + 1, 1, none⟩ = some (.int .i64 py) ∧ Below W.heap.size W w')
    (first
      | (go_split_ands; exact ⟨cell_held ‹_› ‹_›, cell_held ‹_› ‹_›, cell_held ‹_› ‹_›, cell_held ‹_› ‹_›, cell_held ‹_› ‹_›, cell_held ‹_› ‹_›, below_step ‹_› ‹_›⟩)
      | ((refine ⟨?_, ?_, ?_, ?_, ?_, ?_, ?_⟩) <;> first | exact below_drew HB.out | (go_simp; done))
      | go_keep)
    (first
      | (go_at_call 21; refine (c_gRight a _).mono ?_; rintro e w1 ⟨rfl, hb⟩)
      | (go_at_call 22; refine (c_rRight a _).mono ?_; rintro e w1 ⟨rfl, hb⟩)
      | (go_at_call 19; refine (c_gEmpty a _).mono ?_; rintro e w1 ⟨rfl, hb⟩)
      | (go_at_call 23; refine (c_rEmpty a _).mono ?_; rintro e w1 ⟨rfl, hb⟩)
      | (go_at_call 24; refine (c_gArea a _).mono ?_; rintro e w1 ⟨rfl, hb⟩)
      | (go_at_call 25; refine (c_rArea a _).mono ?_; rintro e w1 ⟨rfl, hb⟩)
      | (go_at_call 26; refine (c_gHas a px py _).mono ?_; rintro e w1 ⟨rfl, hb⟩)
      | (go_at_call 27; refine (c_rHas a px py _).mono ?_; rintro e w1 ⟨rfl, hb⟩)
      | (go_at_call 15; refine (awake_any _).mono ?_; rintro e w1 ⟨rfl, hb⟩))
  go_split_ands
  go_wp2
  go_ret
  exact ⟨rfl, by assumption⟩
theorem GeomRects_law (a0_0 : Int) (a0_1 : Int) (a0_2 : Int) (a0_3 : Int) (a1_0 : Int) (a1_1 : Int) (W : World) (w0_0 : (Lit.int .i64 a0_0).wf = true) (w0_1 : (Lit.int .i64 a0_1).wf = true) (w0_2 : (Lit.int .i64 a0_2).wf = true) (w0_3 : (Lit.int .i64 a0_3).wf = true) (w1_0 : (Lit.int .i64 a1_0).wf = true) (w1_1 : (Lit.int .i64 a1_1).wf = true) :
    Calls Try.prog 7 #[.agg #[.int .i64 a0_0, .int .i64 a0_1, .int .i64 a0_2, .int .i64 a0_3], .agg #[.int .i64 a1_0, .int .i64 a1_1]] W fun e w' => e = .returned (.bool true) ∧ Below W.heap.size W w' := GeomRects_any ⟨a0_0, a0_1, a0_2, a0_3⟩ a1_0 a1_1 W
end Go.Proofs.Ytechhbmaamjllaa.Geo
