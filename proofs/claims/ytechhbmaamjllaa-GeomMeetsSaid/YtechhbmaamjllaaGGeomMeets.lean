/- GeomMeets: what two rectangles have in common, what is around them, which is inside, and which two places make: the program's answers are the reference's. -/
import Derived.Test.YtechhbmaamjllaaGeoA
import Derived.Test.YtechhbmaamjllaaGeoRI
import Derived.Test.YtechhbmaamjllaaGeoH
import Derived.Test.YtechhbmaamjllaaGeoIn
import Derived.Test.YtechhbmaamjllaaGeoRH
import Derived.Deep.RegionHeld3
import Derived.Test.YtechhbmaamjllaaPGeomMeetsx1
namespace Go.Proofs.Ytechhbmaamjllaa.Geo
open Go.RowKit Go.Proofs.YtechhbmaamjllaaW.PrintMore Go.Proofs.YtechhbmaamjllaaW.PrintWords Go.Proofs.YtechhbmaamjllaaW.PrintLast
set_option linter.unusedVariables false
set_option linter.unusedSimpArgs false
attribute [local go_sem high] Go.Proofs.Ytechhbmaamjllaa.PGeomMeets.eqA23


set_option maxHeartbeats 8000000 in
set_option maxRecDepth 100000 in
theorem GeomMeets_any (a b : Rc) (px py qx qy : Int) (W : World) (h1 : Aside0 (I64 px)) (h2 : Aside0 (I64 py)) (h3 : Aside0 (I64 qx)) (h4 : Aside0 (I64 qy)) : Calls Try.prog 8 #[.agg #[.int .i64 a.x, .int .i64 a.y, .int .i64 a.w, .int .i64 a.h], .agg #[.int .i64 b.x, .int .i64 b.y, .int .i64 b.w, .int .i64 b.h], .agg #[.int .i64 px, .int .i64 py], .agg #[.int .i64 qx, .int .i64 qy]] W (Yes W) := by
  have HB := Aside0.mk (below_alloc (below_alloc (below_alloc (below_alloc (Below.refl W.heap.size W) (.cells #[.int .i64 a.x, .int .i64 a.y, .int .i64 a.w, .int .i64 a.h] 23)) (.cells #[.int .i64 b.x, .int .i64 b.y, .int .i64 b.w, .int .i64 b.h] 23)) (.cells #[.int .i64 px, .int .i64 py] 41)) (.cells #[.int .i64 qx, .int .i64 qy] 41))
  go_enter Try.func8, Try.ntmps8
  go_wp2_with fail
  go_region_held3 (fun w' => w'.cell? ⟨W.heap.size, 0, none⟩ = some (.int .i64 a.x) ∧ w'.cell? ⟨W.heap.size, 1, none⟩ = some (.int .i64 a.y) ∧ w'.cell? ⟨W.heap.size, 2, none⟩ = some (.int .i64 a.w) ∧ w'.cell? ⟨W.heap.size, 3, none⟩ = some (.int .i64 a.h) ∧ w'.cell? ⟨W.heap.size + 1, 0, none⟩ = some (.int .i64 b.x) ∧ w'.cell? ⟨W.heap.size + 1, 1, none⟩ = some (.int .i64 b.y) ∧ w'.cell? ⟨W.heap.size + 1, 2, none⟩ = some (.int .i64 b.w) ∧ w'.cell? ⟨W.heap.size + 1, 3, none⟩ = some (.int .i64 b.h) ∧ w'.cell? ⟨W.heap.size + 2, 0, none⟩ = some (.int .i64 px) ∧ w'.cell? ⟨W.heap.size + 2, 1, none⟩ = some (.int .i64 py) ∧ w'.cell? ⟨W.heap.size + 3, 0, none⟩ = some (.int .i64 qx) ∧ w'.cell? ⟨W.heap.size + 3, 1, none⟩ = some (.int .i64 qy) ∧ Below W.heap.size W w')
    (first
      | (go_split_ands; exact ⟨cell_held ‹_› ‹_›, cell_held ‹_› ‹_›, cell_held ‹_› ‹_›, cell_held ‹_› ‹_›, cell_held ‹_› ‹_›, cell_held ‹_› ‹_›, cell_held ‹_› ‹_›, cell_held ‹_› ‹_›, cell_held ‹_› ‹_›, cell_held ‹_› ‹_›, cell_held ‹_› ‹_›, cell_held ‹_› ‹_›, below_step ‹_› ‹_›⟩)
      | ((refine ⟨?_, ?_, ?_, ?_, ?_, ?_, ?_, ?_, ?_, ?_, ?_, ?_, ?_⟩) <;> first | exact below_drew HB.out | (go_simp; done))
      | go_keep)
    (first
      | (go_at_call 28; refine (c_gBetween px py qx qy h1.out h2.out h3.out h4.out _).mono ?_; rintro e w1 ⟨rfl, hb⟩)
      | (go_at_call 29; refine (c_rFrom px py qx qy _).mono ?_; rintro e w1 ⟨rfl, hb⟩)
      | (go_at_call 30; refine (c_gInter a b _).mono ?_; rintro e w1 ⟨rfl, hb⟩)
      | (go_at_call 31; refine (c_rInter a b _).mono ?_; rintro e w1 ⟨rfl, hb⟩)
      | (go_at_call 32; refine (c_gHull a b _).mono ?_; rintro e w1 ⟨rfl, hb⟩)
      | (go_at_call 33; refine (c_rHull a b _).mono ?_; rintro e w1 ⟨rfl, hb⟩)
      | (go_at_call 20; refine (c_gInside a b _).mono ?_; rintro e w1 ⟨rfl, hb⟩)
      | (go_at_call 34; refine (c_rInside a b _).mono ?_; rintro e w1 ⟨rfl, hb⟩)
      | (go_at_call 15; refine (awake_any _).mono ?_; rintro e w1 ⟨rfl, hb⟩))
  go_split_ands
  go_wp2
  go_ret
  exact ⟨rfl, by assumption⟩
theorem GeomMeets_law (a0_0 : Int) (a0_1 : Int) (a0_2 : Int) (a0_3 : Int) (a1_0 : Int) (a1_1 : Int) (a1_2 : Int) (a1_3 : Int) (a2_0 : Int) (a2_1 : Int) (a3_0 : Int) (a3_1 : Int) (W : World) (w0_0 : (Lit.int .i64 a0_0).wf = true) (w0_1 : (Lit.int .i64 a0_1).wf = true) (w0_2 : (Lit.int .i64 a0_2).wf = true) (w0_3 : (Lit.int .i64 a0_3).wf = true) (w1_0 : (Lit.int .i64 a1_0).wf = true) (w1_1 : (Lit.int .i64 a1_1).wf = true) (w1_2 : (Lit.int .i64 a1_2).wf = true) (w1_3 : (Lit.int .i64 a1_3).wf = true) (w2_0 : (Lit.int .i64 a2_0).wf = true) (w2_1 : (Lit.int .i64 a2_1).wf = true) (w3_0 : (Lit.int .i64 a3_0).wf = true) (w3_1 : (Lit.int .i64 a3_1).wf = true) :
    Calls Try.prog 8 #[.agg #[.int .i64 a0_0, .int .i64 a0_1, .int .i64 a0_2, .int .i64 a0_3], .agg #[.int .i64 a1_0, .int .i64 a1_1, .int .i64 a1_2, .int .i64 a1_3], .agg #[.int .i64 a2_0, .int .i64 a2_1], .agg #[.int .i64 a3_0, .int .i64 a3_1]] W fun e w' => e = .returned (.bool true) ∧ Below W.heap.size W w' := GeomMeets_any ⟨a0_0, a0_1, a0_2, a0_3⟩ ⟨a1_0, a1_1, a1_2, a1_3⟩ a2_0 a2_1 a3_0 a3_1 W ⟨I64.of w2_0⟩ ⟨I64.of w2_1⟩ ⟨I64.of w3_0⟩ ⟨I64.of w3_1⟩
end Go.Proofs.Ytechhbmaamjllaa.Geo
