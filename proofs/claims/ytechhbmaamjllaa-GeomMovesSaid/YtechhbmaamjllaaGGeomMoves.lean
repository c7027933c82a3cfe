/- GeomMoves: every rectangle moved, less edges, and kept in another one: the program's answers are the reference's. -/
import Derived.Test.YtechhbmaamjllaaGeoA
import Derived.Test.YtechhbmaamjllaaGeoRK
import Derived.Test.YtechhbmaamjllaaGeoRS
import Derived.Deep.RegionHeld3
import Derived.Test.YtechhbmaamjllaaPGeomMeetsx1
namespace Go.Proofs.Ytechhbmaamjllaa.Geo
open Go.RowKit Go.Proofs.YtechhbmaamjllaaW.PrintMore Go.Proofs.YtechhbmaamjllaaW.PrintWords Go.Proofs.YtechhbmaamjllaaW.PrintLast
set_option linter.unusedVariables false
set_option linter.unusedSimpArgs false
attribute [local go_sem high] Go.Proofs.Ytechhbmaamjllaa.PGeomMeets.eqA23


set_option maxHeartbeats 8000000 in
set_option maxRecDepth 100000 in
theorem GeomMoves_any (r i : Rc) (l t rr b dx dy : Int) (W : World) (hx : Aside0 (I64 dx)) (hy : Aside0 (I64 dy)) : Calls Try.prog 3 #[.agg #[.int .i64 r.x, .int .i64 r.y, .int .i64 r.w, .int .i64 r.h], .agg #[.int .i64 i.x, .int .i64 i.y, .int .i64 i.w, .int .i64 i.h], .agg #[.int .i64 l, .int .i64 t, .int .i64 rr, .int .i64 b], .int .i64 dx, .int .i64 dy] W (Yes W) := by
  have HB := Aside0.mk (below_alloc (below_alloc (below_alloc (Below.refl W.heap.size W) (.cells #[.int .i64 r.x, .int .i64 r.y, .int .i64 r.w, .int .i64 r.h] 23)) (.cells #[.int .i64 i.x, .int .i64 i.y, .int .i64 i.w, .int .i64 i.h] 23)) (.cells #[.int .i64 l, .int .i64 t, .int .i64 rr, .int .i64 b] 25))
  go_enter Try.func3, Try.ntmps3
  go_wp2_with fail
  go_region_held3 (fun w' => w'.cell? ⟨W.heap.size, 0, none⟩ = some (.int .i64 r.x) ∧ w'.cell? ⟨W.heap.size, 1, none⟩ = some (.int .i64 r.y) ∧ w'.cell? ⟨W.heap.size, 2, none⟩ = some (.int .i64 r.w) ∧ w'.cell? ⟨W.heap.size, 3, none⟩ = some (.int .i64 r.h) ∧ w'.cell? ⟨W.heap.size + 1, 0, none⟩ = some (.int .i64 i.x) ∧ w'.cell? ⟨W.heap.size + 1, 1, none⟩ = some (.int .i64 i.y) ∧ w'.cell? ⟨W.heap.size + 1, 2, none⟩ = some (.int .i64 i.w) ∧ w'.cell? ⟨W.heap.size + 1, 3, none⟩ = some (.int .i64 i.h) ∧ w'.cell? ⟨W.heap.size + 2, 0, none⟩ = some (.int .i64 l) ∧ w'.cell? ⟨W.heap.size + 2, 1, none⟩ = some (.int .i64 t) ∧ w'.cell? ⟨W.heap.size + 2, 2, none⟩ = some (.int .i64 rr) ∧ w'.cell? ⟨W.heap.size + 2, 3, none⟩ = some (.int .i64 b) ∧ Below W.heap.size W w')
    (first
      | (go_split_ands; exact ⟨cell_held ‹_› ‹_›, cell_held ‹_› ‹_›, cell_held ‹_› ‹_›, cell_held ‹_› ‹_›, cell_held ‹_› ‹_›, cell_held ‹_› ‹_›, cell_held ‹_› ‹_›, cell_held ‹_› ‹_›, cell_held ‹_› ‹_›, cell_held ‹_› ‹_›, cell_held ‹_› ‹_›, cell_held ‹_› ‹_›, below_step ‹_› ‹_›⟩)
      | ((refine ⟨?_, ?_, ?_, ?_, ?_, ?_, ?_, ?_, ?_, ?_, ?_, ?_, ?_⟩) <;> first | exact below_drew HB.out | (go_simp; done))
      | go_keep)
    (first
      | (go_at_call 9; refine (c_gShift r dx dy _).mono ?_; rintro e w1 ⟨rfl, hb⟩)
      | (go_at_call 10; refine (c_rShift r dx dy hx.out hy.out _).mono ?_; rintro e w1 ⟨rfl, hb⟩)
      | (go_at_call 11; refine (c_gInset r l t rr b _).mono ?_; rintro e w1 ⟨rfl, hb⟩)
      | (go_at_call 12; refine (c_rInset r l t rr b _).mono ?_; rintro e w1 ⟨rfl, hb⟩)
      | (go_at_call 13; refine (c_gKeep r i _).mono ?_; rintro e w1 ⟨rfl, hb⟩)
      | (go_at_call 14; refine (c_rKeep r i _).mono ?_; rintro e w1 ⟨rfl, hb⟩)
      | (go_at_call 15; refine (awake_any _).mono ?_; rintro e w1 ⟨rfl, hb⟩))
  go_split_ands
  go_wp2
  go_ret
  exact ⟨rfl, by assumption⟩
theorem GeomMoves_law (a0_0 : Int) (a0_1 : Int) (a0_2 : Int) (a0_3 : Int) (a1_0 : Int) (a1_1 : Int) (a1_2 : Int) (a1_3 : Int) (a2_0 : Int) (a2_1 : Int) (a2_2 : Int) (a2_3 : Int) (a3 : Int) (a4 : Int) (W : World) (w0_0 : (Lit.int .i64 a0_0).wf = true) (w0_1 : (Lit.int .i64 a0_1).wf = true) (w0_2 : (Lit.int .i64 a0_2).wf = true) (w0_3 : (Lit.int .i64 a0_3).wf = true) (w1_0 : (Lit.int .i64 a1_0).wf = true) (w1_1 : (Lit.int .i64 a1_1).wf = true) (w1_2 : (Lit.int .i64 a1_2).wf = true) (w1_3 : (Lit.int .i64 a1_3).wf = true) (w2_0 : (Lit.int .i64 a2_0).wf = true) (w2_1 : (Lit.int .i64 a2_1).wf = true) (w2_2 : (Lit.int .i64 a2_2).wf = true) (w2_3 : (Lit.int .i64 a2_3).wf = true) (w3 : (Lit.int .i64 a3).wf = true) (w4 : (Lit.int .i64 a4).wf = true) :
    Calls Try.prog 3 #[.agg #[.int .i64 a0_0, .int .i64 a0_1, .int .i64 a0_2, .int .i64 a0_3], .agg #[.int .i64 a1_0, .int .i64 a1_1, .int .i64 a1_2, .int .i64 a1_3], .agg #[.int .i64 a2_0, .int .i64 a2_1, .int .i64 a2_2, .int .i64 a2_3], .int .i64 a3, .int .i64 a4] W fun e w' => e = .returned (.bool true) ∧ Below W.heap.size W w' := GeomMoves_any ⟨a0_0, a0_1, a0_2, a0_3⟩ ⟨a1_0, a1_1, a1_2, a1_3⟩ a2_0 a2_1 a2_2 a2_3 a3 a4 W ⟨I64.of w3⟩ ⟨I64.of w4⟩
end Go.Proofs.Ytechhbmaamjllaa.Geo
