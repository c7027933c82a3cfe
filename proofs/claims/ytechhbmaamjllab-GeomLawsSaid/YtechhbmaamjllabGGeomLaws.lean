/- GeomLaws: it plays no part in which order, and how grouped, rectangles are held against one another. -/
import Derived.Test.YtechhbmaamjllabGeoA
import Derived.Test.YtechhbmaamjllabGeoL
import Derived.Test.YtechhbmaamjllabGeoH
import Derived.Test.YtechhbmaamjllabGeoIn
import Derived.Deep.RegionHeld3
import Derived.Test.YtechhbmaamjllabPGeomPointsx1
namespace Go.Proofs.Ytechhbmaamjllab.Geo
open Go.RowKit Go.Proofs.YtechhbmaamjllabW.PrintMore Go.Proofs.YtechhbmaamjllabW.PrintWords Go.Proofs.YtechhbmaamjllabW.PrintLast
set_option linter.unusedVariables false
set_option linter.unusedSimpArgs false
attribute [local go_sem high] Go.Proofs.Ytechhbmaamjllab.PGeomPoints.eqA23


set_option maxHeartbeats 8000000 in
set_option maxRecDepth 100000 in
theorem GeomLaws_any (a b c : Rc) (W : World)  : Calls Try.prog 3 #[.agg #[.int .i64 a.x, .int .i64 a.y, .int .i64 a.w, .int .i64 a.h], .agg #[.int .i64 b.x, .int .i64 b.y, .int .i64 b.w, .int .i64 b.h], .agg #[.int .i64 c.x, .int .i64 c.y, .int .i64 c.w, .int .i64 c.h]] W (Yes W) := by
  have HB := Aside0.mk (below_alloc (below_alloc (below_alloc (Below.refl W.heap.size W) (.cells #[.int .i64 a.x, .int .i64 a.y, .int .i64 a.w, .int .i64 a.h] 23)) (.cells #[.int .i64 b.x, .int .i64 b.y, .int .i64 b.w, .int .i64 b.h] 23)) (.cells #[.int .i64 c.x, .int .i64 c.y, .int .i64 c.w, .int .i64 c.h] 23))
  have q1 : interP b a = interP a b := inter_comm b a
  have q2 : interP a (interP b c) = interP (interP a b) c := (inter_assoc a b c).symm
  replace q1 := Aside0.mk q1
  replace q2 := Aside0.mk q2
  have k1 : ∀ w, Calls Try.prog 5 #[.agg #[.int .i64 b.x, .int .i64 b.y, .int .i64 b.w, .int .i64 b.h], .agg #[.int .i64 a.x, .int .i64 a.y, .int .i64 a.w, .int .i64 a.h]] w (RetR (interP a b) w) := fun w => by have := c_gInter b a w; rw [q1.out] at this; exact this
  have k2 : ∀ w, Calls Try.prog 5 #[.agg #[.int .i64 a.x, .int .i64 a.y, .int .i64 a.w, .int .i64 a.h], .agg #[.int .i64 (interP b c).x, .int .i64 (interP b c).y, .int .i64 (interP b c).w, .int .i64 (interP b c).h]] w (RetR (interP (interP a b) c) w) := fun w => by have := c_gInter a (interP b c) w; rw [q2.out] at this; exact this
  replace k1 := Aside0.mk k1
  replace k2 := Aside0.mk k2
  · skip
    go_enter Try.func3, Try.ntmps3
    go_wp2_with fail
    go_region_held3 (fun w' => w'.cell? ⟨W.heap.size, 0, none⟩ = some (.int .i64 a.x) ∧ w'.cell? ⟨W.heap.size, 1, none⟩ = some (.int .i64 a.y) ∧ w'.cell? ⟨W.heap.size, 2, none⟩ = some (.int .i64 a.w) ∧ w'.cell? ⟨W.heap.size, 3, none⟩ = some (.int .i64 a.h) ∧ w'.cell? ⟨W.heap.size + 1, 0, none⟩ = some (.int .i64 b.x) ∧ w'.cell? ⟨W.heap.size + 1, 1, none⟩ = some (.int .i64 b.y) ∧ w'.cell? ⟨W.heap.size + 1, 2, none⟩ = some (.int .i64 b.w) ∧ w'.cell? ⟨W.heap.size + 1, 3, none⟩ = some (.int .i64 b.h) ∧ w'.cell? ⟨W.heap.size + 2, 0, none⟩ = some (.int .i64 c.x) ∧ w'.cell? ⟨W.heap.size + 2, 1, none⟩ = some (.int .i64 c.y) ∧ w'.cell? ⟨W.heap.size + 2, 2, none⟩ = some (.int .i64 c.w) ∧ w'.cell? ⟨W.heap.size + 2, 3, none⟩ = some (.int .i64 c.h) ∧ Below W.heap.size W w')
      (first
        | (go_split_ands; exact ⟨cell_held ‹_› ‹_›, cell_held ‹_› ‹_›, cell_held ‹_› ‹_›, cell_held ‹_› ‹_›, cell_held ‹_› ‹_›, cell_held ‹_› ‹_›, cell_held ‹_› ‹_›, cell_held ‹_› ‹_›, cell_held ‹_› ‹_›, cell_held ‹_› ‹_›, cell_held ‹_› ‹_›, cell_held ‹_› ‹_›, below_step ‹_› ‹_›⟩)
        | ((refine ⟨?_, ?_, ?_, ?_, ?_, ?_, ?_, ?_, ?_, ?_, ?_, ?_, ?_⟩) <;> first | exact below_drew HB.out | (go_simp; done))
        | go_keep)
      (first
        | (go_at_call 5; (with_reducible refine (k1.out _).mono ?_); rintro e w1 ⟨rfl, hb⟩)
        | (go_at_call 5; (with_reducible refine (k2.out _).mono ?_); rintro e w1 ⟨rfl, hb⟩)
        | (go_at_call 5; (with_reducible refine (c_gInter a b _).mono ?_); rintro e w1 ⟨rfl, hb⟩)
        | (go_at_call 5; (with_reducible refine (c_gInter (interP a b) c _).mono ?_); rintro e w1 ⟨rfl, hb⟩)
        | (go_at_call 5; (with_reducible refine (c_gInter b c _).mono ?_); rintro e w1 ⟨rfl, hb⟩))
    go_split_ands
    go_wp2_with fail
    by_cases ha : emptyB a = true
    · refine (c_gEmpty a _).mono ?_
      rintro e w2 ⟨rfl, hb⟩
      have q0_0 := cell_held hb (a := ⟨W.heap.size, 0, none⟩) (v := .int .i64 a.x) (by assumption)
      have q0_1 := cell_held hb (a := ⟨W.heap.size, 1, none⟩) (v := .int .i64 a.y) (by assumption)
      have q0_2 := cell_held hb (a := ⟨W.heap.size, 2, none⟩) (v := .int .i64 a.w) (by assumption)
      have q0_3 := cell_held hb (a := ⟨W.heap.size, 3, none⟩) (v := .int .i64 a.h) (by assumption)
      have q1_0 := cell_held hb (a := ⟨W.heap.size + 1, 0, none⟩) (v := .int .i64 b.x) (by assumption)
      have q1_1 := cell_held hb (a := ⟨W.heap.size + 1, 1, none⟩) (v := .int .i64 b.y) (by assumption)
      have q1_2 := cell_held hb (a := ⟨W.heap.size + 1, 2, none⟩) (v := .int .i64 b.w) (by assumption)
      have q1_3 := cell_held hb (a := ⟨W.heap.size + 1, 3, none⟩) (v := .int .i64 b.h) (by assumption)
      have q2_0 := cell_held hb (a := ⟨W.heap.size + 1 + 1, 0, none⟩) (v := .int .i64 c.x) (by assumption)
      have q2_1 := cell_held hb (a := ⟨W.heap.size + 1 + 1, 1, none⟩) (v := .int .i64 c.y) (by assumption)
      have q2_2 := cell_held hb (a := ⟨W.heap.size + 1 + 1, 2, none⟩) (v := .int .i64 c.w) (by assumption)
      have q2_3 := cell_held hb (a := ⟨W.heap.size + 1 + 1, 3, none⟩) (v := .int .i64 c.h) (by assumption)
      have qB := below_step (w := W) (by assumption) hb
      clear hb
      go_wp2_with fail
      refine (awake_any _).mono ?_
      rintro e w9 ⟨rfl, hb⟩
      have qB := below_step (w := W) (by assumption) hb
      clear hb
      go_wp2_with fail
      go_ret
      exact ⟨rfl, qB⟩
    simp only [Bool.not_eq_true] at ha
    refine (c_gEmpty a _).mono ?_
    rintro e w2 ⟨rfl, hb⟩
    have q0_0 := cell_held hb (a := ⟨W.heap.size, 0, none⟩) (v := .int .i64 a.x) (by assumption)
    have q0_1 := cell_held hb (a := ⟨W.heap.size, 1, none⟩) (v := .int .i64 a.y) (by assumption)
    have q0_2 := cell_held hb (a := ⟨W.heap.size, 2, none⟩) (v := .int .i64 a.w) (by assumption)
    have q0_3 := cell_held hb (a := ⟨W.heap.size, 3, none⟩) (v := .int .i64 a.h) (by assumption)
    have q1_0 := cell_held hb (a := ⟨W.heap.size + 1, 0, none⟩) (v := .int .i64 b.x) (by assumption)
    have q1_1 := cell_held hb (a := ⟨W.heap.size + 1, 1, none⟩) (v := .int .i64 b.y) (by assumption)
    have q1_2 := cell_held hb (a := ⟨W.heap.size + 1, 2, none⟩) (v := .int .i64 b.w) (by assumption)
    have q1_3 := cell_held hb (a := ⟨W.heap.size + 1, 3, none⟩) (v := .int .i64 b.h) (by assumption)
    have q2_0 := cell_held hb (a := ⟨W.heap.size + 1 + 1, 0, none⟩) (v := .int .i64 c.x) (by assumption)
    have q2_1 := cell_held hb (a := ⟨W.heap.size + 1 + 1, 1, none⟩) (v := .int .i64 c.y) (by assumption)
    have q2_2 := cell_held hb (a := ⟨W.heap.size + 1 + 1, 2, none⟩) (v := .int .i64 c.w) (by assumption)
    have q2_3 := cell_held hb (a := ⟨W.heap.size + 1 + 1, 3, none⟩) (v := .int .i64 c.h) (by assumption)
    have qB := below_step (w := W) (by assumption) hb
    clear hb
    go_wp2_with fail
    by_cases hb' : emptyB b = true
    · refine (c_gEmpty b _).mono ?_
      rintro e w3 ⟨rfl, hb⟩
      have q0_0 := cell_held hb (a := ⟨W.heap.size, 0, none⟩) (v := .int .i64 a.x) (by assumption)
      have q0_1 := cell_held hb (a := ⟨W.heap.size, 1, none⟩) (v := .int .i64 a.y) (by assumption)
      have q0_2 := cell_held hb (a := ⟨W.heap.size, 2, none⟩) (v := .int .i64 a.w) (by assumption)
      have q0_3 := cell_held hb (a := ⟨W.heap.size, 3, none⟩) (v := .int .i64 a.h) (by assumption)
      have q1_0 := cell_held hb (a := ⟨W.heap.size + 1, 0, none⟩) (v := .int .i64 b.x) (by assumption)
      have q1_1 := cell_held hb (a := ⟨W.heap.size + 1, 1, none⟩) (v := .int .i64 b.y) (by assumption)
      have q1_2 := cell_held hb (a := ⟨W.heap.size + 1, 2, none⟩) (v := .int .i64 b.w) (by assumption)
      have q1_3 := cell_held hb (a := ⟨W.heap.size + 1, 3, none⟩) (v := .int .i64 b.h) (by assumption)
      have q2_0 := cell_held hb (a := ⟨W.heap.size + 1 + 1, 0, none⟩) (v := .int .i64 c.x) (by assumption)
      have q2_1 := cell_held hb (a := ⟨W.heap.size + 1 + 1, 1, none⟩) (v := .int .i64 c.y) (by assumption)
      have q2_2 := cell_held hb (a := ⟨W.heap.size + 1 + 1, 2, none⟩) (v := .int .i64 c.w) (by assumption)
      have q2_3 := cell_held hb (a := ⟨W.heap.size + 1 + 1, 3, none⟩) (v := .int .i64 c.h) (by assumption)
      have qB := below_step (w := W) (by assumption) hb
      clear hb
      go_wp2_with fail
      refine (awake_any _).mono ?_
      rintro e w9 ⟨rfl, hb⟩
      have qB := below_step (w := W) (by assumption) hb
      clear hb
      go_wp2_with fail
      go_ret
      exact ⟨rfl, qB⟩
    simp only [Bool.not_eq_true] at hb'
    refine (c_gEmpty b _).mono ?_
    rintro e w3 ⟨rfl, hb⟩
    have q0_0 := cell_held hb (a := ⟨W.heap.size, 0, none⟩) (v := .int .i64 a.x) (by assumption)
    have q0_1 := cell_held hb (a := ⟨W.heap.size, 1, none⟩) (v := .int .i64 a.y) (by assumption)
    have q0_2 := cell_held hb (a := ⟨W.heap.size, 2, none⟩) (v := .int .i64 a.w) (by assumption)
    have q0_3 := cell_held hb (a := ⟨W.heap.size, 3, none⟩) (v := .int .i64 a.h) (by assumption)
    have q1_0 := cell_held hb (a := ⟨W.heap.size + 1, 0, none⟩) (v := .int .i64 b.x) (by assumption)
    have q1_1 := cell_held hb (a := ⟨W.heap.size + 1, 1, none⟩) (v := .int .i64 b.y) (by assumption)
    have q1_2 := cell_held hb (a := ⟨W.heap.size + 1, 2, none⟩) (v := .int .i64 b.w) (by assumption)
    have q1_3 := cell_held hb (a := ⟨W.heap.size + 1, 3, none⟩) (v := .int .i64 b.h) (by assumption)
    have q2_0 := cell_held hb (a := ⟨W.heap.size + 1 + 1, 0, none⟩) (v := .int .i64 c.x) (by assumption)
    have q2_1 := cell_held hb (a := ⟨W.heap.size + 1 + 1, 1, none⟩) (v := .int .i64 c.y) (by assumption)
    have q2_2 := cell_held hb (a := ⟨W.heap.size + 1 + 1, 2, none⟩) (v := .int .i64 c.w) (by assumption)
    have q2_3 := cell_held hb (a := ⟨W.heap.size + 1 + 1, 3, none⟩) (v := .int .i64 c.h) (by assumption)
    have qB := below_step (w := W) (by assumption) hb
    clear hb
    go_wp2_with fail
    by_cases hc' : emptyB c = true
    · refine (c_gEmpty c _).mono ?_
      rintro e w4 ⟨rfl, hb⟩
      have q0_0 := cell_held hb (a := ⟨W.heap.size, 0, none⟩) (v := .int .i64 a.x) (by assumption)
      have q0_1 := cell_held hb (a := ⟨W.heap.size, 1, none⟩) (v := .int .i64 a.y) (by assumption)
      have q0_2 := cell_held hb (a := ⟨W.heap.size, 2, none⟩) (v := .int .i64 a.w) (by assumption)
      have q0_3 := cell_held hb (a := ⟨W.heap.size, 3, none⟩) (v := .int .i64 a.h) (by assumption)
      have q1_0 := cell_held hb (a := ⟨W.heap.size + 1, 0, none⟩) (v := .int .i64 b.x) (by assumption)
      have q1_1 := cell_held hb (a := ⟨W.heap.size + 1, 1, none⟩) (v := .int .i64 b.y) (by assumption)
      have q1_2 := cell_held hb (a := ⟨W.heap.size + 1, 2, none⟩) (v := .int .i64 b.w) (by assumption)
      have q1_3 := cell_held hb (a := ⟨W.heap.size + 1, 3, none⟩) (v := .int .i64 b.h) (by assumption)
      have q2_0 := cell_held hb (a := ⟨W.heap.size + 1 + 1, 0, none⟩) (v := .int .i64 c.x) (by assumption)
      have q2_1 := cell_held hb (a := ⟨W.heap.size + 1 + 1, 1, none⟩) (v := .int .i64 c.y) (by assumption)
      have q2_2 := cell_held hb (a := ⟨W.heap.size + 1 + 1, 2, none⟩) (v := .int .i64 c.w) (by assumption)
      have q2_3 := cell_held hb (a := ⟨W.heap.size + 1 + 1, 3, none⟩) (v := .int .i64 c.h) (by assumption)
      have qB := below_step (w := W) (by assumption) hb
      clear hb
      go_wp2_with fail
      refine (awake_any _).mono ?_
      rintro e w9 ⟨rfl, hb⟩
      have qB := below_step (w := W) (by assumption) hb
      clear hb
      go_wp2_with fail
      go_ret
      exact ⟨rfl, qB⟩
    simp only [Bool.not_eq_true] at hc'
    refine (c_gEmpty c _).mono ?_
    rintro e w4 ⟨rfl, hb⟩
    have q0_0 := cell_held hb (a := ⟨W.heap.size, 0, none⟩) (v := .int .i64 a.x) (by assumption)
    have q0_1 := cell_held hb (a := ⟨W.heap.size, 1, none⟩) (v := .int .i64 a.y) (by assumption)
    have q0_2 := cell_held hb (a := ⟨W.heap.size, 2, none⟩) (v := .int .i64 a.w) (by assumption)
    have q0_3 := cell_held hb (a := ⟨W.heap.size, 3, none⟩) (v := .int .i64 a.h) (by assumption)
    have q1_0 := cell_held hb (a := ⟨W.heap.size + 1, 0, none⟩) (v := .int .i64 b.x) (by assumption)
    have q1_1 := cell_held hb (a := ⟨W.heap.size + 1, 1, none⟩) (v := .int .i64 b.y) (by assumption)
    have q1_2 := cell_held hb (a := ⟨W.heap.size + 1, 2, none⟩) (v := .int .i64 b.w) (by assumption)
    have q1_3 := cell_held hb (a := ⟨W.heap.size + 1, 3, none⟩) (v := .int .i64 b.h) (by assumption)
    have q2_0 := cell_held hb (a := ⟨W.heap.size + 1 + 1, 0, none⟩) (v := .int .i64 c.x) (by assumption)
    have q2_1 := cell_held hb (a := ⟨W.heap.size + 1 + 1, 1, none⟩) (v := .int .i64 c.y) (by assumption)
    have q2_2 := cell_held hb (a := ⟨W.heap.size + 1 + 1, 2, none⟩) (v := .int .i64 c.w) (by assumption)
    have q2_3 := cell_held hb (a := ⟨W.heap.size + 1 + 1, 3, none⟩) (v := .int .i64 c.h) (by assumption)
    have qB := below_step (w := W) (by assumption) hb
    clear hb
    go_wp2_with fail
    have r1 : hullP b a = hullP a b := hull_comm hb' ha
    have r2 : hullP a (hullP b c) = hullP (hullP a b) c := (hull_assoc ha hb' hc').symm
    replace r1 := Aside0.mk r1
    replace r2 := Aside0.mk r2
    have i1 := Aside0.mk (in_hull ha hb')
    have i2 := Aside0.mk (inter_in ha hb')
    have m1 : ∀ w, Calls Try.prog 8 #[.agg #[.int .i64 b.x, .int .i64 b.y, .int .i64 b.w, .int .i64 b.h], .agg #[.int .i64 a.x, .int .i64 a.y, .int .i64 a.w, .int .i64 a.h]] w (RetR (hullP a b) w) := fun w => by have := c_gHull b a w; rw [r1.out] at this; exact this
    have m2 : ∀ w, Calls Try.prog 8 #[.agg #[.int .i64 a.x, .int .i64 a.y, .int .i64 a.w, .int .i64 a.h], .agg #[.int .i64 (hullP b c).x, .int .i64 (hullP b c).y, .int .i64 (hullP b c).w, .int .i64 (hullP b c).h]] w (RetR (hullP (hullP a b) c) w) := fun w => by have := c_gHull a (hullP b c) w; rw [r2.out] at this; exact this
    have m3 : ∀ w, Calls Try.prog 9 #[.agg #[.int .i64 a.x, .int .i64 a.y, .int .i64 a.w, .int .i64 a.h], .agg #[.int .i64 (hullP a b).x, .int .i64 (hullP a b).y, .int .i64 (hullP a b).w, .int .i64 (hullP a b).h]] w (RetB true w) := fun w => by have := c_gInside a (hullP a b) w; rw [i1.out] at this; exact this
    have m4 : ∀ w, Calls Try.prog 9 #[.agg #[.int .i64 (interP a b).x, .int .i64 (interP a b).y, .int .i64 (interP a b).w, .int .i64 (interP a b).h], .agg #[.int .i64 a.x, .int .i64 a.y, .int .i64 a.w, .int .i64 a.h]] w (RetB true w) := fun w => by have := c_gInside (interP a b) a w; rw [i2.out] at this; exact this
    replace m1 := Aside0.mk m1
    replace m2 := Aside0.mk m2
    replace m3 := Aside0.mk m3
    replace m4 := Aside0.mk m4
    clear i1 i2 r1 r2
    go_region_held3 (fun w' => w'.cell? ⟨W.heap.size, 0, none⟩ = some (.int .i64 a.x) ∧ w'.cell? ⟨W.heap.size, 1, none⟩ = some (.int .i64 a.y) ∧ w'.cell? ⟨W.heap.size, 2, none⟩ = some (.int .i64 a.w) ∧ w'.cell? ⟨W.heap.size, 3, none⟩ = some (.int .i64 a.h) ∧ w'.cell? ⟨W.heap.size + 1, 0, none⟩ = some (.int .i64 b.x) ∧ w'.cell? ⟨W.heap.size + 1, 1, none⟩ = some (.int .i64 b.y) ∧ w'.cell? ⟨W.heap.size + 1, 2, none⟩ = some (.int .i64 b.w) ∧ w'.cell? ⟨W.heap.size + 1, 3, none⟩ = some (.int .i64 b.h) ∧ w'.cell? ⟨W.heap.size + 2, 0, none⟩ = some (.int .i64 c.x) ∧ w'.cell? ⟨W.heap.size + 2, 1, none⟩ = some (.int .i64 c.y) ∧ w'.cell? ⟨W.heap.size + 2, 2, none⟩ = some (.int .i64 c.w) ∧ w'.cell? ⟨W.heap.size + 2, 3, none⟩ = some (.int .i64 c.h) ∧ Below W.heap.size W w')
      (first
        | (go_split_ands; exact ⟨cell_held ‹_› ‹_›, cell_held ‹_› ‹_›, cell_held ‹_› ‹_›, cell_held ‹_› ‹_›, cell_held ‹_› ‹_›, cell_held ‹_› ‹_›, cell_held ‹_› ‹_›, cell_held ‹_› ‹_›, cell_held ‹_› ‹_›, cell_held ‹_› ‹_›, cell_held ‹_› ‹_›, cell_held ‹_› ‹_›, below_step ‹_› ‹_›⟩)
        | ((refine ⟨?_, ?_, ?_, ?_, ?_, ?_, ?_, ?_, ?_, ?_, ?_, ?_, ?_⟩) <;> first | exact below_drew (by assumption) | (go_simp; done))
        | go_keep)
      (first
        | (go_at_call 8; (with_reducible refine (m1.out _).mono ?_); rintro e w1 ⟨rfl, hb⟩)
        | (go_at_call 8; (with_reducible refine (m2.out _).mono ?_); rintro e w1 ⟨rfl, hb⟩)
        | (go_at_call 8; (with_reducible refine (c_gHull a b _).mono ?_); rintro e w1 ⟨rfl, hb⟩)
        | (go_at_call 8; (with_reducible refine (c_gHull (hullP a b) c _).mono ?_); rintro e w1 ⟨rfl, hb⟩)
        | (go_at_call 8; (with_reducible refine (c_gHull b c _).mono ?_); rintro e w1 ⟨rfl, hb⟩)
        | (go_at_call 9; (with_reducible refine (m3.out _).mono ?_); rintro e w1 ⟨rfl, hb⟩)
        | (go_at_call 9; (with_reducible refine (m4.out _).mono ?_); rintro e w1 ⟨rfl, hb⟩)
        | (go_at_call 5; (with_reducible refine (c_gInter a b _).mono ?_); rintro e w1 ⟨rfl, hb⟩)
        | (go_at_call 7; refine (awake_any _).mono ?_; rintro e w1 ⟨rfl, hb⟩))
    go_split_ands
    go_wp2
    go_ret
    exact ⟨rfl, by assumption⟩
theorem GeomLaws_law (a0_0 : Int) (a0_1 : Int) (a0_2 : Int) (a0_3 : Int) (a1_0 : Int) (a1_1 : Int) (a1_2 : Int) (a1_3 : Int) (a2_0 : Int) (a2_1 : Int) (a2_2 : Int) (a2_3 : Int) (W : World) (w0_0 : (Lit.int .i64 a0_0).wf = true) (w0_1 : (Lit.int .i64 a0_1).wf = true) (w0_2 : (Lit.int .i64 a0_2).wf = true) (w0_3 : (Lit.int .i64 a0_3).wf = true) (w1_0 : (Lit.int .i64 a1_0).wf = true) (w1_1 : (Lit.int .i64 a1_1).wf = true) (w1_2 : (Lit.int .i64 a1_2).wf = true) (w1_3 : (Lit.int .i64 a1_3).wf = true) (w2_0 : (Lit.int .i64 a2_0).wf = true) (w2_1 : (Lit.int .i64 a2_1).wf = true) (w2_2 : (Lit.int .i64 a2_2).wf = true) (w2_3 : (Lit.int .i64 a2_3).wf = true) :
    Calls Try.prog 3 #[.agg #[.int .i64 a0_0, .int .i64 a0_1, .int .i64 a0_2, .int .i64 a0_3], .agg #[.int .i64 a1_0, .int .i64 a1_1, .int .i64 a1_2, .int .i64 a1_3], .agg #[.int .i64 a2_0, .int .i64 a2_1, .int .i64 a2_2, .int .i64 a2_3]] W fun e w' => e = .returned (.bool true) ∧ Below W.heap.size W w' := GeomLaws_any ⟨a0_0, a0_1, a0_2, a0_3⟩ ⟨a1_0, a1_1, a1_2, a1_3⟩ ⟨a2_0, a2_1, a2_2, a2_3⟩ W
end Go.Proofs.Ytechhbmaamjllab.Geo
