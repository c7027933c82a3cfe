/- The contracts of the reference's Hull and Inside. -/
import Derived.Test.YtechhbmaamjllaaGeoRI
import Derived.Deep.RegionHeld3
import Derived.IntWalk
namespace Go.Proofs.Ytechhbmaamjllaa.Geo
open Go.RowKit Go.Proofs.YtechhbmaamjllaaW.PrintMore Go.Proofs.YtechhbmaamjllaaW.PrintWords Go.Proofs.YtechhbmaamjllaaW.PrintLast
set_option linter.unusedVariables false
set_option linter.unusedSimpArgs false

/-- What a cell holds, whatever it is. -/
def valAt (w : World) (g i : Nat) : Value := (w.cell? ⟨g, i, none⟩).getD undef
theorem valAt_some {w : World} {g i : Nat} (h : (w.cell? ⟨g, i, none⟩).isSome = true) : w.cell? ⟨g, i, none⟩ = some (valAt w g i) := by
  unfold valAt; cases e : w.cell? ⟨g, i, none⟩ with
  | none => rw [e] at h; cases h
  | some v => rfl
theorem valAt_held {W w1 : World} {g i : Nat} {v : Value} (hb : Below W.heap.size W w1) (h : W.cell? ⟨g, i, none⟩ = some v) : w1.cell? ⟨g, i, none⟩ = some (valAt w1 g i) := valAt_some (by rw [cell_held hb h]; rfl)
theorem free_held' {W w1 : World} {g i : Nat} {v : Value} (hb : Below W.heap.size W w1) (h : W.cell? ⟨g, i, none⟩ = some v) (hf : W.frozen? ⟨g, i, none⟩ = false) : w1.frozen? ⟨g, i, none⟩ = false := (hb.frozen (World.block_lt_of_cell? W _ h)).trans hf
theorem le_two (n : Nat) : n ≤ n + 1 + 1 := by omega

set_option maxHeartbeats 8000000 in
set_option maxRecDepth 100000 in
theorem c_rHull (a b : Rc) (W : World) : Calls Try.prog 33 #[.agg #[.int .i64 a.x, .int .i64 a.y, .int .i64 a.w, .int .i64 a.h], .agg #[.int .i64 b.x, .int .i64 b.y, .int .i64 b.w, .int .i64 b.h]] W (RetR (hullP a b) W) := by
  have HB := Aside0.mk (below_alloc (below_alloc (below_alloc (Below.refl W.heap.size W) (.cells #[.int .i64 a.x, .int .i64 a.y, .int .i64 a.w, .int .i64 a.h] 23)) (.cells #[.int .i64 b.x, .int .i64 b.y, .int .i64 b.w, .int .i64 b.h] 23)) (.cells #[.int .i64 0, .int .i64 0, .int .i64 0, .int .i64 0] 23))
  by_cases ha : emptyB a = true
  · by_cases hb' : emptyB b = true
    · rw [show hullP a b = z4 by unfold hullP; rw [ha, hb']; rfl]
      go_enter Try.func33, Try.ntmps33
      go_wp2_with fail
      refine (c_rEmpty a _).mono ?_
      rintro e w1 ⟨rfl, hb⟩
      have HA := Aside0.mk hb
      obtain ⟨hc, hf⟩ := bcell hb
      clear hb
      go_wp2_with fail
      refine (c_rEmpty b _).mono ?_
      rintro e w1 ⟨rfl, hb⟩
      replace HA := Aside0.mk (below_step HA.out hb)
      clear hc hf hb
      obtain ⟨hc, hf⟩ := bcell HA.out
      go_wp2
      exact bodyPost_ret (v := .agg #[.int .i64 0, .int .i64 0, .int .i64 0, .int .i64 0]) (by simp [results, Try.results33, go_sem, hc, hf]) rfl ⟨rfl, by (repeat (refine below_set ?_ (le_two _))); exact below_step HB.out HA.out⟩
    simp only [Bool.not_eq_true] at hb'
    rw [show hullP a b = b by unfold hullP; rw [ha, hb']; rfl]
    go_enter Try.func33, Try.ntmps33
    go_wp2_with fail
    refine (c_rEmpty a _).mono ?_
    rintro e w1 ⟨rfl, hb⟩
    have HA := Aside0.mk hb
    obtain ⟨hc, hf⟩ := bcell hb
    clear hb
    go_wp2_with fail
    refine (c_rEmpty b _).mono ?_
    rintro e w1 ⟨rfl, hb⟩
    replace HA := Aside0.mk (below_step HA.out hb)
    clear hc hf hb
    obtain ⟨hc, hf⟩ := bcell HA.out
    go_wp2_with fail
    refine (c_rEmpty a _).mono ?_
    rintro e w1 ⟨rfl, hb⟩
    replace HA := Aside0.mk (below_step HA.out hb)
    clear hc hf hb
    obtain ⟨hc, hf⟩ := bcell HA.out
    go_wp2
    exact bodyPost_ret (v := .agg #[.int .i64 b.x, .int .i64 b.y, .int .i64 b.w, .int .i64 b.h]) (by simp [results, Try.results33, go_sem, hc, hf]) rfl ⟨rfl, by (repeat (refine below_set ?_ (le_two _))); exact below_step HB.out HA.out⟩
  simp only [Bool.not_eq_true] at ha
  by_cases hb' : emptyB b = true
  · rw [show hullP a b = a by unfold hullP; rw [ha, hb']; rfl]
    go_enter Try.func33, Try.ntmps33
    go_wp2_with fail
    refine (c_rEmpty a _).mono ?_
    rintro e w1 ⟨rfl, hb⟩
    have HA := Aside0.mk hb
    obtain ⟨hc, hf⟩ := bcell hb
    clear hb
    go_wp2_with fail
    refine (c_rEmpty a _).mono ?_
    rintro e w1 ⟨rfl, hb⟩
    replace HA := Aside0.mk (below_step HA.out hb)
    clear hc hf hb
    obtain ⟨hc, hf⟩ := bcell HA.out
    go_wp2_with fail
    refine (c_rEmpty b _).mono ?_
    rintro e w1 ⟨rfl, hb⟩
    replace HA := Aside0.mk (below_step HA.out hb)
    clear hc hf hb
    obtain ⟨hc, hf⟩ := bcell HA.out
    go_wp2
    exact bodyPost_ret (v := .agg #[.int .i64 a.x, .int .i64 a.y, .int .i64 a.w, .int .i64 a.h]) (by simp [results, Try.results33, go_sem, hc, hf]) rfl ⟨rfl, by (repeat (refine below_set ?_ (le_two _))); exact below_step HB.out HA.out⟩
  · simp only [Bool.not_eq_true] at hb'
    have q1 := nonempty ha
    have q2 := nonempty hb'
    obtain ⟨⟨g1, g2, g3, g4⟩, g5, g6, g7, g8⟩ := q1
    obtain ⟨⟨k1, k2, k3, k4⟩, k5, k6, k7, k8⟩ := q2
    rw [show hullP a b = betweenP (min a.x b.x) (min a.y b.y) (max (a.x + a.w) (b.x + b.w)) (max (a.y + a.h) (b.y + b.h)) by unfold hullP; simp [ha, hb']]
    go_enter Try.func33, Try.ntmps33
    go_wp2_with fail
    refine (c_rEmpty a _).mono ?_
    rintro e w1 ⟨rfl, hb⟩
    have HA := Aside0.mk hb
    obtain ⟨hc, hf⟩ := bcell hb
    clear hb
    go_wp2_with fail
    refine (c_rEmpty a _).mono ?_
    rintro e w1 ⟨rfl, hb⟩
    replace HA := Aside0.mk (below_step HA.out hb)
    clear hc hf hb
    obtain ⟨hc, hf⟩ := bcell HA.out
    go_wp2_with fail
    refine (c_rEmpty b _).mono ?_
    rintro e w1 ⟨rfl, hb⟩
    replace HA := Aside0.mk (below_step HA.out hb)
    clear hc hf hb
    obtain ⟨hc, hf⟩ := bcell HA.out
    have c0 : w1.cell? ⟨W.heap.size, 0, none⟩ = some (.int .i64 a.x) := by go_simp
    have c1 : w1.cell? ⟨W.heap.size, 1, none⟩ = some (.int .i64 a.y) := by go_simp
    have c2 : w1.cell? ⟨W.heap.size, 2, none⟩ = some (.int .i64 a.w) := by go_simp
    have c3 : w1.cell? ⟨W.heap.size, 3, none⟩ = some (.int .i64 a.h) := by go_simp
    have d0 : w1.cell? ⟨W.heap.size + 1, 0, none⟩ = some (.int .i64 b.x) := by go_simp
    have d1 : w1.cell? ⟨W.heap.size + 1, 1, none⟩ = some (.int .i64 b.y) := by go_simp
    have d2 : w1.cell? ⟨W.heap.size + 1, 2, none⟩ = some (.int .i64 b.w) := by go_simp
    have d3 : w1.cell? ⟨W.heap.size + 1, 3, none⟩ = some (.int .i64 b.h) := by go_simp
    have r0 : w1.cell? ⟨W.heap.size + 1 + 1, 0, none⟩ = some (.int .i64 0) := by go_simp
    have f0 : w1.frozen? ⟨W.heap.size + 1 + 1, 0, none⟩ = false := by go_simp
    have r1 : w1.cell? ⟨W.heap.size + 1 + 1, 1, none⟩ = some (.int .i64 0) := by go_simp
    have f1 : w1.frozen? ⟨W.heap.size + 1 + 1, 1, none⟩ = false := by go_simp
    have r2 : w1.cell? ⟨W.heap.size + 1 + 1, 2, none⟩ = some (.int .i64 0) := by go_simp
    have f2 : w1.frozen? ⟨W.heap.size + 1 + 1, 2, none⟩ = false := by go_simp
    have r3 : w1.cell? ⟨W.heap.size + 1 + 1, 3, none⟩ = some (.int .i64 0) := by go_simp
    have f3 : w1.frozen? ⟨W.heap.size + 1 + 1, 3, none⟩ = false := by go_simp
    have HB2 := Aside0.mk (below_step HB.out HA.out)
    clear hc hf HA HB
    go_wp2_with fail
    go_region_held3 (fun w' => w'.cell? ⟨W.heap.size, 0, none⟩ = some (.int .i64 a.x) ∧ w'.cell? ⟨W.heap.size, 1, none⟩ = some (.int .i64 a.y) ∧ w'.cell? ⟨W.heap.size, 2, none⟩ = some (.int .i64 a.w) ∧ w'.cell? ⟨W.heap.size, 3, none⟩ = some (.int .i64 a.h) ∧ w'.cell? ⟨W.heap.size + 1, 0, none⟩ = some (.int .i64 b.x) ∧ w'.cell? ⟨W.heap.size + 1, 1, none⟩ = some (.int .i64 b.y) ∧ w'.cell? ⟨W.heap.size + 1, 2, none⟩ = some (.int .i64 b.w) ∧ w'.cell? ⟨W.heap.size + 1, 3, none⟩ = some (.int .i64 b.h) ∧ w'.cell? ⟨W.heap.size + 1 + 1, 0, none⟩ = some (valAt w' (W.heap.size + 1 + 1) 0) ∧ w'.cell? ⟨W.heap.size + 1 + 1, 1, none⟩ = some (valAt w' (W.heap.size + 1 + 1) 1) ∧ w'.cell? ⟨W.heap.size + 1 + 1, 2, none⟩ = some (valAt w' (W.heap.size + 1 + 1) 2) ∧ w'.cell? ⟨W.heap.size + 1 + 1, 3, none⟩ = some (valAt w' (W.heap.size + 1 + 1) 3) ∧ w'.frozen? ⟨W.heap.size + 1 + 1, 0, none⟩ = false ∧ w'.frozen? ⟨W.heap.size + 1 + 1, 1, none⟩ = false ∧ w'.frozen? ⟨W.heap.size + 1 + 1, 2, none⟩ = false ∧ w'.frozen? ⟨W.heap.size + 1 + 1, 3, none⟩ = false ∧ Below W.heap.size W w')
      (first
        | (go_split_ands; exact ⟨cell_held ‹_› ‹_›, cell_held ‹_› ‹_›, cell_held ‹_› ‹_›, cell_held ‹_› ‹_›, cell_held ‹_› ‹_›, cell_held ‹_› ‹_›, cell_held ‹_› ‹_›, cell_held ‹_› ‹_›, valAt_held ‹_› ‹_›, valAt_held ‹_› ‹_›, valAt_held ‹_› ‹_›, valAt_held ‹_› ‹_›, free_held' ‹_› ‹_› ‹_›, free_held' ‹_› ‹_› ‹_›, free_held' ‹_› ‹_› ‹_›, free_held' ‹_› ‹_› ‹_›, below_step ‹_› ‹_›⟩)
        | ((refine ⟨?_, ?_, ?_, ?_, ?_, ?_, ?_, ?_, ?_, ?_, ?_, ?_, ?_, ?_, ?_, ?_, ?_⟩) <;> first | exact below_drew HB2.out | (go_simp; done) | (refine valAt_some ?_; go_simp; done))
        | ((go_split_ands; refine ⟨?_, ?_, ?_, ?_, ?_, ?_, ?_, ?_, ?_, ?_, ?_, ?_, ?_, ?_, ?_, ?_, ?_⟩) <;> first | (refine below_set (below_set (below_set (below_set ?_ (le_two _)) (le_two _)) (le_two _)) (le_two _); assumption) | (go_simp; done) | (refine valAt_some ?_; go_simp; done)))
      (first
        | (go_at_call 45; refine (c_rMost _ _ _).mono ?_; rintro e w1 ⟨rfl, hb⟩; replace r0 := cell_held hb r0; replace r1 := cell_held hb r1; replace r2 := cell_held hb r2; replace r3 := cell_held hb r3)
        | (go_at_call 46; refine (c_rLeast _ _ _).mono ?_; rintro e w1 ⟨rfl, hb⟩; replace r0 := cell_held hb r0; replace r1 := cell_held hb r1; replace r2 := cell_held hb r2; replace r3 := cell_held hb r3)
        | (go_at_call 29; refine (c_rFrom _ _ _ _ _).mono ?_; rintro e w1 ⟨rfl, hb⟩; replace r0 := cell_held hb r0; replace r1 := cell_held hb r1; replace r2 := cell_held hb r2; replace r3 := cell_held hb r3))
    go_split_ands
    rename_i HF
    go_wp2
    obtain ⟨x1, hx1⟩ : ∃ x, x = IntKind.i64.wrap (a.x + a.w) := ⟨_, rfl⟩
    obtain ⟨x2, hx2⟩ : ∃ x, x = IntKind.i64.wrap (b.x + b.w) := ⟨_, rfl⟩
    obtain ⟨x3, hx3⟩ : ∃ x, x = IntKind.i64.wrap (a.y + a.h) := ⟨_, rfl⟩
    obtain ⟨x4, hx4⟩ : ∃ x, x = IntKind.i64.wrap (b.y + b.h) := ⟨_, rfl⟩
    rw [← hx1, ← hx2, ← hx3, ← hx4] at HF ⊢
    rw [IntWalk.i64_in _ (by omega)] at hx1 hx2 hx3 hx4
    rw [hx1, hx2, hx3, hx4] at HF ⊢
    exact bodyPost_ret (v := .agg #[.int .i64 (betweenP (min a.x b.x) (min a.y b.y) (max (a.x + a.w) (b.x + b.w)) (max (a.y + a.h) (b.y + b.h))).x, .int .i64 (betweenP (min a.x b.x) (min a.y b.y) (max (a.x + a.w) (b.x + b.w)) (max (a.y + a.h) (b.y + b.h))).y, .int .i64 (betweenP (min a.x b.x) (min a.y b.y) (max (a.x + a.w) (b.x + b.w)) (max (a.y + a.h) (b.y + b.h))).w, .int .i64 (betweenP (min a.x b.x) (min a.y b.y) (max (a.x + a.w) (b.x + b.w)) (max (a.y + a.h) (b.y + b.h))).h]) (by simp [results, Try.results33, go_sem, r0, r1, r2, r3]) rfl ⟨rfl, by exact HF⟩

set_option maxHeartbeats 8000000 in
set_option maxRecDepth 100000 in
theorem c_rInside (a b : Rc) (W : World) : Calls Try.prog 34 #[.agg #[.int .i64 a.x, .int .i64 a.y, .int .i64 a.w, .int .i64 a.h], .agg #[.int .i64 b.x, .int .i64 b.y, .int .i64 b.w, .int .i64 b.h]] W (RetB (insideB a b) W) := by
  have HB := Aside0.mk (below_alloc (below_alloc (Below.refl W.heap.size W) (.cells #[.int .i64 a.x, .int .i64 a.y, .int .i64 a.w, .int .i64 a.h] 23)) (.cells #[.int .i64 b.x, .int .i64 b.y, .int .i64 b.w, .int .i64 b.h] 23))
  by_cases ha : emptyB a = true
  · rw [show insideB a b = true by unfold insideB; rw [ha]; rfl]
    go_enter Try.func34, Try.ntmps34
    go_wp2_with fail
    refine (c_rEmpty a _).mono ?_
    rintro e w1 ⟨rfl, hb⟩
    have HA := Aside0.mk hb
    obtain ⟨hc, hf⟩ := bcell hb
    clear hb
    go_wp2_with fail
    go_ret
    exact ⟨rfl, below_step HB.out HA.out⟩
  simp only [Bool.not_eq_true] at ha
  by_cases hr : rightB b = false
  · rw [show insideB a b = false by unfold insideB; rw [ha, hr]; rfl]
    go_enter Try.func34, Try.ntmps34
    go_wp2_with fail
    refine (c_rEmpty a _).mono ?_
    rintro e w1 ⟨rfl, hb⟩
    have HA := Aside0.mk hb
    obtain ⟨hc, hf⟩ := bcell hb
    clear hb
    go_wp2_with fail
    refine (c_rRight b _).mono ?_
    rintro e w1 ⟨rfl, hb⟩
    replace HA := Aside0.mk (below_step HA.out hb)
    clear hc hf hb
    obtain ⟨hc, hf⟩ := bcell HA.out
    go_wp2_with fail
    go_ret
    exact ⟨rfl, below_step HB.out HA.out⟩
  simp only [Bool.not_eq_false] at hr
  rw [show insideB a b = decide (b.x ≤ a.x ∧ b.y ≤ a.y ∧ a.x + a.w ≤ b.x + b.w ∧ a.y + a.h ≤ b.y + b.h) by unfold insideB; rw [ha, hr]; rfl]
  obtain ⟨⟨g1, g2, g3, g4⟩, g5, g6, g7, g8⟩ := nonempty ha
  obtain ⟨⟨k1, k2, k3, k4⟩, k5, k6, k7, k8⟩ := rightB_true.1 hr
  rcases (show (¬ (b.x ≤ a.x)) ∨ ((b.x ≤ a.x) ∧ ¬ (b.y ≤ a.y)) ∨ ((b.x ≤ a.x) ∧ (b.y ≤ a.y) ∧ ¬ (a.x + a.w ≤ b.x + b.w)) ∨ ((b.x ≤ a.x) ∧ (b.y ≤ a.y) ∧ (a.x + a.w ≤ b.x + b.w) ∧ ¬ (a.y + a.h ≤ b.y + b.h)) ∨ ((b.x ≤ a.x) ∧ (b.y ≤ a.y) ∧ (a.x + a.w ≤ b.x + b.w) ∧ (a.y + a.h ≤ b.y + b.h)) from by omega) with c0 | ⟨c0, c1⟩ | ⟨c0, c1, c2⟩ | ⟨c0, c1, c2, c3⟩ | ⟨c0, c1, c2, c3⟩
  · rw [show decide (b.x ≤ a.x ∧ b.y ≤ a.y ∧ a.x + a.w ≤ b.x + b.w ∧ a.y + a.h ≤ b.y + b.h) = false from decide_eq_false (by omega)]
    have d0 : decide (b.x ≤ a.x) = false := decide_eq_false c0
    clear c0
    go_enter Try.func34, Try.ntmps34
    go_wp2_with fail
    refine (c_rEmpty a _).mono ?_
    rintro e w1 ⟨rfl, hb⟩
    have HA := Aside0.mk hb
    obtain ⟨hc, hf⟩ := bcell hb
    clear hb
    go_wp2_with fail
    refine (c_rRight b _).mono ?_
    rintro e w1 ⟨rfl, hb⟩
    replace HA := Aside0.mk (below_step HA.out hb)
    clear hc hf hb
    obtain ⟨hc, hf⟩ := bcell HA.out
    go_wp2_with fail
    go_ret
    exact ⟨rfl, below_step HB.out HA.out⟩
  · rw [show decide (b.x ≤ a.x ∧ b.y ≤ a.y ∧ a.x + a.w ≤ b.x + b.w ∧ a.y + a.h ≤ b.y + b.h) = false from decide_eq_false (by omega)]
    have d0 : decide (b.x ≤ a.x) = true := decide_eq_true c0
    have d1 : decide (b.y ≤ a.y) = false := decide_eq_false c1
    clear c0 c1
    go_enter Try.func34, Try.ntmps34
    go_wp2_with fail
    refine (c_rEmpty a _).mono ?_
    rintro e w1 ⟨rfl, hb⟩
    have HA := Aside0.mk hb
    obtain ⟨hc, hf⟩ := bcell hb
    clear hb
    go_wp2_with fail
    refine (c_rRight b _).mono ?_
    rintro e w1 ⟨rfl, hb⟩
    replace HA := Aside0.mk (below_step HA.out hb)
    clear hc hf hb
    obtain ⟨hc, hf⟩ := bcell HA.out
    go_wp2_with fail
    go_ret
    exact ⟨rfl, below_step HB.out HA.out⟩
  · rw [show decide (b.x ≤ a.x ∧ b.y ≤ a.y ∧ a.x + a.w ≤ b.x + b.w ∧ a.y + a.h ≤ b.y + b.h) = false from decide_eq_false (by omega)]
    have d0 : decide (b.x ≤ a.x) = true := decide_eq_true c0
    have d1 : decide (b.y ≤ a.y) = true := decide_eq_true c1
    have d2 : decide (a.x + a.w ≤ b.x + b.w) = false := decide_eq_false c2
    clear c0 c1 c2
    go_enter Try.func34, Try.ntmps34
    go_wp2_with fail
    refine (c_rEmpty a _).mono ?_
    rintro e w1 ⟨rfl, hb⟩
    have HA := Aside0.mk hb
    obtain ⟨hc, hf⟩ := bcell hb
    clear hb
    go_wp2_with fail
    refine (c_rRight b _).mono ?_
    rintro e w1 ⟨rfl, hb⟩
    replace HA := Aside0.mk (below_step HA.out hb)
    clear hc hf hb
    obtain ⟨hc, hf⟩ := bcell HA.out
    go_wp2_with fail
    go_ret
    exact ⟨rfl, below_step HB.out HA.out⟩
  · rw [show decide (b.x ≤ a.x ∧ b.y ≤ a.y ∧ a.x + a.w ≤ b.x + b.w ∧ a.y + a.h ≤ b.y + b.h) = false from decide_eq_false (by omega)]
    have d0 : decide (b.x ≤ a.x) = true := decide_eq_true c0
    have d1 : decide (b.y ≤ a.y) = true := decide_eq_true c1
    have d2 : decide (a.x + a.w ≤ b.x + b.w) = true := decide_eq_true c2
    have d3 : decide (a.y + a.h ≤ b.y + b.h) = false := decide_eq_false c3
    clear c0 c1 c2 c3
    go_enter Try.func34, Try.ntmps34
    go_wp2_with fail
    refine (c_rEmpty a _).mono ?_
    rintro e w1 ⟨rfl, hb⟩
    have HA := Aside0.mk hb
    obtain ⟨hc, hf⟩ := bcell hb
    clear hb
    go_wp2_with fail
    refine (c_rRight b _).mono ?_
    rintro e w1 ⟨rfl, hb⟩
    replace HA := Aside0.mk (below_step HA.out hb)
    clear hc hf hb
    obtain ⟨hc, hf⟩ := bcell HA.out
    go_wp2_with fail
    go_ret
    exact ⟨rfl, below_step HB.out HA.out⟩
  · rw [show decide (b.x ≤ a.x ∧ b.y ≤ a.y ∧ a.x + a.w ≤ b.x + b.w ∧ a.y + a.h ≤ b.y + b.h) = true from decide_eq_true (by omega)]
    have d0 : decide (b.x ≤ a.x) = true := decide_eq_true c0
    have d1 : decide (b.y ≤ a.y) = true := decide_eq_true c1
    have d2 : decide (a.x + a.w ≤ b.x + b.w) = true := decide_eq_true c2
    have d3 : decide (a.y + a.h ≤ b.y + b.h) = true := decide_eq_true c3
    clear c0 c1 c2 c3
    go_enter Try.func34, Try.ntmps34
    go_wp2_with fail
    refine (c_rEmpty a _).mono ?_
    rintro e w1 ⟨rfl, hb⟩
    have HA := Aside0.mk hb
    obtain ⟨hc, hf⟩ := bcell hb
    clear hb
    go_wp2_with fail
    refine (c_rRight b _).mono ?_
    rintro e w1 ⟨rfl, hb⟩
    replace HA := Aside0.mk (below_step HA.out hb)
    clear hc hf hb
    obtain ⟨hc, hf⟩ := bcell HA.out
    go_wp2_with fail
    go_ret
    exact ⟨rfl, below_step HB.out HA.out⟩
end Go.Proofs.Ytechhbmaamjllaa.Geo
