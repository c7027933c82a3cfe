/- Clients that stand free: the chapter's examples; FloatMoves. -/
import Derived.Test.YtajpnmiblepmkaaFlS

namespace Go.Proofs.Ytajpnmiblepmkaa.Fl
open Go.RowKit Go.Proofs.YtajpnmiblepmkaaW.PrintMore Go.Proofs.YtajpnmiblepmkaaW.PrintWords Go.Proofs.YtajpnmiblepmkaaW.PrintLast Go.Proofs.Ytajpnmiblepmkaa.Geo Go.Proofs.Ytajpnmiblepmkaa.Sz
set_option linter.unusedVariables false
set_option linter.unusedSimpArgs false

theorem eqR (d : Nat) (w : World) (x0 x1 x2 x3 y0 y1 y2 y3 : Int) :
    (Op.equalIn (d + 2) 23 (.agg #[.int .i64 x0, .int .i64 x1, .int .i64 x2, .int .i64 x3]) (.agg #[.int .i64 y0, .int .i64 y1, .int .i64 y2, .int .i64 y3])).run Try.prog w = .ok (x0 == y0 && (x1 == y1 && (x2 == y2 && (x3 == y3)))) w := by
  refine eqA_of Try.underlying23 (by kernel_rfl) ?_
  refine eqf_cons (by rfl) (by go_simp; rfl) (by go_simp; rfl) (by go_simp) ?_
  refine eqf_cons (by rfl) (by go_simp; rfl) (by go_simp; rfl) (by go_simp) ?_
  refine eqf_cons (by rfl) (by go_simp; rfl) (by go_simp; rfl) (by go_simp) ?_
  exact eqf_last (by rfl) (by go_simp; rfl) (by go_simp; rfl) (by go_simp)
attribute [local go_sem high] eqR
set_option maxHeartbeats 400000 in
theorem c_rect (a b c d : Int) (w : World) : Calls Try.prog 36 #[.int .i64 a, .int .i64 b, .int .i64 c, .int .i64 d] w fun e w' => e = .returned (.agg #[.int .i64 a, .int .i64 b, .int .i64 c, .int .i64 d]) ∧ Below w.heap.size w w' := by
  go_enter Try.func36, Try.ntmps36
  go_wp2
  exact bodyPost_ret (v := .agg #[.int .i64 a, .int .i64 b, .int .i64 c, .int .i64 d]) (by simp [results, Try.results36, go_sem]) rfl ⟨rfl, below_alloc (Below.refl _ _) _⟩
theorem start_ex : startP ⟨0, 0, 0, 0⟩ ⟨0, 0, 100, 100⟩ (hfree 0 0) 30 20 = ⟨35, 40, 30, 20⟩ := by
  have e : fit (hfree 0 0) (min 30 (workP ⟨0, 0, 100, 100⟩).w) (min 20 (workP ⟨0, 0, 100, 100⟩).h) = (30, 20, true) := fit_free (a := 0) (b := 0) (w := 30) (t := 20) (by decide) (by decide) (by decide) (by decide)
  unfold startP
  rw [e]
  rfl
theorem move_ex : moveP ⟨35, 40, 30, 20⟩ ⟨0, 0, 100, 100⟩ (-500) 0 = ⟨-14, 40, 30, 20⟩ := by kernel_rfl
set_option maxHeartbeats 4000000 in
set_option maxRecDepth 100000 in
theorem c_awake (W : World) : Calls Try.prog 11 #[] W fun e w' => e = .returned (.bool true) ∧ Below W.heap.size W w' := by
  have KS := c_start ⟨0, 0, 0, 0⟩ ⟨0, 0, 100, 100⟩ (hfree 0 0) 30 20
  rw [start_ex] at KS
  have KS' := Aside0.mk (show ∀ w, Calls Try.prog 9 #[.agg #[.int .i64 0, .int .i64 0, .int .i64 0, .int .i64 0], .agg #[.int .i64 0, .int .i64 0, .int .i64 100, .int .i64 100], .agg #[.int .i64 0, .int .i64 0, .int .i64 0, .int .i64 0, .int .i64 0, .int .i64 0, .int .i64 0, .int .i64 0, .int .i64 0, .int .i64 0, .int .i64 0, .int .i64 0], .int .i64 30, .int .i64 20] w fun e w' => e = .returned (.agg #[.int .i64 35, .int .i64 40, .int .i64 30, .int .i64 20]) ∧ Below w.heap.size w w' from KS)
  have KM := c_move ⟨35, 40, 30, 20⟩ ⟨0, 0, 100, 100⟩ (-500) 0
  rw [move_ex] at KM
  have KM' := Aside0.mk (show ∀ w, Calls Try.prog 12 #[.agg #[.int .i64 35, .int .i64 40, .int .i64 30, .int .i64 20], .agg #[.int .i64 0, .int .i64 0, .int .i64 100, .int .i64 100], .int .i64 (-500), .int .i64 0] w fun e w' => e = .returned (.agg #[.int .i64 (-14), .int .i64 40, .int .i64 30, .int .i64 20]) ∧ Below w.heap.size w w' from KM)
  clear KS KM
  have HB := Aside0.mk (Below.refl W.heap.size W)
  go_enter Try.func11, Try.ntmps11
  go_wp2_with fail
  refine (c_rect 0 0 0 0 _).mono ?_
  rintro e w1 ⟨rfl, hb⟩
  replace HB := Aside0.mk (below_step HB.out hb)
  clear hb
  go_wp2_with fail
  refine (c_rect 0 0 100 100 _).mono ?_
  rintro e w1 ⟨rfl, hb⟩
  replace HB := Aside0.mk (below_step HB.out hb)
  clear hb
  go_wp2_with fail
  refine (KS'.out _).mono ?_
  rintro e w1 ⟨rfl, hb⟩
  replace HB := Aside0.mk (below_step HB.out hb)
  clear hb
  go_wp2_with fail
  refine (c_rect 35 40 30 20 _).mono ?_
  rintro e w1 ⟨rfl, hb⟩
  replace HB := Aside0.mk (below_step HB.out hb)
  clear hb
  go_wp2_with fail
  refine (c_rect 35 40 30 20 _).mono ?_
  rintro e w1 ⟨rfl, hb⟩
  replace HB := Aside0.mk (below_step HB.out hb)
  clear hb
  go_wp2_with fail
  refine (c_rect 0 0 100 100 _).mono ?_
  rintro e w1 ⟨rfl, hb⟩
  replace HB := Aside0.mk (below_step HB.out hb)
  clear hb
  go_wp2_with fail
  refine (KM'.out _).mono ?_
  rintro e w1 ⟨rfl, hb⟩
  replace HB := Aside0.mk (below_step HB.out hb)
  clear hb
  go_wp2_with fail
  refine (c_rect (-14) 40 30 20 _).mono ?_
  rintro e w1 ⟨rfl, hb⟩
  replace HB := Aside0.mk (below_step HB.out hb)
  clear hb
  go_wp2_with fail
  go_ret
  exact ⟨rfl, HB.out⟩
def FlLT.T1 : Bool × List (List Nat × List Nat) := (true, [([], []), ([], []), ([], []), ([], []), ([0, 1, 2, 3], [0, 1, 2, 3]), ([], []), ([], []), ([], []), ([], []), ([5, 6, 7, 8, 4], [5, 6, 7, 8]), ([4, 9], [4, 9]), ([10, 9], [10]), ([11, 11], [11]), ([11, 12], [11, 12]), ([13, 12, 0, 1, 2, 3, 4, 5, 6, 7, 8, 9, 10, 11, 12, 13], [13])])
def FlLT.B1 : List Nat := [0, 0, 0, 0, 15, 0, 0, 0, 0, 511, 1023, 2047, 4095, 8191, 16383]
theorem FlLT.tab1 : rtab .any (opsOf Try.f4 1) = FlLT.T1 := by kernel_rfl
theorem FlLT.bits1 : waitsOk FlLT.T1.2 FlLT.B1 = true := by kernel_rfl

set_option maxHeartbeats 8000000 in
set_option maxRecDepth 100000 in
theorem moves_any (r k : Rc) (dx dy : Int) (hx : I64 dx) (hy : I64 dy) (W : World) : Calls Try.prog 4 #[.agg #[.int .i64 r.x, .int .i64 r.y, .int .i64 r.w, .int .i64 r.h], .agg #[.int .i64 k.x, .int .i64 k.y, .int .i64 k.w, .int .i64 k.h], .int .i64 dx, .int .i64 dy] W fun e w' => e = .returned (.bool true) ∧ Below W.heap.size W w' := by
  have K1 := c_move r k dx dy
  have K2 := c_rMove r k dx dy hx hy
  obtain ⟨L, hL⟩ : ∃ L, L = moveP r k dx dy := ⟨_, rfl⟩
  rw [← hL] at K1 K2
  replace K1 := Aside0.mk K1; replace K2 := Aside0.mk K2
  clear hL
  go_enter Try.func4, Try.ntmps4
  go_wp2_with fail
  have qB := below_alloc (below_alloc (Below.refl W.heap.size W) (.cells #[.int .i64 r.x, .int .i64 r.y, .int .i64 r.w, .int .i64 r.h] 23 (0, 0))) (.cells #[.int .i64 k.x, .int .i64 k.y, .int .i64 k.w, .int .i64 k.h] 23 (0, 0))
  have B4 := Aside0.mk (show ((W.alloc (.cells #[.int .i64 r.x, .int .i64 r.y, .int .i64 r.w, .int .i64 r.h] 23 (0, 0))).alloc (.cells #[.int .i64 k.x, .int .i64 k.y, .int .i64 k.w, .int .i64 k.h] 23 (0, 0))).heap[W.heap.size]? = some (.cells #[.int .i64 r.x, .int .i64 r.y, .int .i64 r.w, .int .i64 r.h] 23 (0, 0)) from (by (repeat (first | exact new_at (by simp only [World.size_alloc, World.size_drew]; done) | refine blk_drew ?_ | refine blk_alloc ?_ _))))
  have B5 := Aside0.mk (show ((W.alloc (.cells #[.int .i64 r.x, .int .i64 r.y, .int .i64 r.w, .int .i64 r.h] 23 (0, 0))).alloc (.cells #[.int .i64 k.x, .int .i64 k.y, .int .i64 k.w, .int .i64 k.h] 23 (0, 0))).heap[W.heap.size + 1]? = some (.cells #[.int .i64 k.x, .int .i64 k.y, .int .i64 k.w, .int .i64 k.h] 23 (0, 0)) from (by (repeat (first | exact new_at (by simp only [World.size_alloc, World.size_drew]; done) | refine blk_drew ?_ | refine blk_alloc ?_ _))))
  generalize hw2 : (W.alloc (.cells #[.int .i64 r.x, .int .i64 r.y, .int .i64 r.w, .int .i64 r.h] 23 (0, 0))).alloc (.cells #[.int .i64 k.x, .int .i64 k.y, .int .i64 k.w, .int .i64 k.h] 23 (0, 0)) = w2 at qB B4 B5 ⊢
  have p0 : w2.cell? ⟨W.heap.size, 0, none⟩ = some (.int .i64 (r.x)) := (blk_cell B4.out 0).trans rfl
  have fp0 := blk_frozen B4.out 0
  have p1 : w2.cell? ⟨W.heap.size, 1, none⟩ = some (.int .i64 (r.y)) := (blk_cell B4.out 1).trans rfl
  have fp1 := blk_frozen B4.out 1
  have p2 : w2.cell? ⟨W.heap.size, 2, none⟩ = some (.int .i64 (r.w)) := (blk_cell B4.out 2).trans rfl
  have fp2 := blk_frozen B4.out 2
  have p3 : w2.cell? ⟨W.heap.size, 3, none⟩ = some (.int .i64 (r.h)) := (blk_cell B4.out 3).trans rfl
  have fp3 := blk_frozen B4.out 3
  have k0 : w2.cell? ⟨W.heap.size + 1, 0, none⟩ = some (.int .i64 (k.x)) := (blk_cell B5.out 0).trans rfl
  have fk0 := blk_frozen B5.out 0
  have k1 : w2.cell? ⟨W.heap.size + 1, 1, none⟩ = some (.int .i64 (k.y)) := (blk_cell B5.out 1).trans rfl
  have fk1 := blk_frozen B5.out 1
  have k2 : w2.cell? ⟨W.heap.size + 1, 2, none⟩ = some (.int .i64 (k.w)) := (blk_cell B5.out 2).trans rfl
  have fk2 := blk_frozen B5.out 2
  have k3 : w2.cell? ⟨W.heap.size + 1, 3, none⟩ = some (.int .i64 (k.h)) := (blk_cell B5.out 3).trans rfl
  have fk3 := blk_frozen B5.out 3
  clear B4 B5 hw2
  refine start_ (n := 15) (S := fun w' => w'.cell? ⟨W.heap.size, 0, none⟩ = some (.int .i64 r.x) ∧ w'.cell? ⟨W.heap.size, 1, none⟩ = some (.int .i64 r.y) ∧ w'.cell? ⟨W.heap.size, 2, none⟩ = some (.int .i64 r.w) ∧ w'.cell? ⟨W.heap.size, 3, none⟩ = some (.int .i64 r.h) ∧ w'.cell? ⟨W.heap.size + 1, 0, none⟩ = some (.int .i64 k.x) ∧ w'.cell? ⟨W.heap.size + 1, 1, none⟩ = some (.int .i64 k.y) ∧ w'.cell? ⟨W.heap.size + 1, 2, none⟩ = some (.int .i64 k.w) ∧ w'.cell? ⟨W.heap.size + 1, 3, none⟩ = some (.int .i64 k.h)) (ds := []) #[false, false, false, false, false, false, false, false, false, false, false, false, false, false, false] (by kernel_rfl) rfl rfl ⟨p0, p1, p2, p3, k0, k1, k2, k3⟩ (fun hHeld => ?_)
  refine with_tabW FlLT.tab1 FlLT.bits1 (fun HT_ HW_ => ?_)
  have qB0 := below_drew qB
  clear qB
  have qB := qB0
  clear qB0
  generalize w2.drew = wr at qB hHeld ⊢
  refine take_ (i := 0) (N := some 9) (v := ?_) (a' := ?_) #[true, false, false, false, false, false, false, false, false, false, false, false, false, false, false] rfl rfl (take_ofW HT_.out HW_.out (by kernel_rfl)) (fun _ _ _ h => h) (Or.inl ⟨by rfl, ?_⟩) hHeld ?_ ?_
  rotate_left
  · rintro w' ⟨s0, s1, s2, s3, s4, s5, s6, s7⟩
    go_simp
    with_reducible rfl
  rotate_left
  · simp only [Act.put, List.setIfInBounds_toArray, List.set_cons_zero, List.set_cons_succ, i64_w, i32_w]
    rfl
  refine take_ (i := 1) (N := some 10) (v := ?_) (a' := ?_) #[true, true, false, false, false, false, false, false, false, false, false, false, false, false, false] rfl rfl (take_ofW HT_.out HW_.out (by kernel_rfl)) (fun _ _ _ h => h) (Or.inl ⟨by rfl, ?_⟩) hHeld ?_ ?_
  rotate_left
  · rintro w' ⟨s0, s1, s2, s3, s4, s5, s6, s7⟩
    go_simp
    with_reducible rfl
  rotate_left
  · simp only [Act.put, List.setIfInBounds_toArray, List.set_cons_zero, List.set_cons_succ, i64_w, i32_w]
    rfl
  refine pure_ (i := 2) (N := some 11) (v := ?_) (a' := ?_) #[true, true, true, false, false, false, false, false, false, false, false, false, false, false, false] rfl rfl (any_of HT_.out (by kernel_rfl)) (fun _ _ _ h => h) (Or.inl ⟨by rfl, ?_⟩) ?_ ?_
  rotate_left
  · intro w'
    go_simp
    with_reducible rfl
  rotate_left
  · simp only [Act.put, List.setIfInBounds_toArray, List.set_cons_zero, List.set_cons_succ, i64_w, i32_w]
    rfl
  refine pure_ (i := 3) (N := some 12) (v := ?_) (a' := ?_) #[true, true, true, true, false, false, false, false, false, false, false, false, false, false, false] rfl rfl (any_of HT_.out (by kernel_rfl)) (fun _ _ _ h => h) (Or.inl ⟨by rfl, ?_⟩) ?_ ?_
  rotate_left
  · intro w'
    go_simp
    with_reducible rfl
  rotate_left
  · simp only [Act.put, List.setIfInBounds_toArray, List.set_cons_zero, List.set_cons_succ, i64_w, i32_w]
    rfl
  refine take_ (i := 5) (N := some 14) (v := ?_) (a' := ?_) #[true, true, true, true, false, true, false, false, false, false, false, false, false, false, false] rfl rfl (take_ofW HT_.out HW_.out (by kernel_rfl)) (fun _ _ _ h => h) (Or.inl ⟨by rfl, ?_⟩) hHeld ?_ ?_
  rotate_left
  · rintro w' ⟨s0, s1, s2, s3, s4, s5, s6, s7⟩
    go_simp
    with_reducible rfl
  rotate_left
  · simp only [Act.put, List.setIfInBounds_toArray, List.set_cons_zero, List.set_cons_succ, i64_w, i32_w]
    rfl
  refine take_ (i := 6) (N := some 15) (v := ?_) (a' := ?_) #[true, true, true, true, false, true, true, false, false, false, false, false, false, false, false] rfl rfl (take_ofW HT_.out HW_.out (by kernel_rfl)) (fun _ _ _ h => h) (Or.inl ⟨by rfl, ?_⟩) hHeld ?_ ?_
  rotate_left
  · rintro w' ⟨s0, s1, s2, s3, s4, s5, s6, s7⟩
    go_simp
    with_reducible rfl
  rotate_left
  · simp only [Act.put, List.setIfInBounds_toArray, List.set_cons_zero, List.set_cons_succ, i64_w, i32_w]
    rfl
  refine pure_ (i := 7) (N := some 16) (v := ?_) (a' := ?_) #[true, true, true, true, false, true, true, true, false, false, false, false, false, false, false] rfl rfl (any_of HT_.out (by kernel_rfl)) (fun _ _ _ h => h) (Or.inl ⟨by rfl, ?_⟩) ?_ ?_
  rotate_left
  · intro w'
    go_simp
    with_reducible rfl
  rotate_left
  · simp only [Act.put, List.setIfInBounds_toArray, List.set_cons_zero, List.set_cons_succ, i64_w, i32_w]
    rfl
  refine pure_ (i := 8) (N := some 17) (v := ?_) (a' := ?_) #[true, true, true, true, false, true, true, true, true, false, false, false, false, false, false] rfl rfl (any_of HT_.out (by kernel_rfl)) (fun _ _ _ h => h) (Or.inl ⟨by rfl, ?_⟩) ?_ ?_
  rotate_left
  · intro w'
    go_simp
    with_reducible rfl
  rotate_left
  · simp only [Act.put, List.setIfInBounds_toArray, List.set_cons_zero, List.set_cons_succ, i64_w, i32_w]
    rfl
  refine one_ (i := 4) (N := some 13) #[true, true, true, true, true, true, true, true, true, false, false, false, false, false, false] rfl rfl (one_of HT_.out (by kernel_rfl)) (by decide) (fun K hK => ?_)
  refine goes_ Try.func12 (by kernel_rfl) rfl #[.agg #[.int .i64 r.x, .int .i64 r.y, .int .i64 r.w, .int .i64 r.h], .agg #[.int .i64 k.x, .int .i64 k.y, .int .i64 k.w, .int .i64 k.h], .int .i64 dx, .int .i64 dy] (by rfl) rfl rfl (by (try simp only [List.map_toArray, List.map_cons, List.map_nil]); first | done | rfl) ?_
  refine (K1.out _).mono ?_
  rintro e wn ⟨rfl, hb⟩
  refine ⟨_, rfl, ?_⟩
  obtain ⟨s0, s1, s2, s3, s4, s5, s6, s7⟩ := hHeld
  replace s0 := cell_held hb s0
  replace s1 := cell_held hb s1
  replace s2 := cell_held hb s2
  replace s3 := cell_held hb s3
  replace s4 := cell_held hb s4
  replace s5 := cell_held hb s5
  replace s6 := cell_held hb s6
  replace s7 := cell_held hb s7
  replace qB := below_step (w := W) qB hb
  clear hb
  refine hK.out _ _ ⟨s0, s1, s2, s3, s4, s5, s6, s7⟩ (fun hHeld => ?_)
  clear hK K s0 s1 s2 s3 s4 s5 s6 s7
  refine norm_ (a' := ?_) ?_ ?_
  rotate_left
  · show Act.put _ (some 13) _ = _
    simp only [Act.put, List.setIfInBounds_toArray, List.set_cons_zero, List.set_cons_succ, i64_w, i32_w]
    rfl
  refine one_ (i := 9) (N := some 18) #[true, true, true, true, true, true, true, true, true, true, false, false, false, false, false] rfl rfl (one_of HT_.out (by kernel_rfl)) (by decide) (fun K hK => ?_)
  refine goes_ Try.func13 (by kernel_rfl) rfl #[.agg #[.int .i64 r.x, .int .i64 r.y, .int .i64 r.w, .int .i64 r.h], .agg #[.int .i64 k.x, .int .i64 k.y, .int .i64 k.w, .int .i64 k.h], .int .i64 dx, .int .i64 dy] (by rfl) rfl rfl (by (try simp only [List.map_toArray, List.map_cons, List.map_nil]); first | done | rfl) ?_
  refine (K2.out _).mono ?_
  rintro e wn ⟨rfl, hb⟩
  refine ⟨_, rfl, ?_⟩
  obtain ⟨s0, s1, s2, s3, s4, s5, s6, s7⟩ := hHeld
  replace s0 := cell_held hb s0
  replace s1 := cell_held hb s1
  replace s2 := cell_held hb s2
  replace s3 := cell_held hb s3
  replace s4 := cell_held hb s4
  replace s5 := cell_held hb s5
  replace s6 := cell_held hb s6
  replace s7 := cell_held hb s7
  replace qB := below_step (w := W) qB hb
  clear hb
  refine hK.out _ _ ⟨s0, s1, s2, s3, s4, s5, s6, s7⟩ (fun hHeld => ?_)
  clear hK K s0 s1 s2 s3 s4 s5 s6 s7
  refine norm_ (a' := ?_) ?_ ?_
  rotate_left
  · show Act.put _ (some 18) _ = _
    simp only [Act.put, List.setIfInBounds_toArray, List.set_cons_zero, List.set_cons_succ, i64_w, i32_w]
    rfl
  refine pure_ (i := 10) (N := some 19) (v := ?_) (a' := ?_) #[true, true, true, true, true, true, true, true, true, true, true, false, false, false, false] rfl rfl (any_of HT_.out (by kernel_rfl)) (fun _ _ _ h => h) (Or.inl ⟨by rfl, ?_⟩) ?_ ?_
  rotate_left
  · intro w'
    go_simp
    with_reducible rfl
  rotate_left
  · simp only [Act.put, List.setIfInBounds_toArray, List.set_cons_zero, List.set_cons_succ, i64_w, i32_w]
    rfl
  refine pure_ (i := 11) (N := some 20) (v := ?_) (a' := ?_) #[true, true, true, true, true, true, true, true, true, true, true, true, false, false, false] rfl rfl (any_of HT_.out (by kernel_rfl)) (fun _ _ _ h => h) (Or.inl ⟨by rfl, ?_⟩) ?_ ?_
  rotate_left
  · intro w'
    go_simp
    with_reducible rfl
  rotate_left
  · simp only [Act.put, List.setIfInBounds_toArray, List.set_cons_zero, List.set_cons_succ, i64_w, i32_w]
    rfl
  refine one_ (i := 12) (N := some 21) #[true, true, true, true, true, true, true, true, true, true, true, true, true, false, false] rfl rfl (one_of HT_.out (by kernel_rfl)) (by decide) (fun K hK => ?_)
  refine goes_ Try.func11 (by kernel_rfl) rfl #[] (by rfl) rfl rfl (by (try simp only [List.map_toArray, List.map_cons, List.map_nil]); first | done | rfl) ?_
  refine (c_awake _).mono ?_
  rintro e wn ⟨rfl, hb⟩
  refine ⟨_, rfl, ?_⟩
  obtain ⟨s0, s1, s2, s3, s4, s5, s6, s7⟩ := hHeld
  replace s0 := cell_held hb s0
  replace s1 := cell_held hb s1
  replace s2 := cell_held hb s2
  replace s3 := cell_held hb s3
  replace s4 := cell_held hb s4
  replace s5 := cell_held hb s5
  replace s6 := cell_held hb s6
  replace s7 := cell_held hb s7
  replace qB := below_step (w := W) qB hb
  clear hb
  refine hK.out _ _ ⟨s0, s1, s2, s3, s4, s5, s6, s7⟩ (fun hHeld => ?_)
  clear hK K s0 s1 s2 s3 s4 s5 s6 s7
  refine norm_ (a' := ?_) ?_ ?_
  rotate_left
  · show Act.put _ (some 21) _ = _
    simp only [Act.put, List.setIfInBounds_toArray, List.set_cons_zero, List.set_cons_succ, i64_w, i32_w]
    rfl
  refine pure_ (i := 13) (N := some 22) (v := ?_) (a' := ?_) #[true, true, true, true, true, true, true, true, true, true, true, true, true, true, false] rfl rfl (any_of HT_.out (by kernel_rfl)) (fun _ _ _ h => h) (Or.inl ⟨by rfl, ?_⟩) ?_ ?_
  rotate_left
  · intro w'
    go_simp
    with_reducible rfl
  rotate_left
  · simp only [Act.put, List.setIfInBounds_toArray, List.set_cons_zero, List.set_cons_succ, i64_w, i32_w]
    rfl
  refine pure_ (i := 14) (N := some 8) (v := ?_) (a' := ?_) #[true, true, true, true, true, true, true, true, true, true, true, true, true, true, true] rfl rfl (any_of HT_.out (by kernel_rfl)) (fun _ _ _ h => h) (Or.inl ⟨by rfl, ?_⟩) ?_ ?_
  rotate_left
  · intro w'
    go_simp
    with_reducible rfl
  rotate_left
  · simp only [Act.put, List.setIfInBounds_toArray, List.set_cons_zero, List.set_cons_succ, i64_w, i32_w]
    rfl
  refine done_ (done_of HT_.out (by kernel_rfl)) ?_
  go_wp2
  go_ret
  exact ⟨rfl, qB⟩
theorem FloatMoves_law (a0_0 : Int) (a0_1 : Int) (a0_2 : Int) (a0_3 : Int) (a1_0 : Int) (a1_1 : Int) (a1_2 : Int) (a1_3 : Int) (a2 : Int) (a3 : Int) (W : World) (w0_0 : (Lit.int .i64 a0_0).wf = true) (w0_1 : (Lit.int .i64 a0_1).wf = true) (w0_2 : (Lit.int .i64 a0_2).wf = true) (w0_3 : (Lit.int .i64 a0_3).wf = true) (w1_0 : (Lit.int .i64 a1_0).wf = true) (w1_1 : (Lit.int .i64 a1_1).wf = true) (w1_2 : (Lit.int .i64 a1_2).wf = true) (w1_3 : (Lit.int .i64 a1_3).wf = true) (w2 : (Lit.int .i64 a2).wf = true) (w3 : (Lit.int .i64 a3).wf = true) :
    Calls Try.prog 4 #[.agg #[.int .i64 a0_0, .int .i64 a0_1, .int .i64 a0_2, .int .i64 a0_3], .agg #[.int .i64 a1_0, .int .i64 a1_1, .int .i64 a1_2, .int .i64 a1_3], .int .i64 a2, .int .i64 a3] W fun e w' => e = .returned (.bool true) ∧ Below W.heap.size W w' :=
  moves_any ⟨a0_0, a0_1, a0_2, a0_3⟩ ⟨a1_0, a1_1, a1_2, a1_3⟩ a2 a3 (I64.of w2) (I64.of w3) W
end Go.Proofs.Ytajpnmiblepmkaa.Fl
