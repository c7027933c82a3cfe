/- Clients that stand free: the contracts of geom's Keep and of the program's Start, and the chapter's examples. -/
import Derived.Test.YtajpnmiblepmkaaFlM
import Derived.Test.YtajpnmiblepmkaaWEqStruct

namespace Go.Proofs.Ytajpnmiblepmkaa.Fl
open Go.RowKit Go.Proofs.YtajpnmiblepmkaaW.PrintMore Go.Proofs.YtajpnmiblepmkaaW.PrintWords Go.Proofs.YtajpnmiblepmkaaW.PrintLast Go.Proofs.Ytajpnmiblepmkaa.Geo Go.Proofs.Ytajpnmiblepmkaa.Sz
set_option linter.unusedVariables false
set_option linter.unusedSimpArgs false
attribute [local go_sem] max2_int min2_int max_two min_two max_three min_three

theorem put4 {w : World} {g : Nat} {t : TypeId} {c0 c1 c2 c3 : Value} (h : w.heap[g]? = some (.cells #[c0, c1, c2, c3] t (0, 0))) (v0 v1 v2 v3 : Value) :
    (((((w).setCell ⟨g, 0, none⟩ v0).setCell ⟨g, 1, none⟩ v1).setCell ⟨g, 2, none⟩ v2).setCell ⟨g, 3, none⟩ v3).heap[g]? = some (.cells #[v0, v1, v2, v3] t (0, 0)) := by
  have e := blk_set (blk_set (blk_set (blk_set (h) 0 v0) 1 v1) 2 v2) 3 v3
  simp only [List.setIfInBounds_toArray, List.set_cons_zero, List.set_cons_succ] at e
  exact e
theorem put4_far {w : World} {g g' : Nat} {t : TypeId} {cs : Array Value} (h : w.heap[g']? = some (.cells cs t (0, 0))) (hne : g' ≠ g) (v0 v1 v2 v3 : Value) : (((((w).setCell ⟨g, 0, none⟩ v0).setCell ⟨g, 1, none⟩ v1).setCell ⟨g, 2, none⟩ v2).setCell ⟨g, 3, none⟩ v3).heap[g']? = some (.cells cs t (0, 0)) :=
  blk_far (blk_far (blk_far (blk_far (h) (p := ⟨g, 0, none⟩) hne v0) (p := ⟨g, 1, none⟩) hne v1) (p := ⟨g, 2, none⟩) hne v2) (p := ⟨g, 3, none⟩) hne v3
set_option maxHeartbeats 1000000 in
theorem c_keep (p n i m : Int) (h : sideB p n = true) (h' : sideB i m = true) (w : World) : Calls Try.prog 56 #[.int .i64 p, .int .i64 n, .int .i64 i, .int .i64 m] w (RetI (keepI p n i m) w) := by
  unfold RetI
  obtain ⟨a1, a2, a3, a4⟩ := sideB_true.1 h
  obtain ⟨b1, b2, b3, b4⟩ := sideB_true.1 h'
  have e : ∃ j, keepI p n i m = j ∧ ∃ q, (if i + m - n < p then i + m - n else p) = q ∧ (if i < q then q else i) = j := ⟨_, rfl, _, rfl, by unfold keepI; split <;> split <;> omega⟩
  obtain ⟨j, e1, q, e2, e3⟩ := e
  rw [e1]
  clear e1 h h'
  go_enter Try.func56, Try.ntmps56
  go_wp2
  go_ret
  exact ⟨rfl, Below.refl _ _⟩
def FlKT.T3 : Bool × List (List Nat × List Nat) := (true, [([], []), ([], []), ([1], [1]), ([], []), ([3], [3]), ([], []), ([5], [5]), ([], []), ([7], [7]), ([2, 4, 6, 8], [2, 4, 6, 8]), ([], []), ([10], [10]), ([9, 11], [9, 11]), ([], []), ([13], [13]), ([], []), ([15], [15]), ([], []), ([17], [17]), ([], []), ([19], [19]), ([14, 16, 18, 20, 9], [14, 16, 18, 20]), ([], []), ([22], [22]), ([21, 23], [21, 23]), ([0, 12, 24, 21], [0, 12, 24]), ([25, 25, 0, 1, 2, 3, 4, 5, 6, 7, 8, 9, 10, 11, 12, 13, 14, 15, 16, 17, 18, 19, 20, 21, 22, 23, 24, 25], [25])])
def FlKT.B3 : List Nat := [0, 0, 2, 0, 8, 0, 32, 0, 128, 510, 0, 1024, 4094, 0, 8192, 0, 32768, 0, 131072, 0, 524288, 2089982, 0, 4194304, 16770046, 33554431, 67108863]
theorem FlKT.tab3 : rtab .any (opsOf Try.f27 3) = FlKT.T3 := by kernel_rfl
theorem FlKT.bits3 : waitsOk FlKT.T3.2 FlKT.B3 = true := by kernel_rfl

set_option maxHeartbeats 8000000 in
set_option maxRecDepth 100000 in
theorem c_gKeep (a b : Rc) (W : World) : Calls Try.prog 27 #[.agg #[.int .i64 a.x, .int .i64 a.y, .int .i64 a.w, .int .i64 a.h], .agg #[.int .i64 b.x, .int .i64 b.y, .int .i64 b.w, .int .i64 b.h]] W (RetR (keepP a b) W) := by
  unfold RetR
  have K1 := c_gRight a
  have K2 := c_gRight b
  obtain ⟨L, hL⟩ : ∃ L, L = keepP a b := ⟨_, rfl⟩
  have hK : L = if rightB a && rightB b then shiftP a (keepI a.x a.w b.x b.w - a.x) (keepI a.y a.h b.y b.h - a.y) else z4 := hL
  rw [← hL]
  clear hL
  by_cases h : rightB a = true
  · rw [h] at K1 hK
    by_cases h' : rightB b = true
    · rw [h'] at K2 hK
      rw [if_pos (show (true && true) = true from rfl)] at hK
      have g1 : sideB a.x a.w = true ∧ sideB a.y a.h = true := by simpa [rightB] using h
      have g2 : sideB b.x b.w = true ∧ sideB b.y b.h = true := by simpa [rightB] using h'
      have s1 := sideB_true.1 g1.1
      have s2 := sideB_true.1 g1.2
      have s3 := sideB_true.1 g2.1
      have s4 := sideB_true.1 g2.2
      have KA := c_keep a.x a.w b.x b.w g1.1 g2.1
      have KB := c_keep a.y a.h b.y b.h g1.2 g2.2
      have KS := c_gShift a (keepI a.x a.w b.x b.w - a.x) (keepI a.y a.h b.y b.h - a.y)
      rw [← hK] at KS
      rw [← wrap64_i (n := keepI a.x a.w b.x b.w - a.x) (by unfold keepI; omega) (by unfold keepI; omega), ← wrap64_i (n := keepI a.y a.h b.y b.h - a.y) (by unfold keepI; omega) (by unfold keepI; omega)] at KS
      obtain ⟨kx, hkx⟩ : ∃ k, k = keepI a.x a.w b.x b.w := ⟨_, rfl⟩
      obtain ⟨ky, hky⟩ : ∃ k, k = keepI a.y a.h b.y b.h := ⟨_, rfl⟩
      rw [← hkx] at KA KS
      rw [← hky] at KB KS
      replace K1 := Aside0.mk K1; replace K2 := Aside0.mk K2; replace KA := Aside0.mk KA; replace KB := Aside0.mk KB; replace KS := Aside0.mk KS
      clear h h' hK g1 g2 s1 s2 s3 s4 hkx hky
      go_enter Try.func27, Try.ntmps27
      go_wp2_with fail
      refine (K1.out _).mono ?_
      rintro e w1 ⟨rfl, hb⟩
      have B2 := Aside0.mk (blk_below (g := W.heap.size) (o := .cells #[.int .i64 a.x, .int .i64 a.y, .int .i64 a.w, .int .i64 a.h] 23 (0, 0)) (by (repeat (first | exact new_at (by simp only [World.size_alloc, World.size_drew]; done) | refine blk_drew ?_ | refine blk_alloc ?_ _))) hb)
      have B3 := Aside0.mk (blk_below (g := W.heap.size + 1) (o := .cells #[.int .i64 b.x, .int .i64 b.y, .int .i64 b.w, .int .i64 b.h] 23 (0, 0)) (by (repeat (first | exact new_at (by simp only [World.size_alloc, World.size_drew]; done) | refine blk_drew ?_ | refine blk_alloc ?_ _))) hb)
      have B4 := Aside0.mk (blk_below (g := W.heap.size + 1 + 1) (o := .cells #[.int .i64 0, .int .i64 0, .int .i64 0, .int .i64 0] 23 (0, 0)) (by (repeat (first | exact new_at (by simp only [World.size_alloc, World.size_drew]; done) | refine blk_drew ?_ | refine blk_alloc ?_ _))) hb)
      have qB := below_step (w := W) (by (repeat (first | exact Below.refl _ _ | apply below_alloc))) hb
      clear hb
      have k0 : w1.cell? ⟨W.heap.size + 1, 0, none⟩ = some (.int .i64 (b.x)) := (blk_cell B3.out 0).trans rfl
      have fk0 := blk_frozen B3.out 0
      have k1 : w1.cell? ⟨W.heap.size + 1, 1, none⟩ = some (.int .i64 (b.y)) := (blk_cell B3.out 1).trans rfl
      have fk1 := blk_frozen B3.out 1
      have k2 : w1.cell? ⟨W.heap.size + 1, 2, none⟩ = some (.int .i64 (b.w)) := (blk_cell B3.out 2).trans rfl
      have fk2 := blk_frozen B3.out 2
      have k3 : w1.cell? ⟨W.heap.size + 1, 3, none⟩ = some (.int .i64 (b.h)) := (blk_cell B3.out 3).trans rfl
      have fk3 := blk_frozen B3.out 3
      go_wp2_with fail
      refine (K2.out _).mono ?_
      rintro e w4 ⟨rfl, hb⟩
      clear k0 fk0 k1 fk1 k2 fk2 k3 fk3
      replace B2 := Aside0.mk (blk_below B2.out hb)
      replace B3 := Aside0.mk (blk_below B3.out hb)
      replace B4 := Aside0.mk (blk_below B4.out hb)
      replace qB := below_step (w := W) qB hb
      clear hb
      have p0 : w4.cell? ⟨W.heap.size, 0, none⟩ = some (.int .i64 (a.x)) := (blk_cell B2.out 0).trans rfl
      have fp0 := blk_frozen B2.out 0
      have p1 : w4.cell? ⟨W.heap.size, 1, none⟩ = some (.int .i64 (a.y)) := (blk_cell B2.out 1).trans rfl
      have fp1 := blk_frozen B2.out 1
      have p2 : w4.cell? ⟨W.heap.size, 2, none⟩ = some (.int .i64 (a.w)) := (blk_cell B2.out 2).trans rfl
      have fp2 := blk_frozen B2.out 2
      have p3 : w4.cell? ⟨W.heap.size, 3, none⟩ = some (.int .i64 (a.h)) := (blk_cell B2.out 3).trans rfl
      have fp3 := blk_frozen B2.out 3
      have k0 : w4.cell? ⟨W.heap.size + 1, 0, none⟩ = some (.int .i64 (b.x)) := (blk_cell B3.out 0).trans rfl
      have fk0 := blk_frozen B3.out 0
      have k1 : w4.cell? ⟨W.heap.size + 1, 1, none⟩ = some (.int .i64 (b.y)) := (blk_cell B3.out 1).trans rfl
      have fk1 := blk_frozen B3.out 1
      have k2 : w4.cell? ⟨W.heap.size + 1, 2, none⟩ = some (.int .i64 (b.w)) := (blk_cell B3.out 2).trans rfl
      have fk2 := blk_frozen B3.out 2
      have k3 : w4.cell? ⟨W.heap.size + 1, 3, none⟩ = some (.int .i64 (b.h)) := (blk_cell B3.out 3).trans rfl
      have fk3 := blk_frozen B3.out 3
      go_wp2_with fail
      refine start_ (n := 27) (S := fun w' => w'.cell? ⟨W.heap.size, 0, none⟩ = some (.int .i64 a.x) ∧ w'.cell? ⟨W.heap.size, 1, none⟩ = some (.int .i64 a.y) ∧ w'.cell? ⟨W.heap.size, 2, none⟩ = some (.int .i64 a.w) ∧ w'.cell? ⟨W.heap.size, 3, none⟩ = some (.int .i64 a.h) ∧ w'.cell? ⟨W.heap.size + 1, 0, none⟩ = some (.int .i64 b.x) ∧ w'.cell? ⟨W.heap.size + 1, 1, none⟩ = some (.int .i64 b.y) ∧ w'.cell? ⟨W.heap.size + 1, 2, none⟩ = some (.int .i64 b.w) ∧ w'.cell? ⟨W.heap.size + 1, 3, none⟩ = some (.int .i64 b.h)) (ds := []) #[false, false, false, false, false, false, false, false, false, false, false, false, false, false, false, false, false, false, false, false, false, false, false, false, false, false, false] (by kernel_rfl) rfl rfl ⟨p0, p1, p2, p3, k0, k1, k2, k3⟩ (fun hHeld => ?_)
      refine with_tabW FlKT.tab3 FlKT.bits3 (fun HT_ HW_ => ?_)
      have qB0 := below_drew qB
      clear qB
      have qB := qB0
      clear qB0
      replace B4 := Aside0.mk (blk_drew B4.out)
      generalize w4.drew = wr at qB hHeld B4 ⊢
      refine take_ (i := 0) (N := some 14) (v := ?_) (a' := ?_) #[true, false, false, false, false, false, false, false, false, false, false, false, false, false, false, false, false, false, false, false, false, false, false, false, false, false, false] rfl rfl (take_ofW HT_.out HW_.out (by kernel_rfl)) (fun _ _ _ h => h) (Or.inl ⟨by rfl, ?_⟩) hHeld ?_ ?_
      rotate_left
      · rintro w' ⟨s0, s1, s2, s3, s4, s5, s6, s7⟩
        go_simp
        with_reducible rfl
      rotate_left
      · simp only [Act.put, List.setIfInBounds_toArray, List.set_cons_zero, List.set_cons_succ, i64_w, i32_w]
        rfl
      refine pure_ (i := 1) (N := some 15) (v := ?_) (a' := ?_) #[true, true, false, false, false, false, false, false, false, false, false, false, false, false, false, false, false, false, false, false, false, false, false, false, false, false, false] rfl rfl (any_of HT_.out (by kernel_rfl)) (fun _ _ _ h => h) (Or.inl ⟨by rfl, ?_⟩) ?_ ?_
      rotate_left
      · intro w'
        go_simp
        with_reducible rfl
      rotate_left
      · simp only [Act.put, List.setIfInBounds_toArray, List.set_cons_zero, List.set_cons_succ, i64_w, i32_w]
        rfl
      refine take_ (i := 2) (N := some 16) (v := ?_) (a' := ?_) #[true, true, true, false, false, false, false, false, false, false, false, false, false, false, false, false, false, false, false, false, false, false, false, false, false, false, false] rfl rfl (take_ofW HT_.out HW_.out (by kernel_rfl)) (fun _ _ _ h => h) (Or.inl ⟨by rfl, ?_⟩) hHeld ?_ ?_
      rotate_left
      · rintro w' ⟨s0, s1, s2, s3, s4, s5, s6, s7⟩
        go_simp
        with_reducible rfl
      rotate_left
      · simp only [Act.put, List.setIfInBounds_toArray, List.set_cons_zero, List.set_cons_succ, i64_w, i32_w]
        rfl
      refine pure_ (i := 3) (N := some 17) (v := ?_) (a' := ?_) #[true, true, true, true, false, false, false, false, false, false, false, false, false, false, false, false, false, false, false, false, false, false, false, false, false, false, false] rfl rfl (any_of HT_.out (by kernel_rfl)) (fun _ _ _ h => h) (Or.inl ⟨by rfl, ?_⟩) ?_ ?_
      rotate_left
      · intro w'
        go_simp
        with_reducible rfl
      rotate_left
      · simp only [Act.put, List.setIfInBounds_toArray, List.set_cons_zero, List.set_cons_succ, i64_w, i32_w]
        rfl
      refine take_ (i := 4) (N := some 18) (v := ?_) (a' := ?_) #[true, true, true, true, true, false, false, false, false, false, false, false, false, false, false, false, false, false, false, false, false, false, false, false, false, false, false] rfl rfl (take_ofW HT_.out HW_.out (by kernel_rfl)) (fun _ _ _ h => h) (Or.inl ⟨by rfl, ?_⟩) hHeld ?_ ?_
      rotate_left
      · rintro w' ⟨s0, s1, s2, s3, s4, s5, s6, s7⟩
        go_simp
        with_reducible rfl
      rotate_left
      · simp only [Act.put, List.setIfInBounds_toArray, List.set_cons_zero, List.set_cons_succ, i64_w, i32_w]
        rfl
      refine pure_ (i := 5) (N := some 19) (v := ?_) (a' := ?_) #[true, true, true, true, true, true, false, false, false, false, false, false, false, false, false, false, false, false, false, false, false, false, false, false, false, false, false] rfl rfl (any_of HT_.out (by kernel_rfl)) (fun _ _ _ h => h) (Or.inl ⟨by rfl, ?_⟩) ?_ ?_
      rotate_left
      · intro w'
        go_simp
        with_reducible rfl
      rotate_left
      · simp only [Act.put, List.setIfInBounds_toArray, List.set_cons_zero, List.set_cons_succ, i64_w, i32_w]
        rfl
      refine take_ (i := 6) (N := some 20) (v := ?_) (a' := ?_) #[true, true, true, true, true, true, true, false, false, false, false, false, false, false, false, false, false, false, false, false, false, false, false, false, false, false, false] rfl rfl (take_ofW HT_.out HW_.out (by kernel_rfl)) (fun _ _ _ h => h) (Or.inl ⟨by rfl, ?_⟩) hHeld ?_ ?_
      rotate_left
      · rintro w' ⟨s0, s1, s2, s3, s4, s5, s6, s7⟩
        go_simp
        with_reducible rfl
      rotate_left
      · simp only [Act.put, List.setIfInBounds_toArray, List.set_cons_zero, List.set_cons_succ, i64_w, i32_w]
        rfl
      refine pure_ (i := 7) (N := some 21) (v := ?_) (a' := ?_) #[true, true, true, true, true, true, true, true, false, false, false, false, false, false, false, false, false, false, false, false, false, false, false, false, false, false, false] rfl rfl (any_of HT_.out (by kernel_rfl)) (fun _ _ _ h => h) (Or.inl ⟨by rfl, ?_⟩) ?_ ?_
      rotate_left
      · intro w'
        go_simp
        with_reducible rfl
      rotate_left
      · simp only [Act.put, List.setIfInBounds_toArray, List.set_cons_zero, List.set_cons_succ, i64_w, i32_w]
        rfl
      refine take_ (i := 8) (N := some 22) (v := ?_) (a' := ?_) #[true, true, true, true, true, true, true, true, true, false, false, false, false, false, false, false, false, false, false, false, false, false, false, false, false, false, false] rfl rfl (take_ofW HT_.out HW_.out (by kernel_rfl)) (fun _ _ _ h => h) (Or.inl ⟨by rfl, ?_⟩) hHeld ?_ ?_
      rotate_left
      · rintro w' ⟨s0, s1, s2, s3, s4, s5, s6, s7⟩
        go_simp
        with_reducible rfl
      rotate_left
      · simp only [Act.put, List.setIfInBounds_toArray, List.set_cons_zero, List.set_cons_succ, i64_w, i32_w]
        rfl
      refine pure_ (i := 10) (N := some 24) (v := ?_) (a' := ?_) #[true, true, true, true, true, true, true, true, true, false, true, false, false, false, false, false, false, false, false, false, false, false, false, false, false, false, false] rfl rfl (any_of HT_.out (by kernel_rfl)) (fun _ _ _ h => h) (Or.inl ⟨by rfl, ?_⟩) ?_ ?_
      rotate_left
      · intro w'
        go_simp
        with_reducible rfl
      rotate_left
      · simp only [Act.put, List.setIfInBounds_toArray, List.set_cons_zero, List.set_cons_succ, i64_w, i32_w]
        rfl
      refine take_ (i := 11) (N := some 25) (v := ?_) (a' := ?_) #[true, true, true, true, true, true, true, true, true, false, true, true, false, false, false, false, false, false, false, false, false, false, false, false, false, false, false] rfl rfl (take_ofW HT_.out HW_.out (by kernel_rfl)) (fun _ _ _ h => h) (Or.inl ⟨by rfl, ?_⟩) hHeld ?_ ?_
      rotate_left
      · rintro w' ⟨s0, s1, s2, s3, s4, s5, s6, s7⟩
        go_simp
        with_reducible rfl
      rotate_left
      · simp only [Act.put, List.setIfInBounds_toArray, List.set_cons_zero, List.set_cons_succ, i64_w, i32_w]
        rfl
      refine pure_ (i := 13) (N := some 27) (v := ?_) (a' := ?_) #[true, true, true, true, true, true, true, true, true, false, true, true, false, true, false, false, false, false, false, false, false, false, false, false, false, false, false] rfl rfl (any_of HT_.out (by kernel_rfl)) (fun _ _ _ h => h) (Or.inl ⟨by rfl, ?_⟩) ?_ ?_
      rotate_left
      · intro w'
        go_simp
        with_reducible rfl
      rotate_left
      · simp only [Act.put, List.setIfInBounds_toArray, List.set_cons_zero, List.set_cons_succ, i64_w, i32_w]
        rfl
      refine take_ (i := 14) (N := some 28) (v := ?_) (a' := ?_) #[true, true, true, true, true, true, true, true, true, false, true, true, false, true, true, false, false, false, false, false, false, false, false, false, false, false, false] rfl rfl (take_ofW HT_.out HW_.out (by kernel_rfl)) (fun _ _ _ h => h) (Or.inl ⟨by rfl, ?_⟩) hHeld ?_ ?_
      rotate_left
      · rintro w' ⟨s0, s1, s2, s3, s4, s5, s6, s7⟩
        go_simp
        with_reducible rfl
      rotate_left
      · simp only [Act.put, List.setIfInBounds_toArray, List.set_cons_zero, List.set_cons_succ, i64_w, i32_w]
        rfl
      refine pure_ (i := 15) (N := some 29) (v := ?_) (a' := ?_) #[true, true, true, true, true, true, true, true, true, false, true, true, false, true, true, true, false, false, false, false, false, false, false, false, false, false, false] rfl rfl (any_of HT_.out (by kernel_rfl)) (fun _ _ _ h => h) (Or.inl ⟨by rfl, ?_⟩) ?_ ?_
      rotate_left
      · intro w'
        go_simp
        with_reducible rfl
      rotate_left
      · simp only [Act.put, List.setIfInBounds_toArray, List.set_cons_zero, List.set_cons_succ, i64_w, i32_w]
        rfl
      refine take_ (i := 16) (N := some 30) (v := ?_) (a' := ?_) #[true, true, true, true, true, true, true, true, true, false, true, true, false, true, true, true, true, false, false, false, false, false, false, false, false, false, false] rfl rfl (take_ofW HT_.out HW_.out (by kernel_rfl)) (fun _ _ _ h => h) (Or.inl ⟨by rfl, ?_⟩) hHeld ?_ ?_
      rotate_left
      · rintro w' ⟨s0, s1, s2, s3, s4, s5, s6, s7⟩
        go_simp
        with_reducible rfl
      rotate_left
      · simp only [Act.put, List.setIfInBounds_toArray, List.set_cons_zero, List.set_cons_succ, i64_w, i32_w]
        rfl
      refine pure_ (i := 17) (N := some 31) (v := ?_) (a' := ?_) #[true, true, true, true, true, true, true, true, true, false, true, true, false, true, true, true, true, true, false, false, false, false, false, false, false, false, false] rfl rfl (any_of HT_.out (by kernel_rfl)) (fun _ _ _ h => h) (Or.inl ⟨by rfl, ?_⟩) ?_ ?_
      rotate_left
      · intro w'
        go_simp
        with_reducible rfl
      rotate_left
      · simp only [Act.put, List.setIfInBounds_toArray, List.set_cons_zero, List.set_cons_succ, i64_w, i32_w]
        rfl
      refine take_ (i := 18) (N := some 32) (v := ?_) (a' := ?_) #[true, true, true, true, true, true, true, true, true, false, true, true, false, true, true, true, true, true, true, false, false, false, false, false, false, false, false] rfl rfl (take_ofW HT_.out HW_.out (by kernel_rfl)) (fun _ _ _ h => h) (Or.inl ⟨by rfl, ?_⟩) hHeld ?_ ?_
      rotate_left
      · rintro w' ⟨s0, s1, s2, s3, s4, s5, s6, s7⟩
        go_simp
        with_reducible rfl
      rotate_left
      · simp only [Act.put, List.setIfInBounds_toArray, List.set_cons_zero, List.set_cons_succ, i64_w, i32_w]
        rfl
      refine pure_ (i := 19) (N := some 33) (v := ?_) (a' := ?_) #[true, true, true, true, true, true, true, true, true, false, true, true, false, true, true, true, true, true, true, true, false, false, false, false, false, false, false] rfl rfl (any_of HT_.out (by kernel_rfl)) (fun _ _ _ h => h) (Or.inl ⟨by rfl, ?_⟩) ?_ ?_
      rotate_left
      · intro w'
        go_simp
        with_reducible rfl
      rotate_left
      · simp only [Act.put, List.setIfInBounds_toArray, List.set_cons_zero, List.set_cons_succ, i64_w, i32_w]
        rfl
      refine take_ (i := 20) (N := some 34) (v := ?_) (a' := ?_) #[true, true, true, true, true, true, true, true, true, false, true, true, false, true, true, true, true, true, true, true, true, false, false, false, false, false, false] rfl rfl (take_ofW HT_.out HW_.out (by kernel_rfl)) (fun _ _ _ h => h) (Or.inl ⟨by rfl, ?_⟩) hHeld ?_ ?_
      rotate_left
      · rintro w' ⟨s0, s1, s2, s3, s4, s5, s6, s7⟩
        go_simp
        with_reducible rfl
      rotate_left
      · simp only [Act.put, List.setIfInBounds_toArray, List.set_cons_zero, List.set_cons_succ, i64_w, i32_w]
        rfl
      refine pure_ (i := 22) (N := some 36) (v := ?_) (a' := ?_) #[true, true, true, true, true, true, true, true, true, false, true, true, false, true, true, true, true, true, true, true, true, false, true, false, false, false, false] rfl rfl (any_of HT_.out (by kernel_rfl)) (fun _ _ _ h => h) (Or.inl ⟨by rfl, ?_⟩) ?_ ?_
      rotate_left
      · intro w'
        go_simp
        with_reducible rfl
      rotate_left
      · simp only [Act.put, List.setIfInBounds_toArray, List.set_cons_zero, List.set_cons_succ, i64_w, i32_w]
        rfl
      refine take_ (i := 23) (N := some 37) (v := ?_) (a' := ?_) #[true, true, true, true, true, true, true, true, true, false, true, true, false, true, true, true, true, true, true, true, true, false, true, true, false, false, false] rfl rfl (take_ofW HT_.out HW_.out (by kernel_rfl)) (fun _ _ _ h => h) (Or.inl ⟨by rfl, ?_⟩) hHeld ?_ ?_
      rotate_left
      · rintro w' ⟨s0, s1, s2, s3, s4, s5, s6, s7⟩
        go_simp
        with_reducible rfl
      rotate_left
      · simp only [Act.put, List.setIfInBounds_toArray, List.set_cons_zero, List.set_cons_succ, i64_w, i32_w]
        rfl
      refine one_ (i := 9) (N := some 23) #[true, true, true, true, true, true, true, true, true, true, true, true, false, true, true, true, true, true, true, true, true, false, true, true, false, false, false] rfl rfl (one_of HT_.out (by kernel_rfl)) (by decide) (fun K hK => ?_)
      refine goes_ Try.func56 (by kernel_rfl) rfl #[.int .i64 a.x, .int .i64 a.w, .int .i64 b.x, .int .i64 b.w] (by rfl) rfl rfl (by (try simp only [List.map_toArray, List.map_cons, List.map_nil]); first | done | rfl) ?_
      refine (KA.out _).mono ?_
      rintro e wn ⟨rfl, hb⟩
      refine ⟨_, rfl, ?_⟩
      obtain ⟨s0, s1, s2, s3, s4, s5, s6, s7⟩ := hHeld
      replace s0 := cell_held hb s0
      replace s1 := cell_held hb s1
      replace s2 := cell_held hb s2
      replace s3 := cell_held hb s3
      replace s4 := cell_held hb s4
      replace s5 := cell_held hb s5
      replace s6 := cell_held hb s6
      replace s7 := cell_held hb s7
      replace qB := below_step (w := W) qB hb
      replace B4 := Aside0.mk (blk_below B4.out hb)
      clear hb
      refine hK.out _ _ ⟨s0, s1, s2, s3, s4, s5, s6, s7⟩ (fun hHeld => ?_)
      clear hK K s0 s1 s2 s3 s4 s5 s6 s7
      refine norm_ (a' := ?_) ?_ ?_
      rotate_left
      · show Act.put _ (some 23) _ = _
        simp only [Act.put, List.setIfInBounds_toArray, List.set_cons_zero, List.set_cons_succ, i64_w, i32_w]
        rfl
      refine pure_ (i := 12) (N := some 26) (v := ?_) (a' := ?_) #[true, true, true, true, true, true, true, true, true, true, true, true, true, true, true, true, true, true, true, true, true, false, true, true, false, false, false] rfl rfl (any_of HT_.out (by kernel_rfl)) (fun _ _ _ h => h) (Or.inl ⟨by rfl, ?_⟩) ?_ ?_
      rotate_left
      · intro w'
        go_simp
        with_reducible rfl
      rotate_left
      · simp only [Act.put, List.setIfInBounds_toArray, List.set_cons_zero, List.set_cons_succ, i64_w, i32_w]
        rfl
      refine one_ (i := 21) (N := some 35) #[true, true, true, true, true, true, true, true, true, true, true, true, true, true, true, true, true, true, true, true, true, true, true, true, false, false, false] rfl rfl (one_of HT_.out (by kernel_rfl)) (by decide) (fun K hK => ?_)
      refine goes_ Try.func56 (by kernel_rfl) rfl #[.int .i64 a.y, .int .i64 a.h, .int .i64 b.y, .int .i64 b.h] (by rfl) rfl rfl (by (try simp only [List.map_toArray, List.map_cons, List.map_nil]); first | done | rfl) ?_
      refine (KB.out _).mono ?_
      rintro e wn ⟨rfl, hb⟩
      refine ⟨_, rfl, ?_⟩
      obtain ⟨s0, s1, s2, s3, s4, s5, s6, s7⟩ := hHeld
      replace s0 := cell_held hb s0
      replace s1 := cell_held hb s1
      replace s2 := cell_held hb s2
      replace s3 := cell_held hb s3
      replace s4 := cell_held hb s4
      replace s5 := cell_held hb s5
      replace s6 := cell_held hb s6
      replace s7 := cell_held hb s7
      replace qB := below_step (w := W) qB hb
      replace B4 := Aside0.mk (blk_below B4.out hb)
      clear hb
      refine hK.out _ _ ⟨s0, s1, s2, s3, s4, s5, s6, s7⟩ (fun hHeld => ?_)
      clear hK K s0 s1 s2 s3 s4 s5 s6 s7
      refine norm_ (a' := ?_) ?_ ?_
      rotate_left
      · show Act.put _ (some 35) _ = _
        simp only [Act.put, List.setIfInBounds_toArray, List.set_cons_zero, List.set_cons_succ, i64_w, i32_w]
        rfl
      refine pure_ (i := 24) (N := some 38) (v := ?_) (a' := ?_) #[true, true, true, true, true, true, true, true, true, true, true, true, true, true, true, true, true, true, true, true, true, true, true, true, true, false, false] rfl rfl (any_of HT_.out (by kernel_rfl)) (fun _ _ _ h => h) (Or.inl ⟨by rfl, ?_⟩) ?_ ?_
      rotate_left
      · intro w'
        go_simp
        with_reducible rfl
      rotate_left
      · simp only [Act.put, List.setIfInBounds_toArray, List.set_cons_zero, List.set_cons_succ, i64_w, i32_w]
        rfl
      refine one_ (i := 25) (N := some 39) #[true, true, true, true, true, true, true, true, true, true, true, true, true, true, true, true, true, true, true, true, true, true, true, true, true, true, false] rfl rfl (one_of HT_.out (by kernel_rfl)) (by decide) (fun K hK => ?_)
      refine goes_ Try.func20 (by kernel_rfl) rfl #[.agg #[.int .i64 a.x, .int .i64 a.y, .int .i64 a.w, .int .i64 a.h], .int .i64 (wrap64 (kx - a.x)), .int .i64 (wrap64 (ky - a.y))] (by rfl) rfl rfl (by (try simp only [List.map_toArray, List.map_cons, List.map_nil]); first | done | rfl) ?_
      refine (KS.out _).mono ?_
      rintro e wn ⟨rfl, hb⟩
      refine ⟨_, rfl, ?_⟩
      obtain ⟨s0, s1, s2, s3, s4, s5, s6, s7⟩ := hHeld
      replace s0 := cell_held hb s0
      replace s1 := cell_held hb s1
      replace s2 := cell_held hb s2
      replace s3 := cell_held hb s3
      replace s4 := cell_held hb s4
      replace s5 := cell_held hb s5
      replace s6 := cell_held hb s6
      replace s7 := cell_held hb s7
      replace qB := below_step (w := W) qB hb
      replace B4 := Aside0.mk (blk_below B4.out hb)
      clear hb
      refine hK.out _ _ ⟨s0, s1, s2, s3, s4, s5, s6, s7⟩ (fun hHeld => ?_)
      clear hK K s0 s1 s2 s3 s4 s5 s6 s7
      refine norm_ (a' := ?_) ?_ ?_
      rotate_left
      · show Act.put _ (some 39) _ = _
        simp only [Act.put, List.setIfInBounds_toArray, List.set_cons_zero, List.set_cons_succ, i64_w, i32_w]
        rfl
      refine one_ (i := 26) (N := none) #[true, true, true, true, true, true, true, true, true, true, true, true, true, true, true, true, true, true, true, true, true, true, true, true, true, true, true] rfl rfl (one_of HT_.out (by kernel_rfl)) (by decide) (fun K hK => ?_)
      obtain ⟨s0, s1, s2, s3, s4, s5, s6, s7⟩ := hHeld
      have t0 : wn.cell? ⟨W.heap.size + 1 + 1, 0, none⟩ = some (.int .i64 0) := (blk_cell B4.out 0).trans rfl
      have ft0 := blk_frozen B4.out 0
      have t1 : wn.cell? ⟨W.heap.size + 1 + 1, 1, none⟩ = some (.int .i64 0) := (blk_cell B4.out 1).trans rfl
      have ft1 := blk_frozen B4.out 1
      have t2 : wn.cell? ⟨W.heap.size + 1 + 1, 2, none⟩ = some (.int .i64 0) := (blk_cell B4.out 2).trans rfl
      have ft2 := blk_frozen B4.out 2
      have t3 : wn.cell? ⟨W.heap.size + 1 + 1, 3, none⟩ = some (.int .i64 0) := (blk_cell B4.out 3).trans rfl
      have ft3 := blk_frozen B4.out 3
      refine skip_ (w1 := ?_) (by rfl) rfl ?_ ?_
      rotate_left
      · go_simp
        rfl
      refine hK.out _ _ ⟨put4_cell (g := W.heap.size + 1 + 1) (by omega) s0 _ _ _ _, put4_cell (g := W.heap.size + 1 + 1) (by omega) s1 _ _ _ _, put4_cell (g := W.heap.size + 1 + 1) (by omega) s2 _ _ _ _, put4_cell (g := W.heap.size + 1 + 1) (by omega) s3 _ _ _ _, put4_cell (g := W.heap.size + 1 + 1) (by omega) s4 _ _ _ _, put4_cell (g := W.heap.size + 1 + 1) (by omega) s5 _ _ _ _, put4_cell (g := W.heap.size + 1 + 1) (by omega) s6 _ _ _ _, put4_cell (g := W.heap.size + 1 + 1) (by omega) s7 _ _ _ _⟩ (fun hHeld => ?_)
      clear hK K
      refine done_ (done_of HT_.out (by kernel_rfl)) ?_
      go_wp2
      exact bodyPost_ret (v := .agg #[.int .i64 L.x, .int .i64 L.y, .int .i64 L.w, .int .i64 L.h]) (by simp [results, Try.results27, go_sem, t0, ft0, t1, ft1, t2, ft2, t3, ft3]) rfl ⟨rfl, by (repeat (refine below_set ?_ (by omega))); exact qB⟩
    · simp only [Bool.not_eq_true] at h'
      rw [h'] at K2 hK
      rw [if_neg (by decide)] at hK
      subst hK
      replace K1 := Aside0.mk K1; replace K2 := Aside0.mk K2
      clear h h'
      go_enter Try.func27, Try.ntmps27
      go_wp2_with fail
      refine (K1.out _).mono ?_
      rintro e w1 ⟨rfl, hb⟩
      have B2 := Aside0.mk (blk_below (g := W.heap.size) (o := .cells #[.int .i64 a.x, .int .i64 a.y, .int .i64 a.w, .int .i64 a.h] 23 (0, 0)) (by (repeat (first | exact new_at (by simp only [World.size_alloc, World.size_drew]; done) | refine blk_drew ?_ | refine blk_alloc ?_ _))) hb)
      have B3 := Aside0.mk (blk_below (g := W.heap.size + 1) (o := .cells #[.int .i64 b.x, .int .i64 b.y, .int .i64 b.w, .int .i64 b.h] 23 (0, 0)) (by (repeat (first | exact new_at (by simp only [World.size_alloc, World.size_drew]; done) | refine blk_drew ?_ | refine blk_alloc ?_ _))) hb)
      have B4 := Aside0.mk (blk_below (g := W.heap.size + 1 + 1) (o := .cells #[.int .i64 0, .int .i64 0, .int .i64 0, .int .i64 0] 23 (0, 0)) (by (repeat (first | exact new_at (by simp only [World.size_alloc, World.size_drew]; done) | refine blk_drew ?_ | refine blk_alloc ?_ _))) hb)
      have qB := below_step (w := W) (by (repeat (first | exact Below.refl _ _ | apply below_alloc))) hb
      clear hb
      have k0 : w1.cell? ⟨W.heap.size + 1, 0, none⟩ = some (.int .i64 (b.x)) := (blk_cell B3.out 0).trans rfl
      have fk0 := blk_frozen B3.out 0
      have k1 : w1.cell? ⟨W.heap.size + 1, 1, none⟩ = some (.int .i64 (b.y)) := (blk_cell B3.out 1).trans rfl
      have fk1 := blk_frozen B3.out 1
      have k2 : w1.cell? ⟨W.heap.size + 1, 2, none⟩ = some (.int .i64 (b.w)) := (blk_cell B3.out 2).trans rfl
      have fk2 := blk_frozen B3.out 2
      have k3 : w1.cell? ⟨W.heap.size + 1, 3, none⟩ = some (.int .i64 (b.h)) := (blk_cell B3.out 3).trans rfl
      have fk3 := blk_frozen B3.out 3
      go_wp2_with fail
      refine (K2.out _).mono ?_
      rintro e w4 ⟨rfl, hb⟩
      clear k0 fk0 k1 fk1 k2 fk2 k3 fk3
      replace B2 := Aside0.mk (blk_below B2.out hb)
      replace B3 := Aside0.mk (blk_below B3.out hb)
      replace B4 := Aside0.mk (blk_below B4.out hb)
      replace qB := below_step (w := W) qB hb
      clear hb
      have q0 : w4.cell? ⟨W.heap.size + 1 + 1, 0, none⟩ = some (.int .i64 (0)) := (blk_cell B4.out 0).trans rfl
      have fq0 := blk_frozen B4.out 0
      have q1 : w4.cell? ⟨W.heap.size + 1 + 1, 1, none⟩ = some (.int .i64 (0)) := (blk_cell B4.out 1).trans rfl
      have fq1 := blk_frozen B4.out 1
      have q2 : w4.cell? ⟨W.heap.size + 1 + 1, 2, none⟩ = some (.int .i64 (0)) := (blk_cell B4.out 2).trans rfl
      have fq2 := blk_frozen B4.out 2
      have q3 : w4.cell? ⟨W.heap.size + 1 + 1, 3, none⟩ = some (.int .i64 (0)) := (blk_cell B4.out 3).trans rfl
      have fq3 := blk_frozen B4.out 3
      go_wp2
      exact bodyPost_ret (v := .agg #[.int .i64 0, .int .i64 0, .int .i64 0, .int .i64 0]) (by simp [results, Try.results27, go_sem, q0, fq0, q1, fq1, q2, fq2, q3, fq3]) rfl ⟨rfl, by (repeat (refine below_set ?_ (by omega))); exact qB⟩
  · simp only [Bool.not_eq_true] at h
    rw [h] at K1 hK
    rw [Bool.false_and, if_neg (by decide)] at hK
    subst hK
    replace K1 := Aside0.mk K1
    clear K2 h
    go_enter Try.func27, Try.ntmps27
    go_wp2_with fail
    refine (K1.out _).mono ?_
    rintro e w1 ⟨rfl, hb⟩
    have B2 := Aside0.mk (blk_below (g := W.heap.size) (o := .cells #[.int .i64 a.x, .int .i64 a.y, .int .i64 a.w, .int .i64 a.h] 23 (0, 0)) (by (repeat (first | exact new_at (by simp only [World.size_alloc, World.size_drew]; done) | refine blk_drew ?_ | refine blk_alloc ?_ _))) hb)
    have B3 := Aside0.mk (blk_below (g := W.heap.size + 1) (o := .cells #[.int .i64 b.x, .int .i64 b.y, .int .i64 b.w, .int .i64 b.h] 23 (0, 0)) (by (repeat (first | exact new_at (by simp only [World.size_alloc, World.size_drew]; done) | refine blk_drew ?_ | refine blk_alloc ?_ _))) hb)
    have B4 := Aside0.mk (blk_below (g := W.heap.size + 1 + 1) (o := .cells #[.int .i64 0, .int .i64 0, .int .i64 0, .int .i64 0] 23 (0, 0)) (by (repeat (first | exact new_at (by simp only [World.size_alloc, World.size_drew]; done) | refine blk_drew ?_ | refine blk_alloc ?_ _))) hb)
    have qB := below_step (w := W) (by (repeat (first | exact Below.refl _ _ | apply below_alloc))) hb
    clear hb
    have q0 : w1.cell? ⟨W.heap.size + 1 + 1, 0, none⟩ = some (.int .i64 (0)) := (blk_cell B4.out 0).trans rfl
    have fq0 := blk_frozen B4.out 0
    have q1 : w1.cell? ⟨W.heap.size + 1 + 1, 1, none⟩ = some (.int .i64 (0)) := (blk_cell B4.out 1).trans rfl
    have fq1 := blk_frozen B4.out 1
    have q2 : w1.cell? ⟨W.heap.size + 1 + 1, 2, none⟩ = some (.int .i64 (0)) := (blk_cell B4.out 2).trans rfl
    have fq2 := blk_frozen B4.out 2
    have q3 : w1.cell? ⟨W.heap.size + 1 + 1, 3, none⟩ = some (.int .i64 (0)) := (blk_cell B4.out 3).trans rfl
    have fq3 := blk_frozen B4.out 3
    go_wp2
    exact bodyPost_ret (v := .agg #[.int .i64 0, .int .i64 0, .int .i64 0, .int .i64 0]) (by simp [results, Try.results27, go_sem, q0, fq0, q1, fq1, q2, fq2, q3, fq3]) rfl ⟨rfl, by (repeat (refine below_set ?_ (by omega))); exact qB⟩
set_option maxHeartbeats 1000000 in
theorem c_middle (p m n : Int) (hp : -1000000 ≤ p ∧ p ≤ 1000000) (hm : 0 ≤ m ∧ m ≤ 1000000) (hn : 0 ≤ n ∧ n ≤ 1000000) (w : World) : Calls Try.prog 29 #[.int .i64 p, .int .i64 m, .int .i64 n] w (RetI (midP p m n) w) := by
  unfold RetI midP
  obtain ⟨p1, p2⟩ := hp
  obtain ⟨m1, m2⟩ := hm
  obtain ⟨n1, n2⟩ := hn
  by_cases c : m - n < 0
  · have e : (m - n - 1).tdiv 2 = (m - n) / 2 := by
      rw [Int.tdiv_eq_ediv]
      by_cases d : (2 : Int) ∣ m - n - 1
      · rw [if_pos (Or.inr d)]; omega
      · rw [if_neg (by omega)]
        show (m - n - 1) / 2 + 1 = _
        omega
    have b1 : -1000000 ≤ (m - n) / 2 := by omega
    have b2 : (m - n) / 2 ≤ 1000000 := by omega
    go_enter Try.func29, Try.ntmps29
    go_wp2
    go_ret
    exact ⟨rfl, Below.refl _ _⟩
  · go_enter Try.func29, Try.ntmps29
    go_wp2
    go_ret
    exact ⟨rfl, Below.refl _ _⟩
def FlST.T7 : Bool × List (List Nat × List Nat) := (true, [([], []), ([0], [0]), ([], []), ([2], [2]), ([], []), ([1, 3, 4], [1, 3, 4]), ([], []), ([6], [6]), ([], []), ([8], [8]), ([], []), ([7, 9, 10, 5], [7, 9, 10]), ([], []), ([], []), ([5, 11, 12, 13, 11], [5, 11, 12, 13]), ([], []), ([14, 15, 14], [14, 15]), ([16, 16, 0, 1, 2, 3, 4, 5, 6, 7, 8, 9, 10, 11, 12, 13, 14, 15, 16], [16])])
def FlST.B7 : List Nat := [0, 1, 0, 4, 0, 31, 0, 64, 0, 256, 0, 2047, 0, 0, 16383, 0, 65535, 131071]
theorem FlST.tab7 : rtab .any (opsOf Try.f9 7) = FlST.T7 := by kernel_rfl
theorem FlST.bits7 : waitsOk FlST.T7.2 FlST.B7 = true := by kernel_rfl

theorem in_bd {i : Rc} (h : rightB i = true) : (-32768 ≤ i.x ∧ i.x ≤ 32768) ∧ (-32768 ≤ i.y ∧ i.y ≤ 32768) ∧ (0 ≤ i.w ∧ i.w ≤ 65536) ∧ (0 ≤ i.h ∧ i.h ≤ 65536) := by
  have := rightB_true.1 h
  omega
set_option maxHeartbeats 16000000 in
set_option maxRecDepth 100000 in
theorem c_start (o k : Rc) (h : Hn) (w t : Int) (W : World) : Calls Try.prog 9 #[.agg #[.int .i64 o.x, .int .i64 o.y, .int .i64 o.w, .int .i64 o.h], .agg #[.int .i64 k.x, .int .i64 k.y, .int .i64 k.w, .int .i64 k.h], .agg #[.int .i64 h.minW, .int .i64 h.minH, .int .i64 h.maxW, .int .i64 h.maxH, .int .i64 h.baseW, .int .i64 h.baseH, .int .i64 h.incW, .int .i64 h.incH, .int .i64 h.lowX, .int .i64 h.lowY, .int .i64 h.highX, .int .i64 h.highY], .int .i64 w, .int .i64 t] W (RetR (startP o k h w t) W) := by
  unfold RetR
  have K1 := c_gEmpty k
  have K2 := c_gEmpty o
  obtain ⟨n, hn⟩ : ∃ n, n = workP k := ⟨_, rfl⟩
  obtain ⟨i, hi⟩ : ∃ i, i = inP o n := ⟨_, rfl⟩
  obtain ⟨x, y, g, e⟩ := fit_good h (min w n.w) (min t n.h)
  have hnr : rightB n = true := hn ▸ workP_rightB k
  have hir : rightB i = true := by
    rw [hi]; unfold inP
    by_cases c : emptyB o = true
    · rw [if_pos c]; exact hnr
    · rw [if_neg c]; exact (emptyB_false.1 (by simpa using c)).1
  obtain ⟨L, hL⟩ : ∃ L, L = laidP (midP i.x i.w x) (midP i.y i.h y) x y := ⟨_, rfl⟩
  obtain ⟨R, hR⟩ : ∃ R, R = keepP L n := ⟨_, rfl⟩
  have eR : startP o k h w t = R := by
    unfold startP
    rw [← hn, ← hi, e, hR, hL]
  rw [eR]
  have bx := in_bd hir
  obtain ⟨g1, g2, g3, g4, _⟩ := g
  have KF := Aside0.mk (c_fit e)
  have KA := c_middle i.x i.w x (by omega) (by omega) (by omega)
  have KB := c_middle i.y i.h y (by omega) (by omega) (by omega)
  have KL := c_laid (midP i.x i.w x) (midP i.y i.h y) x y (by unfold midP; omega) (by unfold midP; omega)
  rw [← hL] at KL
  have KK := c_gKeep L n
  rw [← hR] at KK
  obtain ⟨mx, hmx⟩ : ∃ m, m = midP i.x i.w x := ⟨_, rfl⟩
  obtain ⟨my, hmy⟩ : ∃ m, m = midP i.y i.h y := ⟨_, rfl⟩
  rw [← hmx] at KA KL
  rw [← hmy] at KB KL
  obtain ⟨m1, hm1⟩ : ∃ m, m = min w n.w := ⟨_, rfl⟩
  obtain ⟨m2, hm2⟩ : ∃ m, m = min t n.h := ⟨_, rfl⟩
  have j1 : (if n.w < w then n.w else w) = m1 := by rw [hm1]; split <;> omega
  have j2 : (if n.h < t then n.h else t) = m2 := by rw [hm2]; split <;> omega
  rw [← hm1, ← hm2] at KF
  replace K1 := Aside0.mk K1; replace K2 := Aside0.mk K2; replace KA := Aside0.mk KA; replace KB := Aside0.mk KB; replace KL := Aside0.mk KL; replace KK := Aside0.mk KK
  have HI := Aside0.mk hi
  have HNN := Aside0.mk hn
  have J1 := Aside0.mk j1
  have J2 := Aside0.mk j2
  clear hn hi g1 g2 g3 g4 e hnr hir hL hR eR bx hmx hmy hm1 hm2 j1 j2
  go_enter Try.func9, Try.ntmps9
  go_wp2_with fail
  obtain ⟨be, hbe⟩ : ∃ b, emptyB k = b := ⟨_, rfl⟩
  rw [hbe] at K1
  have HBE := Aside0.mk hbe
  clear hbe
  refine (K1.out _).mono ?_
  rintro e w1 ⟨rfl, hb⟩
  have B5 := Aside0.mk (blk_below (g := W.heap.size) (o := .cells #[.int .i64 o.x, .int .i64 o.y, .int .i64 o.w, .int .i64 o.h] 23 (0, 0)) (by (repeat (first | exact new_at (by simp only [World.size_alloc, World.size_drew]; done) | refine blk_drew ?_ | refine blk_alloc ?_ _))) hb)
  have B6 := Aside0.mk (blk_below (g := W.heap.size + 1) (o := .cells #[.int .i64 k.x, .int .i64 k.y, .int .i64 k.w, .int .i64 k.h] 23 (0, 0)) (by (repeat (first | exact new_at (by simp only [World.size_alloc, World.size_drew]; done) | refine blk_drew ?_ | refine blk_alloc ?_ _))) hb)
  have B7 := Aside0.mk (blk_below (g := W.heap.size + 1 + 1) (o := .cells #[.int .i64 h.minW, .int .i64 h.minH, .int .i64 h.maxW, .int .i64 h.maxH, .int .i64 h.baseW, .int .i64 h.baseH, .int .i64 h.incW, .int .i64 h.incH, .int .i64 h.lowX, .int .i64 h.lowY, .int .i64 h.highX, .int .i64 h.highY] 25 (0, 0)) (by (repeat (first | exact new_at (by simp only [World.size_alloc, World.size_drew]; done) | refine blk_drew ?_ | refine blk_alloc ?_ _))) hb)
  have B10 := Aside0.mk (blk_below (g := W.heap.size + 1 + 1 + 1) (o := .cells #[.int .i64 0, .int .i64 0, .int .i64 0, .int .i64 0] 23 (0, 0)) (by (repeat (first | exact new_at (by simp only [World.size_alloc, World.size_drew]; done) | refine blk_drew ?_ | refine blk_alloc ?_ _))) hb)
  have HB := Aside0.mk (below_step (w := W) (by (repeat (first | exact Below.refl _ _ | apply below_alloc))) hb)
  have HZ := Aside0.mk (show W.heap.size + 1 + 1 + 1 < w1.heap.size by have := hb.size; simp only [World.size_alloc] at this; omega)
  clear hb K1
  have p0 : w1.cell? ⟨W.heap.size + 1, 0, none⟩ = some (.int .i64 (k.x)) := (blk_cell B6.out 0).trans rfl
  have fp0 := blk_frozen B6.out 0
  have p1 : w1.cell? ⟨W.heap.size + 1, 1, none⟩ = some (.int .i64 (k.y)) := (blk_cell B6.out 1).trans rfl
  have fp1 := blk_frozen B6.out 1
  have p2 : w1.cell? ⟨W.heap.size + 1, 2, none⟩ = some (.int .i64 (k.w)) := (blk_cell B6.out 2).trans rfl
  have fp2 := blk_frozen B6.out 2
  have p3 : w1.cell? ⟨W.heap.size + 1, 3, none⟩ = some (.int .i64 (k.h)) := (blk_cell B6.out 3).trans rfl
  have fp3 := blk_frozen B6.out 3
  go_upto_if 13 with fail
  go_cut [] (fun wx => Aside0 (wx.heap[W.heap.size]? = some (.cells #[.int .i64 o.x, .int .i64 o.y, .int .i64 o.w, .int .i64 o.h] 23 (0, 0))) ∧ Aside0 (wx.heap[W.heap.size + 1]? = some (.cells #[.int .i64 n.x, .int .i64 n.y, .int .i64 n.w, .int .i64 n.h] 23 (0, 0))) ∧ Aside0 (wx.heap[W.heap.size + 1 + 1]? = some (.cells #[.int .i64 h.minW, .int .i64 h.minH, .int .i64 h.maxW, .int .i64 h.maxH, .int .i64 h.baseW, .int .i64 h.baseH, .int .i64 h.incW, .int .i64 h.incH, .int .i64 h.lowX, .int .i64 h.lowY, .int .i64 h.highX, .int .i64 h.highY] 25 (0, 0))) ∧ Aside0 (wx.heap[W.heap.size + 1 + 1 + 1]? = some (.cells #[.int .i64 0, .int .i64 0, .int .i64 0, .int .i64 0] 23 (0, 0))) ∧ Aside0 (W.heap.size + 1 + 1 + 1 < wx.heap.size) ∧ Aside0 (Below W.heap.size W wx))
  case first =>
    cases be
    · have en : n = k := by rw [HNN.out]; unfold workP; rw [if_neg (by rw [HBE.out]; decide)]
      have EN := Aside0.mk en
      clear en
      go_wp2_with fail
      go_meet
      rw [EN.out]
      exact ⟨B5, B6, B7, B10, HZ, HB⟩
    · have en : n = ⟨0, 0, 1, 1⟩ := by rw [HNN.out]; unfold workP; rw [if_pos HBE.out]
      have EN := Aside0.mk en
      clear en
      go_wp2_with fail
      go_meet
      rw [EN.out]
      exact ⟨⟨put4_far B5.out (by omega) _ _ _ _⟩, ⟨put4 B6.out _ _ _ _⟩, ⟨put4_far B7.out (by omega) _ _ _ _⟩, ⟨put4_far B10.out (by omega) _ _ _ _⟩, ⟨by simp only [World.size_setCell]; exact HZ.out⟩, ⟨by (repeat (refine below_set ?_ (by omega))); exact HB.out⟩⟩
  case rest =>
    clear p0 fp0 p1 fp1 p2 fp2 p3 fp3
    clear B5 B6 B7 B10 HB HZ HBE
    obtain ⟨B5, B6, B7, B10, HZ, HB⟩ := hcut
    have j1 := J1.out
    have j2 := J2.out
    have p0 : wc.cell? ⟨W.heap.size + 1, 0, none⟩ = some (.int .i64 (n.x)) := (blk_cell B6.out 0).trans rfl
    have fp0 := blk_frozen B6.out 0
    have p1 : wc.cell? ⟨W.heap.size + 1, 1, none⟩ = some (.int .i64 (n.y)) := (blk_cell B6.out 1).trans rfl
    have fp1 := blk_frozen B6.out 1
    have p2 : wc.cell? ⟨W.heap.size + 1, 2, none⟩ = some (.int .i64 (n.w)) := (blk_cell B6.out 2).trans rfl
    have fp2 := blk_frozen B6.out 2
    have p3 : wc.cell? ⟨W.heap.size + 1, 3, none⟩ = some (.int .i64 (n.h)) := (blk_cell B6.out 3).trans rfl
    have fp3 := blk_frozen B6.out 3
    have u0 : wc.cell? ⟨W.heap.size + 1 + 1, 0, none⟩ = some (.int .i64 h.minW) := (blk_cell B7.out 0).trans rfl
    have u1 : wc.cell? ⟨W.heap.size + 1 + 1, 1, none⟩ = some (.int .i64 h.minH) := (blk_cell B7.out 1).trans rfl
    have u2 : wc.cell? ⟨W.heap.size + 1 + 1, 2, none⟩ = some (.int .i64 h.maxW) := (blk_cell B7.out 2).trans rfl
    have u3 : wc.cell? ⟨W.heap.size + 1 + 1, 3, none⟩ = some (.int .i64 h.maxH) := (blk_cell B7.out 3).trans rfl
    have u4 : wc.cell? ⟨W.heap.size + 1 + 1, 4, none⟩ = some (.int .i64 h.baseW) := (blk_cell B7.out 4).trans rfl
    have u5 : wc.cell? ⟨W.heap.size + 1 + 1, 5, none⟩ = some (.int .i64 h.baseH) := (blk_cell B7.out 5).trans rfl
    have u6 : wc.cell? ⟨W.heap.size + 1 + 1, 6, none⟩ = some (.int .i64 h.incW) := (blk_cell B7.out 6).trans rfl
    have u7 : wc.cell? ⟨W.heap.size + 1 + 1, 7, none⟩ = some (.int .i64 h.incH) := (blk_cell B7.out 7).trans rfl
    have u8 : wc.cell? ⟨W.heap.size + 1 + 1, 8, none⟩ = some (.int .i64 h.lowX) := (blk_cell B7.out 8).trans rfl
    have u9 : wc.cell? ⟨W.heap.size + 1 + 1, 9, none⟩ = some (.int .i64 h.lowY) := (blk_cell B7.out 9).trans rfl
    have u10 : wc.cell? ⟨W.heap.size + 1 + 1, 10, none⟩ = some (.int .i64 h.highX) := (blk_cell B7.out 10).trans rfl
    have u11 : wc.cell? ⟨W.heap.size + 1 + 1, 11, none⟩ = some (.int .i64 h.highY) := (blk_cell B7.out 11).trans rfl
    go_wp2_with fail
    refine (KF.out _).mono ?_
    rintro e w2 ⟨rfl, hb⟩
    clear p0 fp0 p1 fp1 p2 fp2 p3 fp3
    clear u0 u1 u2 u3 u4 u5 u6 u7 u8 u9 u10 u11 j1 j2
    replace B5 := Aside0.mk (blk_below B5.out hb)
    replace B6 := Aside0.mk (blk_below B6.out hb)
    replace B10 := Aside0.mk (blk_below B10.out hb)
    replace HZ := Aside0.mk (show W.heap.size + 1 + 1 + 1 < w2.heap.size by have := hb.size; have := HZ.out; omega)
    replace HB := Aside0.mk (below_step HB.out hb)
    clear hb KF B7
    obtain ⟨g11, hg11⟩ : ∃ g, w2.heap.size = g := ⟨_, rfl⟩
    have B11 := Aside0.mk (show (w2.alloc (.cells #[.int .i64 n.x, .int .i64 n.y, .int .i64 n.w, .int .i64 n.h] 23 (0, 0))).heap[g11]? = some (.cells #[.int .i64 n.x, .int .i64 n.y, .int .i64 n.w, .int .i64 n.h] 23 (0, 0)) by rw [← hg11]; exact blk_new w2 _)
    replace HZ := Aside0.mk (show W.heap.size + 1 + 1 + 1 < g11 by have := HZ.out; omega)
    have p0 : w2.cell? ⟨W.heap.size + 1, 0, none⟩ = some (.int .i64 (n.x)) := (blk_cell B6.out 0).trans rfl
    have fp0 := blk_frozen B6.out 0
    have p1 : w2.cell? ⟨W.heap.size + 1, 1, none⟩ = some (.int .i64 (n.y)) := (blk_cell B6.out 1).trans rfl
    have fp1 := blk_frozen B6.out 1
    have p2 : w2.cell? ⟨W.heap.size + 1, 2, none⟩ = some (.int .i64 (n.w)) := (blk_cell B6.out 2).trans rfl
    have fp2 := blk_frozen B6.out 2
    have p3 : w2.cell? ⟨W.heap.size + 1, 3, none⟩ = some (.int .i64 (n.h)) := (blk_cell B6.out 3).trans rfl
    have fp3 := blk_frozen B6.out 3
    replace B5 := Aside0.mk (blk_alloc B5.out (.cells #[.int .i64 n.x, .int .i64 n.y, .int .i64 n.w, .int .i64 n.h] 23 (0, 0)))
    replace B6 := Aside0.mk (blk_alloc B6.out (.cells #[.int .i64 n.x, .int .i64 n.y, .int .i64 n.w, .int .i64 n.h] 23 (0, 0)))
    replace B10 := Aside0.mk (blk_alloc B10.out (.cells #[.int .i64 n.x, .int .i64 n.y, .int .i64 n.w, .int .i64 n.h] 23 (0, 0)))
    replace HB := Aside0.mk (below_alloc HB.out (.cells #[.int .i64 n.x, .int .i64 n.y, .int .i64 n.w, .int .i64 n.h] 23 (0, 0)))
    have k0 : (w2.alloc (.cells #[.int .i64 n.x, .int .i64 n.y, .int .i64 n.w, .int .i64 n.h] 23 (0, 0))).cell? ⟨W.heap.size, 0, none⟩ = some (.int .i64 o.x) := (blk_cell B5.out 0).trans rfl
    have k1 : (w2.alloc (.cells #[.int .i64 n.x, .int .i64 n.y, .int .i64 n.w, .int .i64 n.h] 23 (0, 0))).cell? ⟨W.heap.size, 1, none⟩ = some (.int .i64 o.y) := (blk_cell B5.out 1).trans rfl
    have k2 : (w2.alloc (.cells #[.int .i64 n.x, .int .i64 n.y, .int .i64 n.w, .int .i64 n.h] 23 (0, 0))).cell? ⟨W.heap.size, 2, none⟩ = some (.int .i64 o.w) := (blk_cell B5.out 2).trans rfl
    have k3 : (w2.alloc (.cells #[.int .i64 n.x, .int .i64 n.y, .int .i64 n.w, .int .i64 n.h] 23 (0, 0))).cell? ⟨W.heap.size, 3, none⟩ = some (.int .i64 o.h) := (blk_cell B5.out 3).trans rfl
    go_wp2_with fail
    clear p0 fp0 k0 p1 fp1 k1 p2 fp2 k2 p3 fp3 k3
    (try rw [hg11])
    generalize hw3 : w2.alloc (.cells #[.int .i64 n.x, .int .i64 n.y, .int .i64 n.w, .int .i64 n.h] 23 (0, 0)) = w3 at B5 B6 B10 B11 HB ⊢
    clear hw3 hg11
    obtain ⟨bo, hbo⟩ : ∃ b, emptyB o = b := ⟨_, rfl⟩
    rw [hbo] at K2
    have HBO := Aside0.mk hbo
    clear hbo
    refine (K2.out _).mono ?_
    rintro e w4 ⟨rfl, hb⟩
    replace B5 := Aside0.mk (blk_below B5.out hb)
    replace B6 := Aside0.mk (blk_below B6.out hb)
    replace B10 := Aside0.mk (blk_below B10.out hb)
    replace B11 := Aside0.mk (blk_below B11.out hb)
    replace HB := Aside0.mk (below_step HB.out hb)
    clear hb K2
    have p0 : w4.cell? ⟨W.heap.size, 0, none⟩ = some (.int .i64 (o.x)) := (blk_cell B5.out 0).trans rfl
    have fp0 := blk_frozen B5.out 0
    have p1 : w4.cell? ⟨W.heap.size, 1, none⟩ = some (.int .i64 (o.y)) := (blk_cell B5.out 1).trans rfl
    have fp1 := blk_frozen B5.out 1
    have p2 : w4.cell? ⟨W.heap.size, 2, none⟩ = some (.int .i64 (o.w)) := (blk_cell B5.out 2).trans rfl
    have fp2 := blk_frozen B5.out 2
    have p3 : w4.cell? ⟨W.heap.size, 3, none⟩ = some (.int .i64 (o.h)) := (blk_cell B5.out 3).trans rfl
    have fp3 := blk_frozen B5.out 3
    have q0 : w4.cell? ⟨g11, 0, none⟩ = some (.int .i64 (n.x)) := (blk_cell B11.out 0).trans rfl
    have fq0 := blk_frozen B11.out 0
    have q1 : w4.cell? ⟨g11, 1, none⟩ = some (.int .i64 (n.y)) := (blk_cell B11.out 1).trans rfl
    have fq1 := blk_frozen B11.out 1
    have q2 : w4.cell? ⟨g11, 2, none⟩ = some (.int .i64 (n.w)) := (blk_cell B11.out 2).trans rfl
    have fq2 := blk_frozen B11.out 2
    have q3 : w4.cell? ⟨g11, 3, none⟩ = some (.int .i64 (n.h)) := (blk_cell B11.out 3).trans rfl
    have fq3 := blk_frozen B11.out 3
    go_upto_if 31 with fail
    go_cut [] (fun wx => Aside0 (wx.heap[W.heap.size + 1]? = some (.cells #[.int .i64 n.x, .int .i64 n.y, .int .i64 n.w, .int .i64 n.h] 23 (0, 0))) ∧ Aside0 (wx.heap[W.heap.size + 1 + 1 + 1]? = some (.cells #[.int .i64 0, .int .i64 0, .int .i64 0, .int .i64 0] 23 (0, 0))) ∧ Aside0 (wx.heap[g11]? = some (.cells #[.int .i64 i.x, .int .i64 i.y, .int .i64 i.w, .int .i64 i.h] 23 (0, 0))) ∧ Aside0 (Below W.heap.size W wx))
    case first =>
      have hz := HZ.out
      cases bo
      · have en : i = o := by rw [HI.out]; unfold inP; rw [if_neg (by rw [HBO.out]; decide)]
        have EN := Aside0.mk en
        clear en
        go_wp2_with fail
        go_meet
        rw [EN.out]
        exact ⟨⟨put4_far B6.out (by omega) _ _ _ _⟩, ⟨put4_far B10.out (by omega) _ _ _ _⟩, ⟨put4 B11.out _ _ _ _⟩, ⟨by (repeat (refine below_set ?_ (by omega))); exact HB.out⟩⟩
      · have en : i = n := by rw [HI.out]; unfold inP; rw [if_pos HBO.out]
        have EN := Aside0.mk en
        clear en
        go_wp2_with fail
        go_meet
        rw [EN.out]
        exact ⟨B6, B10, B11, HB⟩
    case rest =>
      clear p0 fp0 p1 fp1 p2 fp2 p3 fp3
      clear q0 fq0 q1 fq1 q2 fq2 q3 fq3
      clear B5 B6 B10 B11 HB HBO
      obtain ⟨B6, B10, B11, HB⟩ := hcut
      have hz := HZ.out
      have p0 : wc.cell? ⟨g11, 0, none⟩ = some (.int .i64 (i.x)) := (blk_cell B11.out 0).trans rfl
      have fp0 := blk_frozen B11.out 0
      have p1 : wc.cell? ⟨g11, 1, none⟩ = some (.int .i64 (i.y)) := (blk_cell B11.out 1).trans rfl
      have fp1 := blk_frozen B11.out 1
      have p2 : wc.cell? ⟨g11, 2, none⟩ = some (.int .i64 (i.w)) := (blk_cell B11.out 2).trans rfl
      have fp2 := blk_frozen B11.out 2
      have p3 : wc.cell? ⟨g11, 3, none⟩ = some (.int .i64 (i.h)) := (blk_cell B11.out 3).trans rfl
      have fp3 := blk_frozen B11.out 3
      have k0 : wc.cell? ⟨W.heap.size + 1, 0, none⟩ = some (.int .i64 (n.x)) := (blk_cell B6.out 0).trans rfl
      have fk0 := blk_frozen B6.out 0
      have k1 : wc.cell? ⟨W.heap.size + 1, 1, none⟩ = some (.int .i64 (n.y)) := (blk_cell B6.out 1).trans rfl
      have fk1 := blk_frozen B6.out 1
      have k2 : wc.cell? ⟨W.heap.size + 1, 2, none⟩ = some (.int .i64 (n.w)) := (blk_cell B6.out 2).trans rfl
      have fk2 := blk_frozen B6.out 2
      have k3 : wc.cell? ⟨W.heap.size + 1, 3, none⟩ = some (.int .i64 (n.h)) := (blk_cell B6.out 3).trans rfl
      have fk3 := blk_frozen B6.out 3
      have qB := HB.out
      clear HB
      go_wp2_with fail
      refine start_ (n := 18) (S := fun w' => w'.cell? ⟨g11, 0, none⟩ = some (.int .i64 i.x) ∧ w'.cell? ⟨g11, 1, none⟩ = some (.int .i64 i.y) ∧ w'.cell? ⟨g11, 2, none⟩ = some (.int .i64 i.w) ∧ w'.cell? ⟨g11, 3, none⟩ = some (.int .i64 i.h) ∧ w'.cell? ⟨W.heap.size + 1, 0, none⟩ = some (.int .i64 n.x) ∧ w'.cell? ⟨W.heap.size + 1, 1, none⟩ = some (.int .i64 n.y) ∧ w'.cell? ⟨W.heap.size + 1, 2, none⟩ = some (.int .i64 n.w) ∧ w'.cell? ⟨W.heap.size + 1, 3, none⟩ = some (.int .i64 n.h)) (ds := []) #[false, false, false, false, false, false, false, false, false, false, false, false, false, false, false, false, false, false] (by kernel_rfl) rfl rfl ⟨p0, p1, p2, p3, k0, k1, k2, k3⟩ (fun hHeld => ?_)
      refine with_tabW FlST.tab7 FlST.bits7 (fun HT_ HW_ => ?_)
      have qB0 := below_drew qB
      clear qB
      have qB := qB0
      clear qB0
      replace B10 := Aside0.mk (blk_drew B10.out)
      generalize wc.drew = wr at qB hHeld B10 ⊢
      refine pure_ (i := 0) (N := some 33) (v := ?_) (a' := ?_) #[true, false, false, false, false, false, false, false, false, false, false, false, false, false, false, false, false, false] rfl rfl (any_of HT_.out (by kernel_rfl)) (fun _ _ _ h => h) (Or.inl ⟨by rfl, ?_⟩) ?_ ?_
      rotate_left
      · intro w'
        go_simp
        with_reducible rfl
      rotate_left
      · simp only [Act.put, List.setIfInBounds_toArray, List.set_cons_zero, List.set_cons_succ, i64_w, i32_w]
        rfl
      refine take_ (i := 1) (N := some 34) (v := ?_) (a' := ?_) #[true, true, false, false, false, false, false, false, false, false, false, false, false, false, false, false, false, false] rfl rfl (take_ofW HT_.out HW_.out (by kernel_rfl)) (fun _ _ _ h => h) (Or.inl ⟨by rfl, ?_⟩) hHeld ?_ ?_
      rotate_left
      · rintro w' ⟨s0, s1, s2, s3, s4, s5, s6, s7⟩
        go_simp
        with_reducible rfl
      rotate_left
      · simp only [Act.put, List.setIfInBounds_toArray, List.set_cons_zero, List.set_cons_succ, i64_w, i32_w]
        rfl
      refine pure_ (i := 2) (N := some 35) (v := ?_) (a' := ?_) #[true, true, true, false, false, false, false, false, false, false, false, false, false, false, false, false, false, false] rfl rfl (any_of HT_.out (by kernel_rfl)) (fun _ _ _ h => h) (Or.inl ⟨by rfl, ?_⟩) ?_ ?_
      rotate_left
      · intro w'
        go_simp
        with_reducible rfl
      rotate_left
      · simp only [Act.put, List.setIfInBounds_toArray, List.set_cons_zero, List.set_cons_succ, i64_w, i32_w]
        rfl
      refine take_ (i := 3) (N := some 36) (v := ?_) (a' := ?_) #[true, true, true, true, false, false, false, false, false, false, false, false, false, false, false, false, false, false] rfl rfl (take_ofW HT_.out HW_.out (by kernel_rfl)) (fun _ _ _ h => h) (Or.inl ⟨by rfl, ?_⟩) hHeld ?_ ?_
      rotate_left
      · rintro w' ⟨s0, s1, s2, s3, s4, s5, s6, s7⟩
        go_simp
        with_reducible rfl
      rotate_left
      · simp only [Act.put, List.setIfInBounds_toArray, List.set_cons_zero, List.set_cons_succ, i64_w, i32_w]
        rfl
      refine pure_ (i := 4) (N := some 37) (v := ?_) (a' := ?_) #[true, true, true, true, true, false, false, false, false, false, false, false, false, false, false, false, false, false] rfl rfl (any_of HT_.out (by kernel_rfl)) (fun _ _ _ h => h) (Or.inl ⟨by rfl, ?_⟩) ?_ ?_
      rotate_left
      · intro w'
        go_simp
        with_reducible rfl
      rotate_left
      · simp only [Act.put, List.setIfInBounds_toArray, List.set_cons_zero, List.set_cons_succ, i64_w, i32_w]
        rfl
      refine pure_ (i := 6) (N := some 39) (v := ?_) (a' := ?_) #[true, true, true, true, true, false, true, false, false, false, false, false, false, false, false, false, false, false] rfl rfl (any_of HT_.out (by kernel_rfl)) (fun _ _ _ h => h) (Or.inl ⟨by rfl, ?_⟩) ?_ ?_
      rotate_left
      · intro w'
        go_simp
        with_reducible rfl
      rotate_left
      · simp only [Act.put, List.setIfInBounds_toArray, List.set_cons_zero, List.set_cons_succ, i64_w, i32_w]
        rfl
      refine take_ (i := 7) (N := some 40) (v := ?_) (a' := ?_) #[true, true, true, true, true, false, true, true, false, false, false, false, false, false, false, false, false, false] rfl rfl (take_ofW HT_.out HW_.out (by kernel_rfl)) (fun _ _ _ h => h) (Or.inl ⟨by rfl, ?_⟩) hHeld ?_ ?_
      rotate_left
      · rintro w' ⟨s0, s1, s2, s3, s4, s5, s6, s7⟩
        go_simp
        with_reducible rfl
      rotate_left
      · simp only [Act.put, List.setIfInBounds_toArray, List.set_cons_zero, List.set_cons_succ, i64_w, i32_w]
        rfl
      refine pure_ (i := 8) (N := some 41) (v := ?_) (a' := ?_) #[true, true, true, true, true, false, true, true, true, false, false, false, false, false, false, false, false, false] rfl rfl (any_of HT_.out (by kernel_rfl)) (fun _ _ _ h => h) (Or.inl ⟨by rfl, ?_⟩) ?_ ?_
      rotate_left
      · intro w'
        go_simp
        with_reducible rfl
      rotate_left
      · simp only [Act.put, List.setIfInBounds_toArray, List.set_cons_zero, List.set_cons_succ, i64_w, i32_w]
        rfl
      refine take_ (i := 9) (N := some 42) (v := ?_) (a' := ?_) #[true, true, true, true, true, false, true, true, true, true, false, false, false, false, false, false, false, false] rfl rfl (take_ofW HT_.out HW_.out (by kernel_rfl)) (fun _ _ _ h => h) (Or.inl ⟨by rfl, ?_⟩) hHeld ?_ ?_
      rotate_left
      · rintro w' ⟨s0, s1, s2, s3, s4, s5, s6, s7⟩
        go_simp
        with_reducible rfl
      rotate_left
      · simp only [Act.put, List.setIfInBounds_toArray, List.set_cons_zero, List.set_cons_succ, i64_w, i32_w]
        rfl
      refine pure_ (i := 10) (N := some 43) (v := ?_) (a' := ?_) #[true, true, true, true, true, false, true, true, true, true, true, false, false, false, false, false, false, false] rfl rfl (any_of HT_.out (by kernel_rfl)) (fun _ _ _ h => h) (Or.inl ⟨by rfl, ?_⟩) ?_ ?_
      rotate_left
      · intro w'
        go_simp
        with_reducible rfl
      rotate_left
      · simp only [Act.put, List.setIfInBounds_toArray, List.set_cons_zero, List.set_cons_succ, i64_w, i32_w]
        rfl
      refine pure_ (i := 12) (N := some 45) (v := ?_) (a' := ?_) #[true, true, true, true, true, false, true, true, true, true, true, false, true, false, false, false, false, false] rfl rfl (any_of HT_.out (by kernel_rfl)) (fun _ _ _ h => h) (Or.inl ⟨by rfl, ?_⟩) ?_ ?_
      rotate_left
      · intro w'
        go_simp
        with_reducible rfl
      rotate_left
      · simp only [Act.put, List.setIfInBounds_toArray, List.set_cons_zero, List.set_cons_succ, i64_w, i32_w]
        rfl
      refine pure_ (i := 13) (N := some 46) (v := ?_) (a' := ?_) #[true, true, true, true, true, false, true, true, true, true, true, false, true, true, false, false, false, false] rfl rfl (any_of HT_.out (by kernel_rfl)) (fun _ _ _ h => h) (Or.inl ⟨by rfl, ?_⟩) ?_ ?_
      rotate_left
      · intro w'
        go_simp
        with_reducible rfl
      rotate_left
      · simp only [Act.put, List.setIfInBounds_toArray, List.set_cons_zero, List.set_cons_succ, i64_w, i32_w]
        rfl
      refine take_ (i := 15) (N := some 48) (v := ?_) (a' := ?_) #[true, true, true, true, true, false, true, true, true, true, true, false, true, true, false, true, false, false] rfl rfl (take_ofW HT_.out HW_.out (by kernel_rfl)) (fun _ _ _ h => h) (Or.inl ⟨by rfl, ?_⟩) hHeld ?_ ?_
      rotate_left
      · rintro w' ⟨s0, s1, s2, s3, s4, s5, s6, s7⟩
        go_simp
        with_reducible rfl
      rotate_left
      · simp only [Act.put, List.setIfInBounds_toArray, List.set_cons_zero, List.set_cons_succ, i64_w, i32_w]
        rfl
      refine one_ (i := 5) (N := some 38) #[true, true, true, true, true, true, true, true, true, true, true, false, true, true, false, true, false, false] rfl rfl (one_of HT_.out (by kernel_rfl)) (by decide) (fun K hK => ?_)
      refine goes_ Try.func29 (by kernel_rfl) rfl #[.int .i64 i.x, .int .i64 i.w, .int .i64 x] (by rfl) rfl rfl (by (try simp only [List.map_toArray, List.map_cons, List.map_nil]); first | done | rfl) ?_
      refine (KA.out _).mono ?_
      rintro e wn ⟨rfl, hb⟩
      refine ⟨_, rfl, ?_⟩
      obtain ⟨s0, s1, s2, s3, s4, s5, s6, s7⟩ := hHeld
      replace s0 := cell_held hb s0
      replace s1 := cell_held hb s1
      replace s2 := cell_held hb s2
      replace s3 := cell_held hb s3
      replace s4 := cell_held hb s4
      replace s5 := cell_held hb s5
      replace s6 := cell_held hb s6
      replace s7 := cell_held hb s7
      replace qB := below_step (w := W) qB hb
      replace B10 := Aside0.mk (blk_below B10.out hb)
      clear hb
      refine hK.out _ _ ⟨s0, s1, s2, s3, s4, s5, s6, s7⟩ (fun hHeld => ?_)
      clear hK K s0 s1 s2 s3 s4 s5 s6 s7
      refine norm_ (a' := ?_) ?_ ?_
      rotate_left
      · show Act.put _ (some 38) _ = _
        simp only [Act.put, List.setIfInBounds_toArray, List.set_cons_zero, List.set_cons_succ, i64_w, i32_w]
        rfl
      refine one_ (i := 11) (N := some 44) #[true, true, true, true, true, true, true, true, true, true, true, true, true, true, false, true, false, false] rfl rfl (one_of HT_.out (by kernel_rfl)) (by decide) (fun K hK => ?_)
      refine goes_ Try.func29 (by kernel_rfl) rfl #[.int .i64 i.y, .int .i64 i.h, .int .i64 y] (by rfl) rfl rfl (by (try simp only [List.map_toArray, List.map_cons, List.map_nil]); first | done | rfl) ?_
      refine (KB.out _).mono ?_
      rintro e wn ⟨rfl, hb⟩
      refine ⟨_, rfl, ?_⟩
      obtain ⟨s0, s1, s2, s3, s4, s5, s6, s7⟩ := hHeld
      replace s0 := cell_held hb s0
      replace s1 := cell_held hb s1
      replace s2 := cell_held hb s2
      replace s3 := cell_held hb s3
      replace s4 := cell_held hb s4
      replace s5 := cell_held hb s5
      replace s6 := cell_held hb s6
      replace s7 := cell_held hb s7
      replace qB := below_step (w := W) qB hb
      replace B10 := Aside0.mk (blk_below B10.out hb)
      clear hb
      refine hK.out _ _ ⟨s0, s1, s2, s3, s4, s5, s6, s7⟩ (fun hHeld => ?_)
      clear hK K s0 s1 s2 s3 s4 s5 s6 s7
      refine norm_ (a' := ?_) ?_ ?_
      rotate_left
      · show Act.put _ (some 44) _ = _
        simp only [Act.put, List.setIfInBounds_toArray, List.set_cons_zero, List.set_cons_succ, i64_w, i32_w]
        rfl
      refine one_ (i := 14) (N := some 47) #[true, true, true, true, true, true, true, true, true, true, true, true, true, true, true, true, false, false] rfl rfl (one_of HT_.out (by kernel_rfl)) (by decide) (fun K hK => ?_)
      refine goes_ Try.func28 (by kernel_rfl) rfl #[.int .i64 mx, .int .i64 my, .int .i64 x, .int .i64 y] (by rfl) rfl rfl (by (try simp only [List.map_toArray, List.map_cons, List.map_nil]); first | done | rfl) ?_
      refine (KL.out _).mono ?_
      rintro e wn ⟨rfl, hb⟩
      refine ⟨_, rfl, ?_⟩
      obtain ⟨s0, s1, s2, s3, s4, s5, s6, s7⟩ := hHeld
      replace s0 := cell_held hb s0
      replace s1 := cell_held hb s1
      replace s2 := cell_held hb s2
      replace s3 := cell_held hb s3
      replace s4 := cell_held hb s4
      replace s5 := cell_held hb s5
      replace s6 := cell_held hb s6
      replace s7 := cell_held hb s7
      replace qB := below_step (w := W) qB hb
      replace B10 := Aside0.mk (blk_below B10.out hb)
      clear hb
      refine hK.out _ _ ⟨s0, s1, s2, s3, s4, s5, s6, s7⟩ (fun hHeld => ?_)
      clear hK K s0 s1 s2 s3 s4 s5 s6 s7
      refine norm_ (a' := ?_) ?_ ?_
      rotate_left
      · show Act.put _ (some 47) _ = _
        simp only [Act.put, List.setIfInBounds_toArray, List.set_cons_zero, List.set_cons_succ, i64_w, i32_w]
        rfl
      refine one_ (i := 16) (N := some 49) #[true, true, true, true, true, true, true, true, true, true, true, true, true, true, true, true, true, false] rfl rfl (one_of HT_.out (by kernel_rfl)) (by decide) (fun K hK => ?_)
      refine goes_ Try.func27 (by kernel_rfl) rfl #[.agg #[.int .i64 L.x, .int .i64 L.y, .int .i64 L.w, .int .i64 L.h], .agg #[.int .i64 n.x, .int .i64 n.y, .int .i64 n.w, .int .i64 n.h]] (by rfl) rfl rfl (by (try simp only [List.map_toArray, List.map_cons, List.map_nil]); first | done | rfl) ?_
      refine (KK.out _).mono ?_
      rintro e wn ⟨rfl, hb⟩
      refine ⟨_, rfl, ?_⟩
      obtain ⟨s0, s1, s2, s3, s4, s5, s6, s7⟩ := hHeld
      replace s0 := cell_held hb s0
      replace s1 := cell_held hb s1
      replace s2 := cell_held hb s2
      replace s3 := cell_held hb s3
      replace s4 := cell_held hb s4
      replace s5 := cell_held hb s5
      replace s6 := cell_held hb s6
      replace s7 := cell_held hb s7
      replace qB := below_step (w := W) qB hb
      replace B10 := Aside0.mk (blk_below B10.out hb)
      clear hb
      refine hK.out _ _ ⟨s0, s1, s2, s3, s4, s5, s6, s7⟩ (fun hHeld => ?_)
      clear hK K s0 s1 s2 s3 s4 s5 s6 s7
      refine norm_ (a' := ?_) ?_ ?_
      rotate_left
      · show Act.put _ (some 49) _ = _
        simp only [Act.put, List.setIfInBounds_toArray, List.set_cons_zero, List.set_cons_succ, i64_w, i32_w]
        rfl
      refine one_ (i := 17) (N := none) #[true, true, true, true, true, true, true, true, true, true, true, true, true, true, true, true, true, true] rfl rfl (one_of HT_.out (by kernel_rfl)) (by decide) (fun K hK => ?_)
      obtain ⟨s0, s1, s2, s3, s4, s5, s6, s7⟩ := hHeld
      have t0 : wn.cell? ⟨W.heap.size + 1 + 1 + 1, 0, none⟩ = some (.int .i64 0) := (blk_cell B10.out 0).trans rfl
      have ft0 := blk_frozen B10.out 0
      have t1 : wn.cell? ⟨W.heap.size + 1 + 1 + 1, 1, none⟩ = some (.int .i64 0) := (blk_cell B10.out 1).trans rfl
      have ft1 := blk_frozen B10.out 1
      have t2 : wn.cell? ⟨W.heap.size + 1 + 1 + 1, 2, none⟩ = some (.int .i64 0) := (blk_cell B10.out 2).trans rfl
      have ft2 := blk_frozen B10.out 2
      have t3 : wn.cell? ⟨W.heap.size + 1 + 1 + 1, 3, none⟩ = some (.int .i64 0) := (blk_cell B10.out 3).trans rfl
      have ft3 := blk_frozen B10.out 3
      refine skip_ (w1 := ?_) (by rfl) rfl ?_ ?_
      rotate_left
      · go_simp
        rfl
      refine hK.out _ _ ⟨put4_cell (g := W.heap.size + 1 + 1 + 1) (by omega) s0 _ _ _ _, put4_cell (g := W.heap.size + 1 + 1 + 1) (by omega) s1 _ _ _ _, put4_cell (g := W.heap.size + 1 + 1 + 1) (by omega) s2 _ _ _ _, put4_cell (g := W.heap.size + 1 + 1 + 1) (by omega) s3 _ _ _ _, put4_cell (g := W.heap.size + 1 + 1 + 1) (by omega) s4 _ _ _ _, put4_cell (g := W.heap.size + 1 + 1 + 1) (by omega) s5 _ _ _ _, put4_cell (g := W.heap.size + 1 + 1 + 1) (by omega) s6 _ _ _ _, put4_cell (g := W.heap.size + 1 + 1 + 1) (by omega) s7 _ _ _ _⟩ (fun hHeld => ?_)
      clear hK K
      refine done_ (done_of HT_.out (by kernel_rfl)) ?_
      go_wp2
      exact bodyPost_ret (v := .agg #[.int .i64 R.x, .int .i64 R.y, .int .i64 R.w, .int .i64 R.h]) (by simp [results, Try.results9, go_sem, t0, ft0, t1, ft1, t2, ft2, t3, ft3]) rfl ⟨rfl, by (repeat (refine below_set ?_ (by omega))); exact qB⟩
end Go.Proofs.Ytajpnmiblepmkaa.Fl
