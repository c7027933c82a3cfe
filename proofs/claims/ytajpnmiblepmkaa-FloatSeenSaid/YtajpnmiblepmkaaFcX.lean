/- FloatSeen: behind a move some of a client is still to be seen, and it is of its own size. -/
import Derived.Test.YtajpnmiblepmkaaFcL
import Derived.Test.YtajpnmiblepmkaaFcI

namespace Go.Proofs.Ytajpnmiblepmkaa.Fl
open Go.RowKit Go.Proofs.YtajpnmiblepmkaaW.PrintMore Go.Proofs.YtajpnmiblepmkaaW.PrintWords Go.Proofs.YtajpnmiblepmkaaW.PrintLast Go.Proofs.Ytajpnmiblepmkaa.Geo Go.Proofs.Ytajpnmiblepmkaa.Sz
set_option linter.unusedVariables false
set_option linter.unusedSimpArgs false
attribute [local go_sem] max2_int min2_int max_two min_two max_three min_three
attribute [local go_sem high] eqR
def FcXT.T3 : Bool × List (List Nat × List Nat) := (true, [([], []), ([], []), ([], []), ([], []), ([1, 2, 3], [1, 2, 3]), ([0, 4], [0, 4]), ([5, 4], [5]), ([6, 6], [6]), ([6, 7], [6, 7]), ([8, 7, 0, 1, 2, 3, 4, 5, 6, 7, 8], [8])])
def FcXT.B3 : List Nat := [0, 0, 0, 0, 14, 31, 63, 127, 255, 511]
theorem FcXT.tab3 : rtab .any (opsOf Try.f7 3) = FcXT.T3 := by kernel_rfl
theorem FcXT.bits3 : waitsOk FcXT.T3.2 FcXT.B3 = true := by kernel_rfl

set_option maxHeartbeats 16000000 in
set_option maxRecDepth 100000 in
theorem seen_any (r k : Rc) (dx dy : Int) (W : World) : Calls Try.prog 7 #[.agg #[.int .i64 r.x, .int .i64 r.y, .int .i64 r.w, .int .i64 r.h], .agg #[.int .i64 k.x, .int .i64 k.y, .int .i64 k.w, .int .i64 k.h], .int .i64 dx, .int .i64 dy] W fun e w' => e = .returned (.bool true) ∧ Below W.heap.size W w' := by
  have K1 := c_move r k dx dy
  have K2 := c_gEmpty r
  have K3 := c_gEmpty k
  have KS := c_gShift r dx dy
  by_cases h : emptyB r = true
  · rw [← move_empty (work := k) (Or.inl h)] at KS
    obtain ⟨A, hA⟩ : ∃ A, A = moveP r k dx dy := ⟨_, rfl⟩
    rw [← hA] at K1 KS
    rw [h] at K2
    replace K1 := Aside0.mk K1; replace K2 := Aside0.mk K2; replace KS := Aside0.mk KS
    clear K3 h hA
    go_enter Try.func7, Try.ntmps7
    go_wp2_with fail
    refine (K1.out _).mono ?_
    rintro e w1 ⟨rfl, hb⟩
    have B4 := Aside0.mk (blk_below (g := W.heap.size) (o := .cells #[.int .i64 r.x, .int .i64 r.y, .int .i64 r.w, .int .i64 r.h] 23 (0, 0)) (by (repeat (first | exact new_at (by simp only [World.size_alloc, World.size_drew]; done) | refine blk_drew ?_ | refine blk_alloc ?_ _))) hb)
    have B5 := Aside0.mk (blk_below (g := W.heap.size + 1) (o := .cells #[.int .i64 k.x, .int .i64 k.y, .int .i64 k.w, .int .i64 k.h] 23 (0, 0)) (by (repeat (first | exact new_at (by simp only [World.size_alloc, World.size_drew]; done) | refine blk_drew ?_ | refine blk_alloc ?_ _))) hb)
    have qB := below_step (w := W) (by (repeat (first | exact Below.refl _ _ | apply below_alloc))) hb
    clear hb
    replace B4 := Aside0.mk (blk_alloc B4.out (.cells #[.int .i64 A.x, .int .i64 A.y, .int .i64 A.w, .int .i64 A.h] 23 (0, 0))); replace B5 := Aside0.mk (blk_alloc B5.out (.cells #[.int .i64 A.x, .int .i64 A.y, .int .i64 A.w, .int .i64 A.h] 23 (0, 0)))
    have B9 := Aside0.mk (blk_new w1 (.cells #[.int .i64 A.x, .int .i64 A.y, .int .i64 A.w, .int .i64 A.h] 23 (0, 0)))
    replace qB := below_alloc qB (.cells #[.int .i64 A.x, .int .i64 A.y, .int .i64 A.w, .int .i64 A.h] 23 (0, 0))
    have p0 : (w1.alloc (.cells #[.int .i64 A.x, .int .i64 A.y, .int .i64 A.w, .int .i64 A.h] 23 (0, 0))).cell? ⟨W.heap.size, 0, none⟩ = some (.int .i64 (r.x)) := (blk_cell B4.out 0).trans rfl
    have p1 : (w1.alloc (.cells #[.int .i64 A.x, .int .i64 A.y, .int .i64 A.w, .int .i64 A.h] 23 (0, 0))).cell? ⟨W.heap.size, 1, none⟩ = some (.int .i64 (r.y)) := (blk_cell B4.out 1).trans rfl
    have p2 : (w1.alloc (.cells #[.int .i64 A.x, .int .i64 A.y, .int .i64 A.w, .int .i64 A.h] 23 (0, 0))).cell? ⟨W.heap.size, 2, none⟩ = some (.int .i64 (r.w)) := (blk_cell B4.out 2).trans rfl
    have p3 : (w1.alloc (.cells #[.int .i64 A.x, .int .i64 A.y, .int .i64 A.w, .int .i64 A.h] 23 (0, 0))).cell? ⟨W.heap.size, 3, none⟩ = some (.int .i64 (r.h)) := (blk_cell B4.out 3).trans rfl
    go_wp2_with fail
    refine (K2.out _).mono ?_
    rintro e w3 ⟨rfl, hb⟩
    clear p0 p1 p2 p3
    replace B4 := Aside0.mk (blk_below B4.out hb)
    replace B5 := Aside0.mk (blk_below B5.out hb)
    replace B9 := Aside0.mk (blk_below B9.out hb)
    replace qB := below_step (w := W) qB hb
    clear hb
    have p0 : w3.cell? ⟨w1.heap.size, 0, none⟩ = some (.int .i64 (A.x)) := (blk_cell B9.out 0).trans rfl
    have p1 : w3.cell? ⟨w1.heap.size, 1, none⟩ = some (.int .i64 (A.y)) := (blk_cell B9.out 1).trans rfl
    have p2 : w3.cell? ⟨w1.heap.size, 2, none⟩ = some (.int .i64 (A.w)) := (blk_cell B9.out 2).trans rfl
    have p3 : w3.cell? ⟨w1.heap.size, 3, none⟩ = some (.int .i64 (A.h)) := (blk_cell B9.out 3).trans rfl
    have q0 : w3.cell? ⟨W.heap.size, 0, none⟩ = some (.int .i64 (r.x)) := (blk_cell B4.out 0).trans rfl
    have q1 : w3.cell? ⟨W.heap.size, 1, none⟩ = some (.int .i64 (r.y)) := (blk_cell B4.out 1).trans rfl
    have q2 : w3.cell? ⟨W.heap.size, 2, none⟩ = some (.int .i64 (r.w)) := (blk_cell B4.out 2).trans rfl
    have q3 : w3.cell? ⟨W.heap.size, 3, none⟩ = some (.int .i64 (r.h)) := (blk_cell B4.out 3).trans rfl
    clear B4 B5 B9
    go_wp2_with fail
    refine start_ (n := 10) (S := fun w' => w'.cell? ⟨w1.heap.size, 0, none⟩ = some (.int .i64 A.x) ∧ w'.cell? ⟨w1.heap.size, 1, none⟩ = some (.int .i64 A.y) ∧ w'.cell? ⟨w1.heap.size, 2, none⟩ = some (.int .i64 A.w) ∧ w'.cell? ⟨w1.heap.size, 3, none⟩ = some (.int .i64 A.h) ∧ w'.cell? ⟨W.heap.size, 0, none⟩ = some (.int .i64 r.x) ∧ w'.cell? ⟨W.heap.size, 1, none⟩ = some (.int .i64 r.y) ∧ w'.cell? ⟨W.heap.size, 2, none⟩ = some (.int .i64 r.w) ∧ w'.cell? ⟨W.heap.size, 3, none⟩ = some (.int .i64 r.h)) (ds := []) #[false, false, false, false, false, false, false, false, false, false] (by kernel_rfl) rfl rfl ⟨p0, p1, p2, p3, q0, q1, q2, q3⟩ (fun hHeld => ?_)
    refine with_tabW FcXT.tab3 FcXT.bits3 (fun HT_ HW_ => ?_)
    have qB0 := below_drew qB
    clear qB
    have qB := qB0
    clear qB0
    generalize w3.drew = wr at qB hHeld ⊢
    refine take_ (i := 0) (N := some 22) (v := ?_) (a' := ?_) #[true, false, false, false, false, false, false, false, false, false] rfl rfl (take_ofW HT_.out HW_.out (by kernel_rfl)) (fun _ _ _ h => h) (Or.inl ⟨by rfl, ?_⟩) hHeld ?_ ?_
    rotate_left
    · rintro w' ⟨s0, s1, s2, s3, s4, s5, s6, s7⟩
      go_simp
      with_reducible rfl
    rotate_left
    · simp only [Act.put, List.setIfInBounds_toArray, List.set_cons_zero, List.set_cons_succ, i64_w, i32_w]
      rfl
    refine take_ (i := 1) (N := some 23) (v := ?_) (a' := ?_) #[true, true, false, false, false, false, false, false, false, false] rfl rfl (take_ofW HT_.out HW_.out (by kernel_rfl)) (fun _ _ _ h => h) (Or.inl ⟨by rfl, ?_⟩) hHeld ?_ ?_
    rotate_left
    · rintro w' ⟨s0, s1, s2, s3, s4, s5, s6, s7⟩
      go_simp
      with_reducible rfl
    rotate_left
    · simp only [Act.put, List.setIfInBounds_toArray, List.set_cons_zero, List.set_cons_succ, i64_w, i32_w]
      rfl
    refine pure_ (i := 2) (N := some 24) (v := ?_) (a' := ?_) #[true, true, true, false, false, false, false, false, false, false] rfl rfl (any_of HT_.out (by kernel_rfl)) (fun _ _ _ h => h) (Or.inl ⟨by rfl, ?_⟩) ?_ ?_
    rotate_left
    · intro w'
      go_simp
      with_reducible rfl
    rotate_left
    · simp only [Act.put, List.setIfInBounds_toArray, List.set_cons_zero, List.set_cons_succ, i64_w, i32_w]
      rfl
    refine pure_ (i := 3) (N := some 25) (v := ?_) (a' := ?_) #[true, true, true, true, false, false, false, false, false, false] rfl rfl (any_of HT_.out (by kernel_rfl)) (fun _ _ _ h => h) (Or.inl ⟨by rfl, ?_⟩) ?_ ?_
    rotate_left
    · intro w'
      go_simp
      with_reducible rfl
    rotate_left
    · simp only [Act.put, List.setIfInBounds_toArray, List.set_cons_zero, List.set_cons_succ, i64_w, i32_w]
      rfl
    refine one_ (i := 4) (N := some 26) #[true, true, true, true, true, false, false, false, false, false] rfl rfl (one_of HT_.out (by kernel_rfl)) (by decide) (fun K hK => ?_)
    refine goes_ Try.func20 (by kernel_rfl) rfl #[.agg #[.int .i64 r.x, .int .i64 r.y, .int .i64 r.w, .int .i64 r.h], .int .i64 dx, .int .i64 dy] (by rfl) rfl rfl (by (try simp only [List.map_toArray, List.map_cons, List.map_nil]); first | done | rfl) ?_
    refine (KS.out _).mono ?_
    rintro e wn ⟨rfl, hb⟩
    refine ⟨_, rfl, ?_⟩
    obtain ⟨s0, s1, s2, s3, s4, s5, s6, s7⟩ := hHeld
    replace s0 := cell_held hb s0
    replace s1 := cell_held hb s1
    replace s2 := cell_held hb s2
    replace s3 := cell_held hb s3
    replace s4 := cell_held hb s4
    replace s5 := cell_held hb s5
    replace s6 := cell_held hb s6
    replace s7 := cell_held hb s7
    replace qB := below_step (w := W) qB hb
    clear hb
    refine hK.out _ _ ⟨s0, s1, s2, s3, s4, s5, s6, s7⟩ (fun hHeld => ?_)
    clear hK K s0 s1 s2 s3 s4 s5 s6 s7
    refine norm_ (a' := ?_) ?_ ?_
    rotate_left
    · show Act.put _ (some 26) _ = _
      simp only [Act.put, List.setIfInBounds_toArray, List.set_cons_zero, List.set_cons_succ, i64_w, i32_w]
      rfl
    refine pure_ (i := 5) (N := some 27) (v := ?_) (a' := ?_) #[true, true, true, true, true, true, false, false, false, false] rfl rfl (any_of HT_.out (by kernel_rfl)) (fun _ _ _ h => h) (Or.inl ⟨by rfl, ?_⟩) ?_ ?_
    rotate_left
    · intro w'
      go_simp
      with_reducible rfl
    rotate_left
    · simp only [Act.put, List.setIfInBounds_toArray, List.set_cons_zero, List.set_cons_succ, i64_w, i32_w]
      rfl
    refine pure_ (i := 6) (N := some 28) (v := ?_) (a' := ?_) #[true, true, true, true, true, true, true, false, false, false] rfl rfl (any_of HT_.out (by kernel_rfl)) (fun _ _ _ h => h) (Or.inl ⟨by rfl, ?_⟩) ?_ ?_
    rotate_left
    · intro w'
      go_simp
      with_reducible rfl
    rotate_left
    · simp only [Act.put, List.setIfInBounds_toArray, List.set_cons_zero, List.set_cons_succ, i64_w, i32_w]
      rfl
    refine one_ (i := 7) (N := some 29) #[true, true, true, true, true, true, true, true, false, false] rfl rfl (one_of HT_.out (by kernel_rfl)) (by decide) (fun K hK => ?_)
    refine goes_ Try.func11 (by kernel_rfl) rfl #[] (by rfl) rfl rfl (by (try simp only [List.map_toArray, List.map_cons, List.map_nil]); first | done | rfl) ?_
    refine (c_awake _).mono ?_
    rintro e wn ⟨rfl, hb⟩
    refine ⟨_, rfl, ?_⟩
    obtain ⟨s0, s1, s2, s3, s4, s5, s6, s7⟩ := hHeld
    replace s0 := cell_held hb s0
    replace s1 := cell_held hb s1
    replace s2 := cell_held hb s2
    replace s3 := cell_held hb s3
    replace s4 := cell_held hb s4
    replace s5 := cell_held hb s5
    replace s6 := cell_held hb s6
    replace s7 := cell_held hb s7
    replace qB := below_step (w := W) qB hb
    clear hb
    refine hK.out _ _ ⟨s0, s1, s2, s3, s4, s5, s6, s7⟩ (fun hHeld => ?_)
    clear hK K s0 s1 s2 s3 s4 s5 s6 s7
    refine norm_ (a' := ?_) ?_ ?_
    rotate_left
    · show Act.put _ (some 29) _ = _
      simp only [Act.put, List.setIfInBounds_toArray, List.set_cons_zero, List.set_cons_succ, i64_w, i32_w]
      rfl
    refine pure_ (i := 8) (N := some 30) (v := ?_) (a' := ?_) #[true, true, true, true, true, true, true, true, true, false] rfl rfl (any_of HT_.out (by kernel_rfl)) (fun _ _ _ h => h) (Or.inl ⟨by rfl, ?_⟩) ?_ ?_
    rotate_left
    · intro w'
      go_simp
      with_reducible rfl
    rotate_left
    · simp only [Act.put, List.setIfInBounds_toArray, List.set_cons_zero, List.set_cons_succ, i64_w, i32_w]
      rfl
    refine pure_ (i := 9) (N := some 8) (v := ?_) (a' := ?_) #[true, true, true, true, true, true, true, true, true, true] rfl rfl (any_of HT_.out (by kernel_rfl)) (fun _ _ _ h => h) (Or.inl ⟨by rfl, ?_⟩) ?_ ?_
    rotate_left
    · intro w'
      go_simp
      with_reducible rfl
    rotate_left
    · simp only [Act.put, List.setIfInBounds_toArray, List.set_cons_zero, List.set_cons_succ, i64_w, i32_w]
      rfl
    refine done_ (done_of HT_.out (by kernel_rfl)) ?_
    go_wp2
    go_ret
    exact ⟨rfl, qB⟩
  · simp only [Bool.not_eq_true] at h
    by_cases h' : emptyB k = true
    · rw [← move_empty (r := r) (Or.inr h')] at KS
      obtain ⟨A, hA⟩ : ∃ A, A = moveP r k dx dy := ⟨_, rfl⟩
      rw [← hA] at K1 KS
      rw [h] at K2
      rw [h'] at K3
      replace K1 := Aside0.mk K1; replace K2 := Aside0.mk K2; replace K3 := Aside0.mk K3; replace KS := Aside0.mk KS
      clear h h' hA
      go_enter Try.func7, Try.ntmps7
      go_wp2_with fail
      refine (K1.out _).mono ?_
      rintro e w1 ⟨rfl, hb⟩
      have B4 := Aside0.mk (blk_below (g := W.heap.size) (o := .cells #[.int .i64 r.x, .int .i64 r.y, .int .i64 r.w, .int .i64 r.h] 23 (0, 0)) (by (repeat (first | exact new_at (by simp only [World.size_alloc, World.size_drew]; done) | refine blk_drew ?_ | refine blk_alloc ?_ _))) hb)
      have B5 := Aside0.mk (blk_below (g := W.heap.size + 1) (o := .cells #[.int .i64 k.x, .int .i64 k.y, .int .i64 k.w, .int .i64 k.h] 23 (0, 0)) (by (repeat (first | exact new_at (by simp only [World.size_alloc, World.size_drew]; done) | refine blk_drew ?_ | refine blk_alloc ?_ _))) hb)
      have qB := below_step (w := W) (by (repeat (first | exact Below.refl _ _ | apply below_alloc))) hb
      clear hb
      replace B4 := Aside0.mk (blk_alloc B4.out (.cells #[.int .i64 A.x, .int .i64 A.y, .int .i64 A.w, .int .i64 A.h] 23 (0, 0))); replace B5 := Aside0.mk (blk_alloc B5.out (.cells #[.int .i64 A.x, .int .i64 A.y, .int .i64 A.w, .int .i64 A.h] 23 (0, 0)))
      have B9 := Aside0.mk (blk_new w1 (.cells #[.int .i64 A.x, .int .i64 A.y, .int .i64 A.w, .int .i64 A.h] 23 (0, 0)))
      replace qB := below_alloc qB (.cells #[.int .i64 A.x, .int .i64 A.y, .int .i64 A.w, .int .i64 A.h] 23 (0, 0))
      have p0 : (w1.alloc (.cells #[.int .i64 A.x, .int .i64 A.y, .int .i64 A.w, .int .i64 A.h] 23 (0, 0))).cell? ⟨W.heap.size, 0, none⟩ = some (.int .i64 (r.x)) := (blk_cell B4.out 0).trans rfl
      have p1 : (w1.alloc (.cells #[.int .i64 A.x, .int .i64 A.y, .int .i64 A.w, .int .i64 A.h] 23 (0, 0))).cell? ⟨W.heap.size, 1, none⟩ = some (.int .i64 (r.y)) := (blk_cell B4.out 1).trans rfl
      have p2 : (w1.alloc (.cells #[.int .i64 A.x, .int .i64 A.y, .int .i64 A.w, .int .i64 A.h] 23 (0, 0))).cell? ⟨W.heap.size, 2, none⟩ = some (.int .i64 (r.w)) := (blk_cell B4.out 2).trans rfl
      have p3 : (w1.alloc (.cells #[.int .i64 A.x, .int .i64 A.y, .int .i64 A.w, .int .i64 A.h] 23 (0, 0))).cell? ⟨W.heap.size, 3, none⟩ = some (.int .i64 (r.h)) := (blk_cell B4.out 3).trans rfl
      go_wp2_with fail
      refine (K2.out _).mono ?_
      rintro e w3 ⟨rfl, hb⟩
      clear p0 p1 p2 p3
      replace B4 := Aside0.mk (blk_below B4.out hb)
      replace B5 := Aside0.mk (blk_below B5.out hb)
      replace B9 := Aside0.mk (blk_below B9.out hb)
      replace qB := below_step (w := W) qB hb
      clear hb
      have k0 : w3.cell? ⟨W.heap.size + 1, 0, none⟩ = some (.int .i64 (k.x)) := (blk_cell B5.out 0).trans rfl
      have k1 : w3.cell? ⟨W.heap.size + 1, 1, none⟩ = some (.int .i64 (k.y)) := (blk_cell B5.out 1).trans rfl
      have k2 : w3.cell? ⟨W.heap.size + 1, 2, none⟩ = some (.int .i64 (k.w)) := (blk_cell B5.out 2).trans rfl
      have k3 : w3.cell? ⟨W.heap.size + 1, 3, none⟩ = some (.int .i64 (k.h)) := (blk_cell B5.out 3).trans rfl
      go_wp2_with fail
      refine (K3.out _).mono ?_
      rintro e w4 ⟨rfl, hb⟩
      clear k0 k1 k2 k3
      replace B4 := Aside0.mk (blk_below B4.out hb)
      replace B5 := Aside0.mk (blk_below B5.out hb)
      replace B9 := Aside0.mk (blk_below B9.out hb)
      replace qB := below_step (w := W) qB hb
      clear hb
      have p0 : w4.cell? ⟨w1.heap.size, 0, none⟩ = some (.int .i64 (A.x)) := (blk_cell B9.out 0).trans rfl
      have p1 : w4.cell? ⟨w1.heap.size, 1, none⟩ = some (.int .i64 (A.y)) := (blk_cell B9.out 1).trans rfl
      have p2 : w4.cell? ⟨w1.heap.size, 2, none⟩ = some (.int .i64 (A.w)) := (blk_cell B9.out 2).trans rfl
      have p3 : w4.cell? ⟨w1.heap.size, 3, none⟩ = some (.int .i64 (A.h)) := (blk_cell B9.out 3).trans rfl
      have q0 : w4.cell? ⟨W.heap.size, 0, none⟩ = some (.int .i64 (r.x)) := (blk_cell B4.out 0).trans rfl
      have q1 : w4.cell? ⟨W.heap.size, 1, none⟩ = some (.int .i64 (r.y)) := (blk_cell B4.out 1).trans rfl
      have q2 : w4.cell? ⟨W.heap.size, 2, none⟩ = some (.int .i64 (r.w)) := (blk_cell B4.out 2).trans rfl
      have q3 : w4.cell? ⟨W.heap.size, 3, none⟩ = some (.int .i64 (r.h)) := (blk_cell B4.out 3).trans rfl
      clear B4 B5 B9
      go_wp2_with fail
      refine start_ (n := 10) (S := fun w' => w'.cell? ⟨w1.heap.size, 0, none⟩ = some (.int .i64 A.x) ∧ w'.cell? ⟨w1.heap.size, 1, none⟩ = some (.int .i64 A.y) ∧ w'.cell? ⟨w1.heap.size, 2, none⟩ = some (.int .i64 A.w) ∧ w'.cell? ⟨w1.heap.size, 3, none⟩ = some (.int .i64 A.h) ∧ w'.cell? ⟨W.heap.size, 0, none⟩ = some (.int .i64 r.x) ∧ w'.cell? ⟨W.heap.size, 1, none⟩ = some (.int .i64 r.y) ∧ w'.cell? ⟨W.heap.size, 2, none⟩ = some (.int .i64 r.w) ∧ w'.cell? ⟨W.heap.size, 3, none⟩ = some (.int .i64 r.h)) (ds := []) #[false, false, false, false, false, false, false, false, false, false] (by kernel_rfl) rfl rfl ⟨p0, p1, p2, p3, q0, q1, q2, q3⟩ (fun hHeld => ?_)
      refine with_tabW FcXT.tab3 FcXT.bits3 (fun HT_ HW_ => ?_)
      have qB0 := below_drew qB
      clear qB
      have qB := qB0
      clear qB0
      generalize w4.drew = wr at qB hHeld ⊢
      refine take_ (i := 0) (N := some 22) (v := ?_) (a' := ?_) #[true, false, false, false, false, false, false, false, false, false] rfl rfl (take_ofW HT_.out HW_.out (by kernel_rfl)) (fun _ _ _ h => h) (Or.inl ⟨by rfl, ?_⟩) hHeld ?_ ?_
      rotate_left
      · rintro w' ⟨s0, s1, s2, s3, s4, s5, s6, s7⟩
        go_simp
        with_reducible rfl
      rotate_left
      · simp only [Act.put, List.setIfInBounds_toArray, List.set_cons_zero, List.set_cons_succ, i64_w, i32_w]
        rfl
      refine take_ (i := 1) (N := some 23) (v := ?_) (a' := ?_) #[true, true, false, false, false, false, false, false, false, false] rfl rfl (take_ofW HT_.out HW_.out (by kernel_rfl)) (fun _ _ _ h => h) (Or.inl ⟨by rfl, ?_⟩) hHeld ?_ ?_
      rotate_left
      · rintro w' ⟨s0, s1, s2, s3, s4, s5, s6, s7⟩
        go_simp
        with_reducible rfl
      rotate_left
      · simp only [Act.put, List.setIfInBounds_toArray, List.set_cons_zero, List.set_cons_succ, i64_w, i32_w]
        rfl
      refine pure_ (i := 2) (N := some 24) (v := ?_) (a' := ?_) #[true, true, true, false, false, false, false, false, false, false] rfl rfl (any_of HT_.out (by kernel_rfl)) (fun _ _ _ h => h) (Or.inl ⟨by rfl, ?_⟩) ?_ ?_
      rotate_left
      · intro w'
        go_simp
        with_reducible rfl
      rotate_left
      · simp only [Act.put, List.setIfInBounds_toArray, List.set_cons_zero, List.set_cons_succ, i64_w, i32_w]
        rfl
      refine pure_ (i := 3) (N := some 25) (v := ?_) (a' := ?_) #[true, true, true, true, false, false, false, false, false, false] rfl rfl (any_of HT_.out (by kernel_rfl)) (fun _ _ _ h => h) (Or.inl ⟨by rfl, ?_⟩) ?_ ?_
      rotate_left
      · intro w'
        go_simp
        with_reducible rfl
      rotate_left
      · simp only [Act.put, List.setIfInBounds_toArray, List.set_cons_zero, List.set_cons_succ, i64_w, i32_w]
        rfl
      refine one_ (i := 4) (N := some 26) #[true, true, true, true, true, false, false, false, false, false] rfl rfl (one_of HT_.out (by kernel_rfl)) (by decide) (fun K hK => ?_)
      refine goes_ Try.func20 (by kernel_rfl) rfl #[.agg #[.int .i64 r.x, .int .i64 r.y, .int .i64 r.w, .int .i64 r.h], .int .i64 dx, .int .i64 dy] (by rfl) rfl rfl (by (try simp only [List.map_toArray, List.map_cons, List.map_nil]); first | done | rfl) ?_
      refine (KS.out _).mono ?_
      rintro e wn ⟨rfl, hb⟩
      refine ⟨_, rfl, ?_⟩
      obtain ⟨s0, s1, s2, s3, s4, s5, s6, s7⟩ := hHeld
      replace s0 := cell_held hb s0
      replace s1 := cell_held hb s1
      replace s2 := cell_held hb s2
      replace s3 := cell_held hb s3
      replace s4 := cell_held hb s4
      replace s5 := cell_held hb s5
      replace s6 := cell_held hb s6
      replace s7 := cell_held hb s7
      replace qB := below_step (w := W) qB hb
      clear hb
      refine hK.out _ _ ⟨s0, s1, s2, s3, s4, s5, s6, s7⟩ (fun hHeld => ?_)
      clear hK K s0 s1 s2 s3 s4 s5 s6 s7
      refine norm_ (a' := ?_) ?_ ?_
      rotate_left
      · show Act.put _ (some 26) _ = _
        simp only [Act.put, List.setIfInBounds_toArray, List.set_cons_zero, List.set_cons_succ, i64_w, i32_w]
        rfl
      refine pure_ (i := 5) (N := some 27) (v := ?_) (a' := ?_) #[true, true, true, true, true, true, false, false, false, false] rfl rfl (any_of HT_.out (by kernel_rfl)) (fun _ _ _ h => h) (Or.inl ⟨by rfl, ?_⟩) ?_ ?_
      rotate_left
      · intro w'
        go_simp
        with_reducible rfl
      rotate_left
      · simp only [Act.put, List.setIfInBounds_toArray, List.set_cons_zero, List.set_cons_succ, i64_w, i32_w]
        rfl
      refine pure_ (i := 6) (N := some 28) (v := ?_) (a' := ?_) #[true, true, true, true, true, true, true, false, false, false] rfl rfl (any_of HT_.out (by kernel_rfl)) (fun _ _ _ h => h) (Or.inl ⟨by rfl, ?_⟩) ?_ ?_
      rotate_left
      · intro w'
        go_simp
        with_reducible rfl
      rotate_left
      · simp only [Act.put, List.setIfInBounds_toArray, List.set_cons_zero, List.set_cons_succ, i64_w, i32_w]
        rfl
      refine one_ (i := 7) (N := some 29) #[true, true, true, true, true, true, true, true, false, false] rfl rfl (one_of HT_.out (by kernel_rfl)) (by decide) (fun K hK => ?_)
      refine goes_ Try.func11 (by kernel_rfl) rfl #[] (by rfl) rfl rfl (by (try simp only [List.map_toArray, List.map_cons, List.map_nil]); first | done | rfl) ?_
      refine (c_awake _).mono ?_
      rintro e wn ⟨rfl, hb⟩
      refine ⟨_, rfl, ?_⟩
      obtain ⟨s0, s1, s2, s3, s4, s5, s6, s7⟩ := hHeld
      replace s0 := cell_held hb s0
      replace s1 := cell_held hb s1
      replace s2 := cell_held hb s2
      replace s3 := cell_held hb s3
      replace s4 := cell_held hb s4
      replace s5 := cell_held hb s5
      replace s6 := cell_held hb s6
      replace s7 := cell_held hb s7
      replace qB := below_step (w := W) qB hb
      clear hb
      refine hK.out _ _ ⟨s0, s1, s2, s3, s4, s5, s6, s7⟩ (fun hHeld => ?_)
      clear hK K s0 s1 s2 s3 s4 s5 s6 s7
      refine norm_ (a' := ?_) ?_ ?_
      rotate_left
      · show Act.put _ (some 29) _ = _
        simp only [Act.put, List.setIfInBounds_toArray, List.set_cons_zero, List.set_cons_succ, i64_w, i32_w]
        rfl
      refine pure_ (i := 8) (N := some 30) (v := ?_) (a' := ?_) #[true, true, true, true, true, true, true, true, true, false] rfl rfl (any_of HT_.out (by kernel_rfl)) (fun _ _ _ h => h) (Or.inl ⟨by rfl, ?_⟩) ?_ ?_
      rotate_left
      · intro w'
        go_simp
        with_reducible rfl
      rotate_left
      · simp only [Act.put, List.setIfInBounds_toArray, List.set_cons_zero, List.set_cons_succ, i64_w, i32_w]
        rfl
      refine pure_ (i := 9) (N := some 8) (v := ?_) (a' := ?_) #[true, true, true, true, true, true, true, true, true, true] rfl rfl (any_of HT_.out (by kernel_rfl)) (fun _ _ _ h => h) (Or.inl ⟨by rfl, ?_⟩) ?_ ?_
      rotate_left
      · intro w'
        go_simp
        with_reducible rfl
      rotate_left
      · simp only [Act.put, List.setIfInBounds_toArray, List.set_cons_zero, List.set_cons_succ, i64_w, i32_w]
        rfl
      refine done_ (done_of HT_.out (by kernel_rfl)) ?_
      go_wp2
      go_ret
      exact ⟨rfl, qB⟩
    · simp only [Bool.not_eq_true] at h'
      obtain ⟨mw, mh, mr, ms⟩ := move_seen h h' dx dy
      have hr := nonempty h
      have hk := nonempty h'
      obtain ⟨A, hA⟩ : ∃ A, A = moveP r k dx dy := ⟨_, rfl⟩
      rw [← hA] at K1 mw mh mr ms
      have KR := c_gRight A
      have KI := c_gInter A k
      obtain ⟨I, hI⟩ : ∃ I, I = interP A k := ⟨_, rfl⟩
      rw [← hI] at KI ms
      unfold RetR at K1
      rw [mr] at KR
      rw [mw, mh] at K1 KR KI ms
      rw [h] at K2
      rw [h'] at K3
      have ar := rightB_true.1 mr
      rw [mw, mh] at ar
      obtain ⟨⟨a1, a2, a3, a4⟩, a5, a6, a7, a8⟩ := ar
      obtain ⟨m1, e1⟩ : ∃ m, (if r.w < 16 then r.w else 16) = m := ⟨_, rfl⟩
      obtain ⟨m2, e2⟩ : ∃ m, (if k.w < m1 then k.w else m1) = m := ⟨_, rfl⟩
      obtain ⟨m3, e3⟩ : ∃ m, (if r.h < 16 then r.h else 16) = m := ⟨_, rfl⟩
      obtain ⟨m4, e4⟩ : ∃ m, (if k.h < m3 then k.h else m3) = m := ⟨_, rfl⟩
      have f2 : m2 = min 16 (min r.w k.w) := by rw [← e2, ← e1]; split <;> split <;> omega
      have f4 : m4 = min 16 (min r.h k.h) := by rw [← e4, ← e3]; split <;> split <;> omega
      rw [← f2, ← f4] at ms
      have M := Aside0.mk ms
      have E := Aside0.mk (And.intro e1 (And.intro e2 (And.intro e3 e4)))
      replace K1 := Aside0.mk K1; replace K2 := Aside0.mk K2; replace K3 := Aside0.mk K3; replace KR := Aside0.mk KR; replace KI := Aside0.mk KI
      clear KS h h' mw mh mr ms hA hI e1 e2 e3 e4 f2 f4 hr hk
      go_enter Try.func7, Try.ntmps7
      go_wp2_with fail
      refine (K1.out _).mono ?_
      rintro e w1 ⟨rfl, hb⟩
      have B4 := Aside0.mk (blk_below (g := W.heap.size) (o := .cells #[.int .i64 r.x, .int .i64 r.y, .int .i64 r.w, .int .i64 r.h] 23 (0, 0)) (by (repeat (first | exact new_at (by simp only [World.size_alloc, World.size_drew]; done) | refine blk_drew ?_ | refine blk_alloc ?_ _))) hb)
      have B5 := Aside0.mk (blk_below (g := W.heap.size + 1) (o := .cells #[.int .i64 k.x, .int .i64 k.y, .int .i64 k.w, .int .i64 k.h] 23 (0, 0)) (by (repeat (first | exact new_at (by simp only [World.size_alloc, World.size_drew]; done) | refine blk_drew ?_ | refine blk_alloc ?_ _))) hb)
      have qB := below_step (w := W) (by (repeat (first | exact Below.refl _ _ | apply below_alloc))) hb
      clear hb
      replace B4 := Aside0.mk (blk_alloc B4.out (.cells #[.int .i64 A.x, .int .i64 A.y, .int .i64 r.w, .int .i64 r.h] 23 (0, 0))); replace B5 := Aside0.mk (blk_alloc B5.out (.cells #[.int .i64 A.x, .int .i64 A.y, .int .i64 r.w, .int .i64 r.h] 23 (0, 0)))
      have B9 := Aside0.mk (blk_new w1 (.cells #[.int .i64 A.x, .int .i64 A.y, .int .i64 r.w, .int .i64 r.h] 23 (0, 0)))
      replace qB := below_alloc qB (.cells #[.int .i64 A.x, .int .i64 A.y, .int .i64 r.w, .int .i64 r.h] 23 (0, 0))
      have p0 : (w1.alloc (.cells #[.int .i64 A.x, .int .i64 A.y, .int .i64 r.w, .int .i64 r.h] 23 (0, 0))).cell? ⟨W.heap.size, 0, none⟩ = some (.int .i64 (r.x)) := (blk_cell B4.out 0).trans rfl
      have p1 : (w1.alloc (.cells #[.int .i64 A.x, .int .i64 A.y, .int .i64 r.w, .int .i64 r.h] 23 (0, 0))).cell? ⟨W.heap.size, 1, none⟩ = some (.int .i64 (r.y)) := (blk_cell B4.out 1).trans rfl
      have p2 : (w1.alloc (.cells #[.int .i64 A.x, .int .i64 A.y, .int .i64 r.w, .int .i64 r.h] 23 (0, 0))).cell? ⟨W.heap.size, 2, none⟩ = some (.int .i64 (r.w)) := (blk_cell B4.out 2).trans rfl
      have p3 : (w1.alloc (.cells #[.int .i64 A.x, .int .i64 A.y, .int .i64 r.w, .int .i64 r.h] 23 (0, 0))).cell? ⟨W.heap.size, 3, none⟩ = some (.int .i64 (r.h)) := (blk_cell B4.out 3).trans rfl
      go_wp2_with fail
      refine (K2.out _).mono ?_
      rintro e w3 ⟨rfl, hb⟩
      clear p0 p1 p2 p3
      replace B4 := Aside0.mk (blk_below B4.out hb)
      replace B5 := Aside0.mk (blk_below B5.out hb)
      replace B9 := Aside0.mk (blk_below B9.out hb)
      replace qB := below_step (w := W) qB hb
      clear hb
      have k0 : w3.cell? ⟨W.heap.size + 1, 0, none⟩ = some (.int .i64 (k.x)) := (blk_cell B5.out 0).trans rfl
      have k1 : w3.cell? ⟨W.heap.size + 1, 1, none⟩ = some (.int .i64 (k.y)) := (blk_cell B5.out 1).trans rfl
      have k2 : w3.cell? ⟨W.heap.size + 1, 2, none⟩ = some (.int .i64 (k.w)) := (blk_cell B5.out 2).trans rfl
      have k3 : w3.cell? ⟨W.heap.size + 1, 3, none⟩ = some (.int .i64 (k.h)) := (blk_cell B5.out 3).trans rfl
      go_wp2_with fail
      refine (K3.out _).mono ?_
      rintro e w4 ⟨rfl, hb⟩
      clear k0 k1 k2 k3
      replace B4 := Aside0.mk (blk_below B4.out hb)
      replace B5 := Aside0.mk (blk_below B5.out hb)
      replace B9 := Aside0.mk (blk_below B9.out hb)
      replace qB := below_step (w := W) qB hb
      clear hb
      have p0 : w4.cell? ⟨w1.heap.size, 0, none⟩ = some (.int .i64 (A.x)) := (blk_cell B9.out 0).trans rfl
      have p1 : w4.cell? ⟨w1.heap.size, 1, none⟩ = some (.int .i64 (A.y)) := (blk_cell B9.out 1).trans rfl
      have p2 : w4.cell? ⟨w1.heap.size, 2, none⟩ = some (.int .i64 (r.w)) := (blk_cell B9.out 2).trans rfl
      have p3 : w4.cell? ⟨w1.heap.size, 3, none⟩ = some (.int .i64 (r.h)) := (blk_cell B9.out 3).trans rfl
      have q0 : w4.cell? ⟨W.heap.size, 0, none⟩ = some (.int .i64 (r.x)) := (blk_cell B4.out 0).trans rfl
      have q1 : w4.cell? ⟨W.heap.size, 1, none⟩ = some (.int .i64 (r.y)) := (blk_cell B4.out 1).trans rfl
      have q2 : w4.cell? ⟨W.heap.size, 2, none⟩ = some (.int .i64 (r.w)) := (blk_cell B4.out 2).trans rfl
      have q3 : w4.cell? ⟨W.heap.size, 3, none⟩ = some (.int .i64 (r.h)) := (blk_cell B4.out 3).trans rfl
      go_wp2_with fail
      refine (KR.out _).mono ?_
      rintro e w5 ⟨rfl, hb⟩
      clear p0 p1 p2 p3 q0 q1 q2 q3
      replace B4 := Aside0.mk (blk_below B4.out hb)
      replace B5 := Aside0.mk (blk_below B5.out hb)
      replace B9 := Aside0.mk (blk_below B9.out hb)
      replace qB := below_step (w := W) qB hb
      clear hb
      have QB := Aside0.mk qB
      clear qB
      have p0 : w5.cell? ⟨w1.heap.size, 0, none⟩ = some (.int .i64 (A.x)) := (blk_cell B9.out 0).trans rfl
      have p1 : w5.cell? ⟨w1.heap.size, 1, none⟩ = some (.int .i64 (A.y)) := (blk_cell B9.out 1).trans rfl
      have p2 : w5.cell? ⟨w1.heap.size, 2, none⟩ = some (.int .i64 (r.w)) := (blk_cell B9.out 2).trans rfl
      have p3 : w5.cell? ⟨w1.heap.size, 3, none⟩ = some (.int .i64 (r.h)) := (blk_cell B9.out 3).trans rfl
      by_cases c1 : A.x ≤ -32768
      · clear M E
        go_wp2_with fail
        refine (c_awake _).mono ?_
        rintro e w9 ⟨rfl, hb⟩
        replace QB := Aside0.mk (below_step (w := W) QB.out hb)
        clear hb
        go_wp2
        go_ret
        exact ⟨rfl, QB.out⟩
      by_cases c2 : A.y ≤ -32768
      · clear M E
        go_wp2_with fail
        refine (c_awake _).mono ?_
        rintro e w9 ⟨rfl, hb⟩
        replace QB := Aside0.mk (below_step (w := W) QB.out hb)
        clear hb
        go_wp2
        go_ret
        exact ⟨rfl, QB.out⟩
      by_cases c3 : 32767 - r.w < A.x
      · clear M E
        go_wp2_with fail
        refine (c_awake _).mono ?_
        rintro e w9 ⟨rfl, hb⟩
        replace QB := Aside0.mk (below_step (w := W) QB.out hb)
        clear hb
        go_wp2
        go_ret
        exact ⟨rfl, QB.out⟩
      by_cases c4 : 32767 - r.h < A.y
      · clear M E
        go_wp2_with fail
        refine (c_awake _).mono ?_
        rintro e w9 ⟨rfl, hb⟩
        replace QB := Aside0.mk (below_step (w := W) QB.out hb)
        clear hb
        go_wp2
        go_ret
        exact ⟨rfl, QB.out⟩
      obtain ⟨d1, d2⟩ := M.out (by omega) (by omega) (by omega) (by omega)
      clear M
      have k0 : w5.cell? ⟨W.heap.size + 1, 0, none⟩ = some (.int .i64 (k.x)) := (blk_cell B5.out 0).trans rfl
      have k1 : w5.cell? ⟨W.heap.size + 1, 1, none⟩ = some (.int .i64 (k.y)) := (blk_cell B5.out 1).trans rfl
      have k2 : w5.cell? ⟨W.heap.size + 1, 2, none⟩ = some (.int .i64 (k.w)) := (blk_cell B5.out 2).trans rfl
      have k3 : w5.cell? ⟨W.heap.size + 1, 3, none⟩ = some (.int .i64 (k.h)) := (blk_cell B5.out 3).trans rfl
      go_wp2_with fail
      refine (KI.out _).mono ?_
      rintro e w6 ⟨rfl, hb⟩
      clear p0 p1 p2 p3 k0 k1 k2 k3
      replace B4 := Aside0.mk (blk_below B4.out hb)
      replace B5 := Aside0.mk (blk_below B5.out hb)
      replace QB := Aside0.mk (below_alloc (below_step (w := W) QB.out hb) (.cells #[.int .i64 I.x, .int .i64 I.y, .int .i64 I.w, .int .i64 I.h] 23 (0, 0)))
      clear hb
      replace B4 := Aside0.mk (blk_alloc B4.out (.cells #[.int .i64 I.x, .int .i64 I.y, .int .i64 I.w, .int .i64 I.h] 23 (0, 0))); replace B5 := Aside0.mk (blk_alloc B5.out (.cells #[.int .i64 I.x, .int .i64 I.y, .int .i64 I.w, .int .i64 I.h] 23 (0, 0)))
      obtain ⟨e1, e2, e3, e4⟩ := E.out
      have q0 : (w6.alloc (.cells #[.int .i64 I.x, .int .i64 I.y, .int .i64 I.w, .int .i64 I.h] 23 (0, 0))).cell? ⟨W.heap.size, 0, none⟩ = some (.int .i64 (r.x)) := (blk_cell B4.out 0).trans rfl
      have q1 : (w6.alloc (.cells #[.int .i64 I.x, .int .i64 I.y, .int .i64 I.w, .int .i64 I.h] 23 (0, 0))).cell? ⟨W.heap.size, 1, none⟩ = some (.int .i64 (r.y)) := (blk_cell B4.out 1).trans rfl
      have q2 : (w6.alloc (.cells #[.int .i64 I.x, .int .i64 I.y, .int .i64 I.w, .int .i64 I.h] 23 (0, 0))).cell? ⟨W.heap.size, 2, none⟩ = some (.int .i64 (r.w)) := (blk_cell B4.out 2).trans rfl
      have q3 : (w6.alloc (.cells #[.int .i64 I.x, .int .i64 I.y, .int .i64 I.w, .int .i64 I.h] 23 (0, 0))).cell? ⟨W.heap.size, 3, none⟩ = some (.int .i64 (r.h)) := (blk_cell B4.out 3).trans rfl
      have k0 : (w6.alloc (.cells #[.int .i64 I.x, .int .i64 I.y, .int .i64 I.w, .int .i64 I.h] 23 (0, 0))).cell? ⟨W.heap.size + 1, 0, none⟩ = some (.int .i64 (k.x)) := (blk_cell B5.out 0).trans rfl
      have k1 : (w6.alloc (.cells #[.int .i64 I.x, .int .i64 I.y, .int .i64 I.w, .int .i64 I.h] 23 (0, 0))).cell? ⟨W.heap.size + 1, 1, none⟩ = some (.int .i64 (k.y)) := (blk_cell B5.out 1).trans rfl
      have k2 : (w6.alloc (.cells #[.int .i64 I.x, .int .i64 I.y, .int .i64 I.w, .int .i64 I.h] 23 (0, 0))).cell? ⟨W.heap.size + 1, 2, none⟩ = some (.int .i64 (k.w)) := (blk_cell B5.out 2).trans rfl
      have k3 : (w6.alloc (.cells #[.int .i64 I.x, .int .i64 I.y, .int .i64 I.w, .int .i64 I.h] 23 (0, 0))).cell? ⟨W.heap.size + 1, 3, none⟩ = some (.int .i64 (k.h)) := (blk_cell B5.out 3).trans rfl
      go_wp2_with fail
      refine (c_awake _).mono ?_
      rintro e w9 ⟨rfl, hb⟩
      replace QB := Aside0.mk (below_step (w := W) QB.out hb)
      clear hb
      go_wp2
      go_ret
      exact ⟨rfl, QB.out⟩
theorem FloatSeen_law (a0_0 : Int) (a0_1 : Int) (a0_2 : Int) (a0_3 : Int) (a1_0 : Int) (a1_1 : Int) (a1_2 : Int) (a1_3 : Int) (a2 : Int) (a3 : Int) (W : World) (w0_0 : (Lit.int .i64 a0_0).wf = true) (w0_1 : (Lit.int .i64 a0_1).wf = true) (w0_2 : (Lit.int .i64 a0_2).wf = true) (w0_3 : (Lit.int .i64 a0_3).wf = true) (w1_0 : (Lit.int .i64 a1_0).wf = true) (w1_1 : (Lit.int .i64 a1_1).wf = true) (w1_2 : (Lit.int .i64 a1_2).wf = true) (w1_3 : (Lit.int .i64 a1_3).wf = true) (w2 : (Lit.int .i64 a2).wf = true) (w3 : (Lit.int .i64 a3).wf = true) :
    Calls Try.prog 7 #[.agg #[.int .i64 a0_0, .int .i64 a0_1, .int .i64 a0_2, .int .i64 a0_3], .agg #[.int .i64 a1_0, .int .i64 a1_1, .int .i64 a1_2, .int .i64 a1_3], .int .i64 a2, .int .i64 a3] W fun e w' => e = .returned (.bool true) ∧ Below W.heap.size W w' :=
  seen_any ⟨a0_0, a0_1, a0_2, a0_3⟩ ⟨a1_0, a1_1, a1_2, a1_3⟩ a2 a3 W
end Go.Proofs.Ytajpnmiblepmkaa.Fl
