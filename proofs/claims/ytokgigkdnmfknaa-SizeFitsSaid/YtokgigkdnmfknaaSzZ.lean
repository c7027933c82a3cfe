/- Sizes by hints: the contract of the program's Good; SizeGood, SizeFits. -/
import Derived.Test.YtokgigkdnmfknaaSzY

namespace Go.Proofs.Ytokgigkdnmfknaa.Sz
open Go.RowKit Go.Proofs.YtokgigkdnmfknaaW.PrintMore Go.Proofs.YtokgigkdnmfknaaW.PrintWords Go.Proofs.YtokgigkdnmfknaaW.PrintLast Go.Proofs.Ytokgigkdnmfknaa.Geo
set_option linter.unusedVariables false
set_option linter.unusedSimpArgs false
attribute [local go_sem high] eqH
attribute [local go_sem] max2_int min2_int max_two min_two max_three min_three

set_option maxHeartbeats 8000000 in
set_option maxRecDepth 100000 in
theorem c_good_yes (h : Hn) (x y : Int) (hyes : normal h = h) (hx : x ≤ 65535) (hy : y ≤ 65535) (W : World) : Calls Try.prog 17 #[.agg #[.int .i64 h.minW, .int .i64 h.minH, .int .i64 h.maxW, .int .i64 h.maxH, .int .i64 h.baseW, .int .i64 h.baseH, .int .i64 h.incW, .int .i64 h.incH, .int .i64 h.lowX, .int .i64 h.lowY, .int .i64 h.highX, .int .i64 h.highY], .int .i64 x, .int .i64 y] W fun e w' => e = .returned (.bool (goodB h x y)) ∧ Below W.heap.size W w' := by
  have KN := c_normal h
  rw [hyes] at KN
  have hn : Nrm h := hyes ▸ normal_nrm h
  have q := hn.1
  unfold Nrm0 at q
  have HQ := Aside0.mk q
  have hEq : eq12 h.minW h.minH h.maxW h.maxH h.baseW h.baseH h.incW h.incH h.lowX h.lowY h.highX h.highY h.minW h.minH h.maxW h.maxH h.baseW h.baseH h.incW h.incH h.lowX h.lowY h.highX h.highY = true := eq12_true.2 rfl
  have KH : ∃ p q, (∀ w, Calls Try.prog 30 #[.agg #[.int .i64 h.minW, .int .i64 h.minH, .int .i64 h.maxW, .int .i64 h.maxH, .int .i64 h.baseW, .int .i64 h.baseH, .int .i64 h.incW, .int .i64 h.incH, .int .i64 h.lowX, .int .i64 h.lowY, .int .i64 h.highX, .int .i64 h.highY], .int .i64 x] w fun e w' => e = .returned (.agg #[.int .i64 p, .int .i64 q, .int .i64 h.baseH, .int .i64 h.incH]) ∧ Below w.heap.size w w') ∧ (0 ≤ x → p = lowV h x ∧ q = mostV h x) := by
    by_cases c : 0 ≤ x
    · exact ⟨_, _, fun w => c_high hn c hx w, fun _ => ⟨rfl, rfl⟩⟩
    · obtain ⟨p, q, k⟩ := c_high_any hn x
      exact ⟨p, q, k, fun r => absurd r c⟩
  obtain ⟨p, r, KH, pq⟩ := KH
  obtain ⟨⟨m1, ok1⟩, e1⟩ : ∃ r, lastR h.minW (topP h.maxW) h.baseW h.incW x = r := ⟨_, rfl⟩
  obtain ⟨⟨m2, ok2⟩, e2⟩ : ∃ q, lastR p r h.baseH h.incH y = q := ⟨_, rfl⟩
  have K1 := Aside0.mk (c_last e1 (by omega) (by omega) (by omega) (by omega) (by omega))
  have K2 := Aside0.mk (c_last e2 (by omega) (by omega) (by omega) (by omega) (by omega))
  have KW := Aside0.mk (c_wide h)
  replace KN := Aside0.mk KN; replace KH := Aside0.mk KH
  have G : goodB h x y = (decide (0 < x) && (decide (0 < y) && (ok1 && ((m1 == x) && (ok2 && (m2 == y)))))) := by
    have g1 := last_good (by omega) e1
    have g2 := last_good (by omega) e2
    rw [Bool.eq_iff_iff, goodB_true]
    simp only [Bool.and_eq_true, decide_eq_true_eq, beq_iff_eq]
    constructor
    · rintro ⟨a, b, _, _, c, d⟩
      obtain ⟨rfl, rfl⟩ := pq (by omega)
      obtain ⟨u1, u2⟩ := g1.2 c
      obtain ⟨u3, u4⟩ := g2.2 ((el_high hn.2 x y).2 d)
      exact ⟨by omega, by omega, u1, u2, u3, u4⟩
    · rintro ⟨a, b, u1, u2, u3, u4⟩
      obtain ⟨rfl, rfl⟩ := pq (by omega)
      exact ⟨by omega, by omega, hx, hy, g1.1 ⟨u1, u2⟩, (el_high hn.2 x y).1 (g2.1 ⟨u3, u4⟩)⟩
  rw [G]
  clear G e1 e2 pq q hn hyes
  go_enter Try.func17, Try.ntmps17
  go_wp2_with fail
  have qB := below_alloc (Below.refl W.heap.size W) (.cells #[.int .i64 h.minW, .int .i64 h.minH, .int .i64 h.maxW, .int .i64 h.maxH, .int .i64 h.baseW, .int .i64 h.baseH, .int .i64 h.incW, .int .i64 h.incH, .int .i64 h.lowX, .int .i64 h.lowY, .int .i64 h.highX, .int .i64 h.highY] 23 (0, 0))
  have B1 := Aside0.mk (blk_new W (.cells #[.int .i64 h.minW, .int .i64 h.minH, .int .i64 h.maxW, .int .i64 h.maxH, .int .i64 h.baseW, .int .i64 h.baseH, .int .i64 h.incW, .int .i64 h.incH, .int .i64 h.lowX, .int .i64 h.lowY, .int .i64 h.highX, .int .i64 h.highY] 23 (0, 0)))
  generalize hw2 : W.alloc (.cells #[.int .i64 h.minW, .int .i64 h.minH, .int .i64 h.maxW, .int .i64 h.maxH, .int .i64 h.baseW, .int .i64 h.baseH, .int .i64 h.incW, .int .i64 h.incH, .int .i64 h.lowX, .int .i64 h.lowY, .int .i64 h.highX, .int .i64 h.highY] 23 (0, 0)) = w2 at qB B1 ⊢
  have p0 : w2.cell? ⟨W.heap.size, 0, none⟩ = some (.int .i64 (h.minW)) := (blk_cell B1.out 0).trans rfl
  have p1 : w2.cell? ⟨W.heap.size, 1, none⟩ = some (.int .i64 (h.minH)) := (blk_cell B1.out 1).trans rfl
  have p2 : w2.cell? ⟨W.heap.size, 2, none⟩ = some (.int .i64 (h.maxW)) := (blk_cell B1.out 2).trans rfl
  have p3 : w2.cell? ⟨W.heap.size, 3, none⟩ = some (.int .i64 (h.maxH)) := (blk_cell B1.out 3).trans rfl
  have p4 : w2.cell? ⟨W.heap.size, 4, none⟩ = some (.int .i64 (h.baseW)) := (blk_cell B1.out 4).trans rfl
  have p5 : w2.cell? ⟨W.heap.size, 5, none⟩ = some (.int .i64 (h.baseH)) := (blk_cell B1.out 5).trans rfl
  have p6 : w2.cell? ⟨W.heap.size, 6, none⟩ = some (.int .i64 (h.incW)) := (blk_cell B1.out 6).trans rfl
  have p7 : w2.cell? ⟨W.heap.size, 7, none⟩ = some (.int .i64 (h.incH)) := (blk_cell B1.out 7).trans rfl
  have p8 : w2.cell? ⟨W.heap.size, 8, none⟩ = some (.int .i64 (h.lowX)) := (blk_cell B1.out 8).trans rfl
  have p9 : w2.cell? ⟨W.heap.size, 9, none⟩ = some (.int .i64 (h.lowY)) := (blk_cell B1.out 9).trans rfl
  have p10 : w2.cell? ⟨W.heap.size, 10, none⟩ = some (.int .i64 (h.highX)) := (blk_cell B1.out 10).trans rfl
  have p11 : w2.cell? ⟨W.heap.size, 11, none⟩ = some (.int .i64 (h.highY)) := (blk_cell B1.out 11).trans rfl
  clear B1 hw2
  have c1 : decide (65535 < x) = false := decide_eq_false (by omega)
  have c2 : decide (65535 < y) = false := decide_eq_false (by omega)
  refine start_ (n := 12) (S := fun w' => w'.cell? ⟨W.heap.size, 0, none⟩ = some (.int .i64 h.minW) ∧ w'.cell? ⟨W.heap.size, 1, none⟩ = some (.int .i64 h.minH) ∧ w'.cell? ⟨W.heap.size, 2, none⟩ = some (.int .i64 h.maxW) ∧ w'.cell? ⟨W.heap.size, 3, none⟩ = some (.int .i64 h.maxH) ∧ w'.cell? ⟨W.heap.size, 4, none⟩ = some (.int .i64 h.baseW) ∧ w'.cell? ⟨W.heap.size, 5, none⟩ = some (.int .i64 h.baseH) ∧ w'.cell? ⟨W.heap.size, 6, none⟩ = some (.int .i64 h.incW) ∧ w'.cell? ⟨W.heap.size, 7, none⟩ = some (.int .i64 h.incH) ∧ w'.cell? ⟨W.heap.size, 8, none⟩ = some (.int .i64 h.lowX) ∧ w'.cell? ⟨W.heap.size, 9, none⟩ = some (.int .i64 h.lowY) ∧ w'.cell? ⟨W.heap.size, 10, none⟩ = some (.int .i64 h.highX) ∧ w'.cell? ⟨W.heap.size, 11, none⟩ = some (.int .i64 h.highY)) (ds := []) #[false, false, false, false, false, false, false, false, false, false, false, false] (by kernel_rfl) rfl rfl ⟨p0, p1, p2, p3, p4, p5, p6, p7, p8, p9, p10, p11⟩ (fun hHeld => ?_)
  refine with_tabW SzGT.tab1 SzGT.bits1 (fun HT_ HW_ => ?_)
  have qB0 := below_drew qB
  clear qB
  have qB := qB0
  clear qB0
  generalize w2.drew = wr at qB hHeld ⊢
  refine take_ (i := 0) (N := some 11) (v := ?_) (a' := ?_) #[true, false, false, false, false, false, false, false, false, false, false, false] rfl rfl (take_ofW HT_.out HW_.out (by kernel_rfl)) (fun _ _ _ h => h) (Or.inl ⟨by rfl, ?_⟩) hHeld ?_ ?_
  rotate_left
  · rintro w' ⟨s0, s1, s2, s3, s4, s5, s6, s7, s8, s9, s10, s11⟩
    go_simp
    with_reducible rfl
  rotate_left
  · simp only [Act.put, List.setIfInBounds_toArray, List.set_cons_zero, List.set_cons_succ, i64_w, i32_w]
    rfl
  refine take_ (i := 1) (N := some 12) (v := ?_) (a' := ?_) #[true, true, false, false, false, false, false, false, false, false, false, false] rfl rfl (take_ofW HT_.out HW_.out (by kernel_rfl)) (fun _ _ _ h => h) (Or.inl ⟨by rfl, ?_⟩) hHeld ?_ ?_
  rotate_left
  · rintro w' ⟨s0, s1, s2, s3, s4, s5, s6, s7, s8, s9, s10, s11⟩
    go_simp
    with_reducible rfl
  rotate_left
  · simp only [Act.put, List.setIfInBounds_toArray, List.set_cons_zero, List.set_cons_succ, i64_w, i32_w]
    rfl
  refine one_ (i := 2) (N := some 13) #[true, true, true, false, false, false, false, false, false, false, false, false] rfl rfl (one_of HT_.out (by kernel_rfl)) (by decide) (fun K hK => ?_)
  refine goes_ Try.func10 (by kernel_rfl) rfl #[.agg #[.int .i64 h.minW, .int .i64 h.minH, .int .i64 h.maxW, .int .i64 h.maxH, .int .i64 h.baseW, .int .i64 h.baseH, .int .i64 h.incW, .int .i64 h.incH, .int .i64 h.lowX, .int .i64 h.lowY, .int .i64 h.highX, .int .i64 h.highY]] (by rfl) rfl rfl (by (try simp only [List.map_toArray, List.map_cons, List.map_nil]); first | done | rfl) ?_
  refine (KN.out _).mono ?_
  rintro e wn ⟨rfl, hb⟩
  refine ⟨_, rfl, ?_⟩
  obtain ⟨s0, s1, s2, s3, s4, s5, s6, s7, s8, s9, s10, s11⟩ := hHeld
  replace s0 := cell_held hb s0
  replace s1 := cell_held hb s1
  replace s2 := cell_held hb s2
  replace s3 := cell_held hb s3
  replace s4 := cell_held hb s4
  replace s5 := cell_held hb s5
  replace s6 := cell_held hb s6
  replace s7 := cell_held hb s7
  replace s8 := cell_held hb s8
  replace s9 := cell_held hb s9
  replace s10 := cell_held hb s10
  replace s11 := cell_held hb s11
  replace qB := below_step (w := W) qB hb
  clear hb
  refine hK.out _ _ ⟨s0, s1, s2, s3, s4, s5, s6, s7, s8, s9, s10, s11⟩ (fun hHeld => ?_)
  clear hK K s0 s1 s2 s3 s4 s5 s6 s7 s8 s9 s10 s11
  refine norm_ (a' := ?_) ?_ ?_
  rotate_left
  · show Act.put _ (some 13) _ = _
    simp only [Act.put, List.setIfInBounds_toArray, List.set_cons_zero, List.set_cons_succ, i64_w, i32_w]
    rfl
  refine pure_ (i := 3) (N := some 14) (v := ?_) (a' := ?_) #[true, true, true, true, false, false, false, false, false, false, false, false] rfl rfl (any_of HT_.out (by kernel_rfl)) (fun _ _ _ h => h) (Or.inl ⟨by rfl, ?_⟩) ?_ ?_
  rotate_left
  · intro w'
    go_simp
    with_reducible rfl
  rotate_left
  · simp only [Act.put, List.setIfInBounds_toArray, List.set_cons_zero, List.set_cons_succ, i64_w, i32_w]
    rfl
  refine pure_ (i := 4) (N := some 15) (v := ?_) (a' := ?_) #[true, true, true, true, true, false, false, false, false, false, false, false] rfl rfl (any_of HT_.out (by kernel_rfl)) (fun _ _ _ h => h) (Or.inl ⟨by rfl, ?_⟩) ?_ ?_
  rotate_left
  · intro w'
    go_simp
    with_reducible rfl
  rotate_left
  · simp only [Act.put, List.setIfInBounds_toArray, List.set_cons_zero, List.set_cons_succ, i64_w, i32_w]
    rfl
  refine pure_ (i := 5) (N := some 16) (v := ?_) (a' := ?_) #[true, true, true, true, true, true, false, false, false, false, false, false] rfl rfl (any_of HT_.out (by kernel_rfl)) (fun _ _ _ h => h) (Or.inl ⟨by rfl, ?_⟩) ?_ ?_
  rotate_left
  · intro w'
    go_simp
    with_reducible rfl
  rotate_left
  · simp only [Act.put, List.setIfInBounds_toArray, List.set_cons_zero, List.set_cons_succ, i64_w, i32_w]
    rfl
  refine pure_ (i := 6) (N := some 17) (v := ?_) (a' := ?_) #[true, true, true, true, true, true, true, false, false, false, false, false] rfl rfl (any_of HT_.out (by kernel_rfl)) (fun _ _ _ h => h) (Or.inl ⟨by rfl, ?_⟩) ?_ ?_
  rotate_left
  · intro w'
    go_simp
    with_reducible rfl
  rotate_left
  · simp only [Act.put, List.setIfInBounds_toArray, List.set_cons_zero, List.set_cons_succ, i64_w, i32_w]
    rfl
  refine pure_ (i := 7) (N := some 18) (v := ?_) (a' := ?_) #[true, true, true, true, true, true, true, true, false, false, false, false] rfl rfl (any_of HT_.out (by kernel_rfl)) (fun _ _ _ h => h) (Or.inl ⟨by rfl, ?_⟩) ?_ ?_
  rotate_left
  · intro w'
    go_simp
    with_reducible rfl
  rotate_left
  · simp only [Act.put, List.setIfInBounds_toArray, List.set_cons_zero, List.set_cons_succ, i64_w, i32_w]
    rfl
  refine pure_ (i := 8) (N := some 19) (v := ?_) (a' := ?_) #[true, true, true, true, true, true, true, true, true, false, false, false] rfl rfl (any_of HT_.out (by kernel_rfl)) (fun _ _ _ h => h) (Or.inl ⟨by rfl, ?_⟩) ?_ ?_
  rotate_left
  · intro w'
    go_simp
    with_reducible rfl
  rotate_left
  · simp only [Act.put, List.setIfInBounds_toArray, List.set_cons_zero, List.set_cons_succ, i64_w, i32_w]
    rfl
  refine pure_ (i := 9) (N := some 20) (v := ?_) (a' := ?_) #[true, true, true, true, true, true, true, true, true, true, false, false] rfl rfl (any_of HT_.out (by kernel_rfl)) (fun _ _ _ h => h) (Or.inl ⟨by rfl, ?_⟩) ?_ ?_
  rotate_left
  · intro w'
    go_simp
    with_reducible rfl
  rotate_left
  · simp only [Act.put, List.setIfInBounds_toArray, List.set_cons_zero, List.set_cons_succ, i64_w, i32_w]
    rfl
  refine pure_ (i := 10) (N := some 21) (v := ?_) (a' := ?_) #[true, true, true, true, true, true, true, true, true, true, true, false] rfl rfl (any_of HT_.out (by kernel_rfl)) (fun _ _ _ h => h) (Or.inl ⟨by rfl, ?_⟩) ?_ ?_
  rotate_left
  · intro w'
    go_simp
    with_reducible rfl
  rotate_left
  · simp only [Act.put, List.setIfInBounds_toArray, List.set_cons_zero, List.set_cons_succ, i64_w, i32_w]
    rfl
  refine pure_ (i := 11) (N := some 22) (v := ?_) (a' := ?_) #[true, true, true, true, true, true, true, true, true, true, true, true] rfl rfl (any_of HT_.out (by kernel_rfl)) (fun _ _ _ h => h) (Or.inl ⟨by rfl, ?_⟩) ?_ ?_
  rotate_left
  · intro w'
    go_simp
    with_reducible rfl
  rotate_left
  · simp only [Act.put, List.setIfInBounds_toArray, List.set_cons_zero, List.set_cons_succ, i64_w, i32_w]
    rfl
  refine done_ (done_of HT_.out (by kernel_rfl)) ?_
  obtain ⟨s0, s1, s2, s3, s4, s5, s6, s7, s8, s9, s10, s11⟩ := hHeld
  go_wp2_with fail
  refine (KW.out _).mono ?_
  rintro e w5 ⟨rfl, hb⟩
  replace s0 := cell_held hb s0
  replace s1 := cell_held hb s1
  replace s2 := cell_held hb s2
  replace s3 := cell_held hb s3
  replace s4 := cell_held hb s4
  replace s5 := cell_held hb s5
  replace s6 := cell_held hb s6
  replace s7 := cell_held hb s7
  replace s8 := cell_held hb s8
  replace s9 := cell_held hb s9
  replace s10 := cell_held hb s10
  replace s11 := cell_held hb s11
  replace qB := below_step (w := W) qB hb
  clear hb
  go_wp2_with fail
  refine (K1.out _).mono ?_
  rintro e w6 ⟨rfl, hb⟩
  replace s0 := cell_held hb s0
  replace s1 := cell_held hb s1
  replace s2 := cell_held hb s2
  replace s3 := cell_held hb s3
  replace s4 := cell_held hb s4
  replace s5 := cell_held hb s5
  replace s6 := cell_held hb s6
  replace s7 := cell_held hb s7
  replace s8 := cell_held hb s8
  replace s9 := cell_held hb s9
  replace s10 := cell_held hb s10
  replace s11 := cell_held hb s11
  replace qB := below_step (w := W) qB hb
  clear hb
  go_wp2_with fail
  refine (KH.out _).mono ?_
  rintro e w7 ⟨rfl, hb⟩
  replace qB := below_step (w := W) qB hb
  clear hb
  go_wp2_with fail
  refine (K2.out _).mono ?_
  rintro e w8 ⟨rfl, hb⟩
  replace qB := below_step (w := W) qB hb
  clear hb s0 s1 s2 s3 s4 s5 s6 s7 s8 s9 s10 s11
  have QB := Aside0.mk qB
  clear qB c1 c2 hEq
  by_cases d1 : 0 < x
  · by_cases d2 : 0 < y
    · cases ok1
      · go_wp2
        go_ret
        exact ⟨by simp, QB.out⟩
      · by_cases d3 : m1 = x
        · subst d3
          cases ok2
          · go_wp2
            go_ret
            exact ⟨by simp, QB.out⟩
          · by_cases d4 : m2 = y
            · subst d4
              go_wp2
              go_ret
              exact ⟨by simp [d1, d2], QB.out⟩
            · have d5 : (m2 == y) = false := by simp [d4]
              go_wp2
              go_ret
              exact ⟨by simp [d4], QB.out⟩
        · have d5 : (m1 == x) = false := by simp [d3]
          go_wp2
          go_ret
          exact ⟨by simp [d3], QB.out⟩
    · go_wp2
      go_ret
      exact ⟨by simp; intros; omega, QB.out⟩
  · go_wp2
    go_ret
    exact ⟨by simp; intros; omega, QB.out⟩
open Classical in
noncomputable def goodI (h : Hn) (x y : Int) : Bool := decide (normal h = h) && goodB h x y
theorem goodI_yes {h : Hn} (c : normal h = h) (x y : Int) : goodI h x y = goodB h x y := by simp [goodI, c]
theorem goodI_no {h : Hn} (c : ¬ normal h = h) (x y : Int) : goodI h x y = false := by simp [goodI, c]
theorem c_good (h : Hn) (x y : Int) (W : World) : Calls Try.prog 17 #[.agg #[.int .i64 h.minW, .int .i64 h.minH, .int .i64 h.maxW, .int .i64 h.maxH, .int .i64 h.baseW, .int .i64 h.baseH, .int .i64 h.incW, .int .i64 h.incH, .int .i64 h.lowX, .int .i64 h.lowY, .int .i64 h.highX, .int .i64 h.highY], .int .i64 x, .int .i64 y] W fun e w' => e = .returned (.bool (goodI h x y)) ∧ Below W.heap.size W w' := by
  by_cases c : normal h = h
  · rw [goodI_yes c]
    by_cases c1 : x ≤ 65535
    · by_cases c2 : y ≤ 65535
      · exact c_good_yes h x y c c1 c2 W
      · rw [goodB_false.2 (fun g => c2 g.2.2.2.1)]
        exact c_good_no h x y (Or.inr (Or.inr (by omega))) W
    · rw [goodB_false.2 (fun g => c1 g.2.2.1)]
      exact c_good_no h x y (Or.inr (Or.inl (by omega))) W
  · rw [goodI_no c]
    exact c_good_no h x y (Or.inl c) W
theorem goodI_normal (h : Hn) (x y : Int) : goodI (normal h) x y = goodB (normal h) x y := goodI_yes (normal_idem h) x y

set_option maxHeartbeats 8000000 in
set_option maxRecDepth 100000 in
theorem good_any (h : Hn) (w t : Int) (W : World) : Calls Try.prog 7 #[.agg #[.int .i64 h.minW, .int .i64 h.minH, .int .i64 h.maxW, .int .i64 h.maxH, .int .i64 h.baseW, .int .i64 h.baseH, .int .i64 h.incW, .int .i64 h.incH, .int .i64 h.lowX, .int .i64 h.lowY, .int .i64 h.highX, .int .i64 h.highY], .int .i64 w, .int .i64 t] W fun e w' => e = .returned (.bool true) ∧ Below W.heap.size W w' := by
  obtain ⟨x, y, g, e⟩ := fit_good h w t
  obtain ⟨N, hN⟩ : ∃ n, n = normal h := ⟨_, rfl⟩
  have KN := c_normal h
  have KR := c_rnormal h
  have K1 := Aside0.mk (c_fit e)
  have KG := c_rgood (normal_nrm h) x y
  have KI := c_good (normal h) x y
  rw [goodB_true.2 g] at KG
  rw [goodI_normal, goodB_true.2 g] at KI
  rw [← hN] at KN KR KG KI
  replace KN := Aside0.mk KN; replace KR := Aside0.mk KR; replace KG := Aside0.mk KG; replace KI := Aside0.mk KI
  clear e g hN
  go_enter Try.func7, Try.ntmps7
  go_wp2_with fail
  refine (K1.out _).mono ?_
  rintro e w1 ⟨rfl, hb⟩
  have B3 := Aside0.mk (blk_below (blk_new W (.cells #[.int .i64 h.minW, .int .i64 h.minH, .int .i64 h.maxW, .int .i64 h.maxH, .int .i64 h.baseW, .int .i64 h.baseH, .int .i64 h.incW, .int .i64 h.incH, .int .i64 h.lowX, .int .i64 h.lowY, .int .i64 h.highX, .int .i64 h.highY] 23 (0, 0))) hb)
  have HB := Aside0.mk (below_step (below_alloc (Below.refl W.heap.size W) (.cells #[.int .i64 h.minW, .int .i64 h.minH, .int .i64 h.maxW, .int .i64 h.maxH, .int .i64 h.baseW, .int .i64 h.baseH, .int .i64 h.incW, .int .i64 h.incH, .int .i64 h.lowX, .int .i64 h.lowY, .int .i64 h.highX, .int .i64 h.highY] 23 (0, 0))) hb)
  clear hb
  have p0 : w1.cell? ⟨W.heap.size, 0, none⟩ = some (.int .i64 (h.minW)) := (blk_cell B3.out 0).trans rfl
  have p1 : w1.cell? ⟨W.heap.size, 1, none⟩ = some (.int .i64 (h.minH)) := (blk_cell B3.out 1).trans rfl
  have p2 : w1.cell? ⟨W.heap.size, 2, none⟩ = some (.int .i64 (h.maxW)) := (blk_cell B3.out 2).trans rfl
  have p3 : w1.cell? ⟨W.heap.size, 3, none⟩ = some (.int .i64 (h.maxH)) := (blk_cell B3.out 3).trans rfl
  have p4 : w1.cell? ⟨W.heap.size, 4, none⟩ = some (.int .i64 (h.baseW)) := (blk_cell B3.out 4).trans rfl
  have p5 : w1.cell? ⟨W.heap.size, 5, none⟩ = some (.int .i64 (h.baseH)) := (blk_cell B3.out 5).trans rfl
  have p6 : w1.cell? ⟨W.heap.size, 6, none⟩ = some (.int .i64 (h.incW)) := (blk_cell B3.out 6).trans rfl
  have p7 : w1.cell? ⟨W.heap.size, 7, none⟩ = some (.int .i64 (h.incH)) := (blk_cell B3.out 7).trans rfl
  have p8 : w1.cell? ⟨W.heap.size, 8, none⟩ = some (.int .i64 (h.lowX)) := (blk_cell B3.out 8).trans rfl
  have p9 : w1.cell? ⟨W.heap.size, 9, none⟩ = some (.int .i64 (h.lowY)) := (blk_cell B3.out 9).trans rfl
  have p10 : w1.cell? ⟨W.heap.size, 10, none⟩ = some (.int .i64 (h.highX)) := (blk_cell B3.out 10).trans rfl
  have p11 : w1.cell? ⟨W.heap.size, 11, none⟩ = some (.int .i64 (h.highY)) := (blk_cell B3.out 11).trans rfl
  go_wp2_with fail
  refine (KR.out _).mono ?_
  rintro e w2 ⟨rfl, hb⟩
  clear p0 p1 p2 p3 p4 p5 p6 p7 p8 p9 p10 p11
  replace B3 := Aside0.mk (blk_below B3.out hb)
  replace HB := Aside0.mk (below_step HB.out hb)
  clear hb
  go_wp2_with fail
  refine (KG.out _).mono ?_
  rintro e w3 ⟨rfl, hb⟩
  replace B3 := Aside0.mk (blk_below B3.out hb)
  replace HB := Aside0.mk (below_step HB.out hb)
  clear hb
  have p0 : w3.cell? ⟨W.heap.size, 0, none⟩ = some (.int .i64 (h.minW)) := (blk_cell B3.out 0).trans rfl
  have p1 : w3.cell? ⟨W.heap.size, 1, none⟩ = some (.int .i64 (h.minH)) := (blk_cell B3.out 1).trans rfl
  have p2 : w3.cell? ⟨W.heap.size, 2, none⟩ = some (.int .i64 (h.maxW)) := (blk_cell B3.out 2).trans rfl
  have p3 : w3.cell? ⟨W.heap.size, 3, none⟩ = some (.int .i64 (h.maxH)) := (blk_cell B3.out 3).trans rfl
  have p4 : w3.cell? ⟨W.heap.size, 4, none⟩ = some (.int .i64 (h.baseW)) := (blk_cell B3.out 4).trans rfl
  have p5 : w3.cell? ⟨W.heap.size, 5, none⟩ = some (.int .i64 (h.baseH)) := (blk_cell B3.out 5).trans rfl
  have p6 : w3.cell? ⟨W.heap.size, 6, none⟩ = some (.int .i64 (h.incW)) := (blk_cell B3.out 6).trans rfl
  have p7 : w3.cell? ⟨W.heap.size, 7, none⟩ = some (.int .i64 (h.incH)) := (blk_cell B3.out 7).trans rfl
  have p8 : w3.cell? ⟨W.heap.size, 8, none⟩ = some (.int .i64 (h.lowX)) := (blk_cell B3.out 8).trans rfl
  have p9 : w3.cell? ⟨W.heap.size, 9, none⟩ = some (.int .i64 (h.lowY)) := (blk_cell B3.out 9).trans rfl
  have p10 : w3.cell? ⟨W.heap.size, 10, none⟩ = some (.int .i64 (h.highX)) := (blk_cell B3.out 10).trans rfl
  have p11 : w3.cell? ⟨W.heap.size, 11, none⟩ = some (.int .i64 (h.highY)) := (blk_cell B3.out 11).trans rfl
  go_wp2_with fail
  refine (KN.out _).mono ?_
  rintro e w4 ⟨rfl, hb⟩
  clear p0 p1 p2 p3 p4 p5 p6 p7 p8 p9 p10 p11
  replace HB := Aside0.mk (below_step HB.out hb)
  clear hb
  go_wp2_with fail
  refine (KI.out _).mono ?_
  rintro e w5 ⟨rfl, hb⟩
  replace HB := Aside0.mk (below_step HB.out hb)
  clear hb
  go_wp2_with fail
  refine (c_awake _).mono ?_
  rintro e w6 ⟨rfl, hb⟩
  replace HB := Aside0.mk (below_step HB.out hb)
  clear hb
  go_wp2
  go_ret
  exact ⟨rfl, HB.out⟩
theorem SizeGood_law (a0_0 : Int) (a0_1 : Int) (a0_2 : Int) (a0_3 : Int) (a0_4 : Int) (a0_5 : Int) (a0_6 : Int) (a0_7 : Int) (a0_8 : Int) (a0_9 : Int) (a0_10 : Int) (a0_11 : Int) (a1 : Int) (a2 : Int) (W : World) (w0_0 : (Lit.int .i64 a0_0).wf = true) (w0_1 : (Lit.int .i64 a0_1).wf = true) (w0_2 : (Lit.int .i64 a0_2).wf = true) (w0_3 : (Lit.int .i64 a0_3).wf = true) (w0_4 : (Lit.int .i64 a0_4).wf = true) (w0_5 : (Lit.int .i64 a0_5).wf = true) (w0_6 : (Lit.int .i64 a0_6).wf = true) (w0_7 : (Lit.int .i64 a0_7).wf = true) (w0_8 : (Lit.int .i64 a0_8).wf = true) (w0_9 : (Lit.int .i64 a0_9).wf = true) (w0_10 : (Lit.int .i64 a0_10).wf = true) (w0_11 : (Lit.int .i64 a0_11).wf = true) (w1 : (Lit.int .i64 a1).wf = true) (w2 : (Lit.int .i64 a2).wf = true) :
    Calls Try.prog 7 #[.agg #[.int .i64 a0_0, .int .i64 a0_1, .int .i64 a0_2, .int .i64 a0_3, .int .i64 a0_4, .int .i64 a0_5, .int .i64 a0_6, .int .i64 a0_7, .int .i64 a0_8, .int .i64 a0_9, .int .i64 a0_10, .int .i64 a0_11], .int .i64 a1, .int .i64 a2] W fun e w' => e = .returned (.bool true) ∧ Below W.heap.size W w' :=
  good_any ⟨a0_0, a0_1, a0_2, a0_3, a0_4, a0_5, a0_6, a0_7, a0_8, a0_9, a0_10, a0_11⟩ a1 a2 W
def SzFT.T4 : Bool × List (List Nat × List Nat) := (true, [([], []), ([], []), ([0, 1], [0, 1]), ([2], [2]), ([3], [3]), ([3], [3]), ([4, 5, 3], [3, 4, 5]), ([3, 6], [3, 6]), ([7, 3], [7]), ([8], [8]), ([8], [8]), ([8], [8]), ([9, 10, 11, 8, 8], [8, 9, 10, 11]), ([8], [8]), ([8], [8]), ([8], [8]), ([13, 14, 15, 12, 8], [8, 13, 14, 15]), ([12, 16, 8], [8, 12, 16]), ([8, 17], [8, 17]), ([18, 16], [18]), ([19], [19]), ([19], [19]), ([19], [19]), ([20, 21, 22, 19, 19], [19, 20, 21, 22]), ([19], [19]), ([19], [19]), ([24, 25, 19], [19, 24, 25]), ([26, 23, 19], [19, 26]), ([27], [27]), ([27], [27]), ([27], [27]), ([28, 29, 30, 27, 27], [27, 28, 29, 30]), ([27, 31, 19], [19, 27, 31]), ([23, 32, 19], [19, 23, 32]), ([19, 33], [19, 33]), ([34, 31], [34]), ([35, 35], [35]), ([35, 36], [35, 36]), ([37, 36, 0, 1, 2, 3, 4, 5, 6, 7, 8, 9, 10, 11, 12, 13, 14, 15, 16, 17, 18, 19, 20, 21, 22, 23, 24, 25, 26, 27, 28, 29, 30, 31, 32, 33, 34, 35, 36, 37], [37])])
def SzFT.B4 : List Nat := [0, 0, 3, 7, 15, 15, 63, 127, 255, 511, 511, 511, 4095, 511, 511, 511, 65535, 131071, 262143, 524287, 1048575, 1048575, 1048575, 8388607, 1048575, 1048575, 51380223, 134217727, 268435455, 268435455, 268435455, 2147483647, 4294967295, 8589934591, 17179869183, 34359738367, 68719476735, 137438953471, 274877906943]
theorem SzFT.tab4 : rtab .any (opsOf Try.f6 4) = SzFT.T4 := by kernel_rfl
theorem SzFT.bits4 : waitsOk SzFT.T4.2 SzFT.B4 = true := by kernel_rfl

set_option maxHeartbeats 16000000 in
set_option maxRecDepth 100000 in
theorem fits_any (h : Hn) (w t : Int) (W : World) : Calls Try.prog 6 #[.agg #[.int .i64 h.minW, .int .i64 h.minH, .int .i64 h.maxW, .int .i64 h.maxH, .int .i64 h.baseW, .int .i64 h.baseH, .int .i64 h.incW, .int .i64 h.incH, .int .i64 h.lowX, .int .i64 h.lowY, .int .i64 h.highX, .int .i64 h.highY], .int .i64 w, .int .i64 t] W fun e w' => e = .returned (.bool true) ∧ Below W.heap.size W w' := by
  obtain ⟨x, y, g, e⟩ := fit_good h w t
  obtain ⟨N, hN⟩ : ∃ n, n = normal h := ⟨_, rfl⟩
  have KR := c_rnormal h
  have K1 := Aside0.mk (c_fit e)
  have K2 := Aside0.mk (c_rfit e)
  have KA := c_good (normal h) w t
  have KB := c_rgood (normal_nrm h) w t
  rw [goodI_normal] at KA
  have KC := c_good h w t
  have CS : (N = h ∧ goodI h w t = goodB h w t ∧ Nrm h) ∨ (N ≠ h ∧ goodI h w t = false) := by
    rw [hN]
    by_cases c : normal h = h
    · exact Or.inl ⟨c, goodI_yes c w t, c ▸ normal_nrm h⟩
    · exact Or.inr ⟨c, goodI_no c w t⟩
  rw [← hN] at KR KA KB
  obtain ⟨bN, hbN⟩ : ∃ b, goodB N w t = b := ⟨_, rfl⟩
  rw [hbN] at KA KB
  have hE : eq12 N.minW N.minH N.maxW N.maxH N.baseW N.baseH N.incW N.incH N.lowX N.lowY N.highX N.highY h.minW h.minH h.maxW h.maxH h.baseW h.baseH h.incW h.incH h.lowX h.lowY h.highX h.highY = true ↔ N = h := eq12_true
  clear e g hN hbN
  go_enter Try.func6, Try.ntmps6
  rcases CS with ⟨c, e, hn⟩ | ⟨c, e⟩
  · have KD := c_rgood hn w t
    rw [e] at KC
    obtain ⟨bh, hbh⟩ : ∃ b, goodB h w t = b := ⟨_, rfl⟩
    rw [hbh] at KC KD
    have hEq : eq12 N.minW N.minH N.maxW N.maxH N.baseW N.baseH N.incW N.incH N.lowX N.lowY N.highX N.highY h.minW h.minH h.maxW h.maxH h.baseW h.baseH h.incW h.incH h.lowX h.lowY h.highX h.highY = true := hE.2 c
    replace KR := Aside0.mk KR; replace KA := Aside0.mk KA; replace KB := Aside0.mk KB; replace KC := Aside0.mk KC; replace KD := Aside0.mk KD
    clear hE c e hn hbh
    go_wp2_with fail
    refine (KR.out _).mono ?_
    rintro e w1 ⟨rfl, hb⟩
    have B1 := Aside0.mk (blk_below (blk_new W (.cells #[.int .i64 h.minW, .int .i64 h.minH, .int .i64 h.maxW, .int .i64 h.maxH, .int .i64 h.baseW, .int .i64 h.baseH, .int .i64 h.incW, .int .i64 h.incH, .int .i64 h.lowX, .int .i64 h.lowY, .int .i64 h.highX, .int .i64 h.highY] 23 (0, 0))) hb)
    have P0 := Aside0.mk B1.out
    have qB := below_alloc (below_step (below_alloc (Below.refl W.heap.size W) (.cells #[.int .i64 h.minW, .int .i64 h.minH, .int .i64 h.maxW, .int .i64 h.maxH, .int .i64 h.baseW, .int .i64 h.baseH, .int .i64 h.incW, .int .i64 h.incH, .int .i64 h.lowX, .int .i64 h.lowY, .int .i64 h.highX, .int .i64 h.highY] 23 (0, 0))) hb) (.cells #[.int .i64 N.minW, .int .i64 N.minH, .int .i64 N.maxW, .int .i64 N.maxH, .int .i64 N.baseW, .int .i64 N.baseH, .int .i64 N.incW, .int .i64 N.incH, .int .i64 N.lowX, .int .i64 N.lowY, .int .i64 N.highX, .int .i64 N.highY] 23 (0, 0))
    have B3 := Aside0.mk (blk_new w1 (.cells #[.int .i64 N.minW, .int .i64 N.minH, .int .i64 N.maxW, .int .i64 N.maxH, .int .i64 N.baseW, .int .i64 N.baseH, .int .i64 N.incW, .int .i64 N.incH, .int .i64 N.lowX, .int .i64 N.lowY, .int .i64 N.highX, .int .i64 N.highY] 23 (0, 0)))
    replace B1 := Aside0.mk (blk_alloc B1.out (.cells #[.int .i64 N.minW, .int .i64 N.minH, .int .i64 N.maxW, .int .i64 N.maxH, .int .i64 N.baseW, .int .i64 N.baseH, .int .i64 N.incW, .int .i64 N.incH, .int .i64 N.lowX, .int .i64 N.lowY, .int .i64 N.highX, .int .i64 N.highY] 23 (0, 0)))
    clear hb
    have p0 : ∀ o, (w1.alloc o).cell? ⟨W.heap.size, 0, none⟩ = some (.int .i64 h.minW) := fun o => (World.cell?_alloc_lt _ _ _ (World.block_lt_of_cell? w1 _ ((blk_cell P0.out 0).trans rfl))).trans ((blk_cell P0.out 0).trans rfl)
    have p1 : ∀ o, (w1.alloc o).cell? ⟨W.heap.size, 1, none⟩ = some (.int .i64 h.minH) := fun o => (World.cell?_alloc_lt _ _ _ (World.block_lt_of_cell? w1 _ ((blk_cell P0.out 1).trans rfl))).trans ((blk_cell P0.out 1).trans rfl)
    have p2 : ∀ o, (w1.alloc o).cell? ⟨W.heap.size, 2, none⟩ = some (.int .i64 h.maxW) := fun o => (World.cell?_alloc_lt _ _ _ (World.block_lt_of_cell? w1 _ ((blk_cell P0.out 2).trans rfl))).trans ((blk_cell P0.out 2).trans rfl)
    have p3 : ∀ o, (w1.alloc o).cell? ⟨W.heap.size, 3, none⟩ = some (.int .i64 h.maxH) := fun o => (World.cell?_alloc_lt _ _ _ (World.block_lt_of_cell? w1 _ ((blk_cell P0.out 3).trans rfl))).trans ((blk_cell P0.out 3).trans rfl)
    have p4 : ∀ o, (w1.alloc o).cell? ⟨W.heap.size, 4, none⟩ = some (.int .i64 h.baseW) := fun o => (World.cell?_alloc_lt _ _ _ (World.block_lt_of_cell? w1 _ ((blk_cell P0.out 4).trans rfl))).trans ((blk_cell P0.out 4).trans rfl)
    have p5 : ∀ o, (w1.alloc o).cell? ⟨W.heap.size, 5, none⟩ = some (.int .i64 h.baseH) := fun o => (World.cell?_alloc_lt _ _ _ (World.block_lt_of_cell? w1 _ ((blk_cell P0.out 5).trans rfl))).trans ((blk_cell P0.out 5).trans rfl)
    have p6 : ∀ o, (w1.alloc o).cell? ⟨W.heap.size, 6, none⟩ = some (.int .i64 h.incW) := fun o => (World.cell?_alloc_lt _ _ _ (World.block_lt_of_cell? w1 _ ((blk_cell P0.out 6).trans rfl))).trans ((blk_cell P0.out 6).trans rfl)
    have p7 : ∀ o, (w1.alloc o).cell? ⟨W.heap.size, 7, none⟩ = some (.int .i64 h.incH) := fun o => (World.cell?_alloc_lt _ _ _ (World.block_lt_of_cell? w1 _ ((blk_cell P0.out 7).trans rfl))).trans ((blk_cell P0.out 7).trans rfl)
    have p8 : ∀ o, (w1.alloc o).cell? ⟨W.heap.size, 8, none⟩ = some (.int .i64 h.lowX) := fun o => (World.cell?_alloc_lt _ _ _ (World.block_lt_of_cell? w1 _ ((blk_cell P0.out 8).trans rfl))).trans ((blk_cell P0.out 8).trans rfl)
    have p9 : ∀ o, (w1.alloc o).cell? ⟨W.heap.size, 9, none⟩ = some (.int .i64 h.lowY) := fun o => (World.cell?_alloc_lt _ _ _ (World.block_lt_of_cell? w1 _ ((blk_cell P0.out 9).trans rfl))).trans ((blk_cell P0.out 9).trans rfl)
    have p10 : ∀ o, (w1.alloc o).cell? ⟨W.heap.size, 10, none⟩ = some (.int .i64 h.highX) := fun o => (World.cell?_alloc_lt _ _ _ (World.block_lt_of_cell? w1 _ ((blk_cell P0.out 10).trans rfl))).trans ((blk_cell P0.out 10).trans rfl)
    have p11 : ∀ o, (w1.alloc o).cell? ⟨W.heap.size, 11, none⟩ = some (.int .i64 h.highY) := fun o => (World.cell?_alloc_lt _ _ _ (World.block_lt_of_cell? w1 _ ((blk_cell P0.out 11).trans rfl))).trans ((blk_cell P0.out 11).trans rfl)
    go_wp2_with fail
    refine (K1.out _).mono ?_
    rintro e w2 ⟨rfl, hb⟩
    clear p0 p1 p2 p3 p4 p5 p6 p7 p8 p9 p10 p11
    replace B1 := Aside0.mk (blk_below B1.out hb)
    replace B3 := Aside0.mk (blk_below B3.out hb)
    replace qB := below_step (w := W) qB hb
    clear hb
    have p0 : w2.cell? ⟨W.heap.size, 0, none⟩ = some (.int .i64 (h.minW)) := (blk_cell B1.out 0).trans rfl
    have p1 : w2.cell? ⟨W.heap.size, 1, none⟩ = some (.int .i64 (h.minH)) := (blk_cell B1.out 1).trans rfl
    have p2 : w2.cell? ⟨W.heap.size, 2, none⟩ = some (.int .i64 (h.maxW)) := (blk_cell B1.out 2).trans rfl
    have p3 : w2.cell? ⟨W.heap.size, 3, none⟩ = some (.int .i64 (h.maxH)) := (blk_cell B1.out 3).trans rfl
    have p4 : w2.cell? ⟨W.heap.size, 4, none⟩ = some (.int .i64 (h.baseW)) := (blk_cell B1.out 4).trans rfl
    have p5 : w2.cell? ⟨W.heap.size, 5, none⟩ = some (.int .i64 (h.baseH)) := (blk_cell B1.out 5).trans rfl
    have p6 : w2.cell? ⟨W.heap.size, 6, none⟩ = some (.int .i64 (h.incW)) := (blk_cell B1.out 6).trans rfl
    have p7 : w2.cell? ⟨W.heap.size, 7, none⟩ = some (.int .i64 (h.incH)) := (blk_cell B1.out 7).trans rfl
    have p8 : w2.cell? ⟨W.heap.size, 8, none⟩ = some (.int .i64 (h.lowX)) := (blk_cell B1.out 8).trans rfl
    have p9 : w2.cell? ⟨W.heap.size, 9, none⟩ = some (.int .i64 (h.lowY)) := (blk_cell B1.out 9).trans rfl
    have p10 : w2.cell? ⟨W.heap.size, 10, none⟩ = some (.int .i64 (h.highX)) := (blk_cell B1.out 10).trans rfl
    have p11 : w2.cell? ⟨W.heap.size, 11, none⟩ = some (.int .i64 (h.highY)) := (blk_cell B1.out 11).trans rfl
    go_wp2_with fail
    refine (K2.out _).mono ?_
    rintro e w3 ⟨rfl, hb⟩
    clear p0 p1 p2 p3 p4 p5 p6 p7 p8 p9 p10 p11
    replace B1 := Aside0.mk (blk_below B1.out hb)
    replace B3 := Aside0.mk (blk_below B3.out hb)
    replace qB := below_step (w := W) qB hb
    clear hb
    have p0 : w3.cell? ⟨W.heap.size, 0, none⟩ = some (.int .i64 (h.minW)) := (blk_cell B1.out 0).trans rfl
    have p1 : w3.cell? ⟨W.heap.size, 1, none⟩ = some (.int .i64 (h.minH)) := (blk_cell B1.out 1).trans rfl
    have p2 : w3.cell? ⟨W.heap.size, 2, none⟩ = some (.int .i64 (h.maxW)) := (blk_cell B1.out 2).trans rfl
    have p3 : w3.cell? ⟨W.heap.size, 3, none⟩ = some (.int .i64 (h.maxH)) := (blk_cell B1.out 3).trans rfl
    have p4 : w3.cell? ⟨W.heap.size, 4, none⟩ = some (.int .i64 (h.baseW)) := (blk_cell B1.out 4).trans rfl
    have p5 : w3.cell? ⟨W.heap.size, 5, none⟩ = some (.int .i64 (h.baseH)) := (blk_cell B1.out 5).trans rfl
    have p6 : w3.cell? ⟨W.heap.size, 6, none⟩ = some (.int .i64 (h.incW)) := (blk_cell B1.out 6).trans rfl
    have p7 : w3.cell? ⟨W.heap.size, 7, none⟩ = some (.int .i64 (h.incH)) := (blk_cell B1.out 7).trans rfl
    have p8 : w3.cell? ⟨W.heap.size, 8, none⟩ = some (.int .i64 (h.lowX)) := (blk_cell B1.out 8).trans rfl
    have p9 : w3.cell? ⟨W.heap.size, 9, none⟩ = some (.int .i64 (h.lowY)) := (blk_cell B1.out 9).trans rfl
    have p10 : w3.cell? ⟨W.heap.size, 10, none⟩ = some (.int .i64 (h.highX)) := (blk_cell B1.out 10).trans rfl
    have p11 : w3.cell? ⟨W.heap.size, 11, none⟩ = some (.int .i64 (h.highY)) := (blk_cell B1.out 11).trans rfl
    have q0 : w3.cell? ⟨w1.heap.size, 0, none⟩ = some (.int .i64 (N.minW)) := (blk_cell B3.out 0).trans rfl
    have q1 : w3.cell? ⟨w1.heap.size, 1, none⟩ = some (.int .i64 (N.minH)) := (blk_cell B3.out 1).trans rfl
    have q2 : w3.cell? ⟨w1.heap.size, 2, none⟩ = some (.int .i64 (N.maxW)) := (blk_cell B3.out 2).trans rfl
    have q3 : w3.cell? ⟨w1.heap.size, 3, none⟩ = some (.int .i64 (N.maxH)) := (blk_cell B3.out 3).trans rfl
    have q4 : w3.cell? ⟨w1.heap.size, 4, none⟩ = some (.int .i64 (N.baseW)) := (blk_cell B3.out 4).trans rfl
    have q5 : w3.cell? ⟨w1.heap.size, 5, none⟩ = some (.int .i64 (N.baseH)) := (blk_cell B3.out 5).trans rfl
    have q6 : w3.cell? ⟨w1.heap.size, 6, none⟩ = some (.int .i64 (N.incW)) := (blk_cell B3.out 6).trans rfl
    have q7 : w3.cell? ⟨w1.heap.size, 7, none⟩ = some (.int .i64 (N.incH)) := (blk_cell B3.out 7).trans rfl
    have q8 : w3.cell? ⟨w1.heap.size, 8, none⟩ = some (.int .i64 (N.lowX)) := (blk_cell B3.out 8).trans rfl
    have q9 : w3.cell? ⟨w1.heap.size, 9, none⟩ = some (.int .i64 (N.lowY)) := (blk_cell B3.out 9).trans rfl
    have q10 : w3.cell? ⟨w1.heap.size, 10, none⟩ = some (.int .i64 (N.highX)) := (blk_cell B3.out 10).trans rfl
    have q11 : w3.cell? ⟨w1.heap.size, 11, none⟩ = some (.int .i64 (N.highY)) := (blk_cell B3.out 11).trans rfl
    clear B1 B3
    go_wp2_with fail
    refine start_ (n := 39) (S := fun w' => w'.cell? ⟨W.heap.size, 0, none⟩ = some (.int .i64 h.minW) ∧ w'.cell? ⟨W.heap.size, 1, none⟩ = some (.int .i64 h.minH) ∧ w'.cell? ⟨W.heap.size, 2, none⟩ = some (.int .i64 h.maxW) ∧ w'.cell? ⟨W.heap.size, 3, none⟩ = some (.int .i64 h.maxH) ∧ w'.cell? ⟨W.heap.size, 4, none⟩ = some (.int .i64 h.baseW) ∧ w'.cell? ⟨W.heap.size, 5, none⟩ = some (.int .i64 h.baseH) ∧ w'.cell? ⟨W.heap.size, 6, none⟩ = some (.int .i64 h.incW) ∧ w'.cell? ⟨W.heap.size, 7, none⟩ = some (.int .i64 h.incH) ∧ w'.cell? ⟨W.heap.size, 8, none⟩ = some (.int .i64 h.lowX) ∧ w'.cell? ⟨W.heap.size, 9, none⟩ = some (.int .i64 h.lowY) ∧ w'.cell? ⟨W.heap.size, 10, none⟩ = some (.int .i64 h.highX) ∧ w'.cell? ⟨W.heap.size, 11, none⟩ = some (.int .i64 h.highY) ∧ w'.cell? ⟨w1.heap.size, 0, none⟩ = some (.int .i64 N.minW) ∧ w'.cell? ⟨w1.heap.size, 1, none⟩ = some (.int .i64 N.minH) ∧ w'.cell? ⟨w1.heap.size, 2, none⟩ = some (.int .i64 N.maxW) ∧ w'.cell? ⟨w1.heap.size, 3, none⟩ = some (.int .i64 N.maxH) ∧ w'.cell? ⟨w1.heap.size, 4, none⟩ = some (.int .i64 N.baseW) ∧ w'.cell? ⟨w1.heap.size, 5, none⟩ = some (.int .i64 N.baseH) ∧ w'.cell? ⟨w1.heap.size, 6, none⟩ = some (.int .i64 N.incW) ∧ w'.cell? ⟨w1.heap.size, 7, none⟩ = some (.int .i64 N.incH) ∧ w'.cell? ⟨w1.heap.size, 8, none⟩ = some (.int .i64 N.lowX) ∧ w'.cell? ⟨w1.heap.size, 9, none⟩ = some (.int .i64 N.lowY) ∧ w'.cell? ⟨w1.heap.size, 10, none⟩ = some (.int .i64 N.highX) ∧ w'.cell? ⟨w1.heap.size, 11, none⟩ = some (.int .i64 N.highY)) (ds := []) #[false, false, false, false, false, false, false, false, false, false, false, false, false, false, false, false, false, false, false, false, false, false, false, false, false, false, false, false, false, false, false, false, false, false, false, false, false, false, false] (by kernel_rfl) rfl rfl ⟨p0, p1, p2, p3, p4, p5, p6, p7, p8, p9, p10, p11, q0, q1, q2, q3, q4, q5, q6, q7, q8, q9, q10, q11⟩ (fun hHeld => ?_)
    refine with_tabW SzFT.tab4 SzFT.bits4 (fun HT_ HW_ => ?_)
    have qB0 := below_drew qB
    clear qB
    have qB := qB0
    clear qB0
    generalize w3.drew = wr at qB hHeld ⊢
    refine pure_ (i := 0) (N := some 28) (v := ?_) (a' := ?_) #[true, false, false, false, false, false, false, false, false, false, false, false, false, false, false, false, false, false, false, false, false, false, false, false, false, false, false, false, false, false, false, false, false, false, false, false, false, false, false] rfl rfl (any_of HT_.out (by kernel_rfl)) (fun _ _ _ h => h) (Or.inl ⟨by rfl, ?_⟩) ?_ ?_
    rotate_left
    · intro w'
      go_simp
      with_reducible rfl
    rotate_left
    · simp only [Act.put, List.setIfInBounds_toArray, List.set_cons_zero, List.set_cons_succ, i64_w, i32_w]
      rfl
    refine pure_ (i := 1) (N := some 29) (v := ?_) (a' := ?_) #[true, true, false, false, false, false, false, false, false, false, false, false, false, false, false, false, false, false, false, false, false, false, false, false, false, false, false, false, false, false, false, false, false, false, false, false, false, false, false] rfl rfl (any_of HT_.out (by kernel_rfl)) (fun _ _ _ h => h) (Or.inl ⟨by rfl, ?_⟩) ?_ ?_
    rotate_left
    · intro w'
      go_simp
      with_reducible rfl
    rotate_left
    · simp only [Act.put, List.setIfInBounds_toArray, List.set_cons_zero, List.set_cons_succ, i64_w, i32_w]
      rfl
    refine pure_ (i := 2) (N := some 30) (v := ?_) (a' := ?_) #[true, true, true, false, false, false, false, false, false, false, false, false, false, false, false, false, false, false, false, false, false, false, false, false, false, false, false, false, false, false, false, false, false, false, false, false, false, false, false] rfl rfl (any_of HT_.out (by kernel_rfl)) (fun _ _ _ h => h) (Or.inl ⟨by rfl, ?_⟩) ?_ ?_
    rotate_left
    · intro w'
      go_simp
      with_reducible rfl
    rotate_left
    · simp only [Act.put, List.setIfInBounds_toArray, List.set_cons_zero, List.set_cons_succ, i64_w, i32_w]
      rfl
    refine pure_ (i := 3) (N := some 31) (v := ?_) (a' := ?_) #[true, true, true, true, false, false, false, false, false, false, false, false, false, false, false, false, false, false, false, false, false, false, false, false, false, false, false, false, false, false, false, false, false, false, false, false, false, false, false] rfl rfl (any_of HT_.out (by kernel_rfl)) (fun _ _ _ h => h) (Or.inl ⟨by rfl, ?_⟩) ?_ ?_
    rotate_left
    · intro w'
      go_simp
      with_reducible rfl
    rotate_left
    · simp only [Act.put, List.setIfInBounds_toArray, List.set_cons_zero, List.set_cons_succ, i64_w, i32_w]
      rfl
    refine pure_ (i := 4) (N := some 32) (v := ?_) (a' := ?_) #[true, true, true, true, true, false, false, false, false, false, false, false, false, false, false, false, false, false, false, false, false, false, false, false, false, false, false, false, false, false, false, false, false, false, false, false, false, false, false] rfl rfl (any_of HT_.out (by kernel_rfl)) (fun _ _ _ h => h) (Or.inl ⟨by rfl, ?_⟩) ?_ ?_
    rotate_left
    · intro w'
      go_simp
      with_reducible rfl
    rotate_left
    · simp only [Act.put, List.setIfInBounds_toArray, List.set_cons_zero, List.set_cons_succ, i64_w, i32_w]
      rfl
    refine pure_ (i := 5) (N := some 33) (v := ?_) (a' := ?_) #[true, true, true, true, true, true, false, false, false, false, false, false, false, false, false, false, false, false, false, false, false, false, false, false, false, false, false, false, false, false, false, false, false, false, false, false, false, false, false] rfl rfl (any_of HT_.out (by kernel_rfl)) (fun _ _ _ h => h) (Or.inl ⟨by rfl, ?_⟩) ?_ ?_
    rotate_left
    · intro w'
      go_simp
      with_reducible rfl
    rotate_left
    · simp only [Act.put, List.setIfInBounds_toArray, List.set_cons_zero, List.set_cons_succ, i64_w, i32_w]
      rfl
    refine pure_ (i := 6) (N := some 34) (v := ?_) (a' := ?_) #[true, true, true, true, true, true, true, false, false, false, false, false, false, false, false, false, false, false, false, false, false, false, false, false, false, false, false, false, false, false, false, false, false, false, false, false, false, false, false] rfl rfl (any_of HT_.out (by kernel_rfl)) (fun _ _ _ h => h) (Or.inl ⟨by rfl, ?_⟩) ?_ ?_
    rotate_left
    · intro w'
      go_simp
      with_reducible rfl
    rotate_left
    · simp only [Act.put, List.setIfInBounds_toArray, List.set_cons_zero, List.set_cons_succ, i64_w, i32_w]
      rfl
    refine pure_ (i := 7) (N := some 35) (v := ?_) (a' := ?_) #[true, true, true, true, true, true, true, true, false, false, false, false, false, false, false, false, false, false, false, false, false, false, false, false, false, false, false, false, false, false, false, false, false, false, false, false, false, false, false] rfl rfl (any_of HT_.out (by kernel_rfl)) (fun _ _ _ h => h) (Or.inl ⟨by rfl, ?_⟩) ?_ ?_
    rotate_left
    · intro w'
      go_simp
      with_reducible rfl
    rotate_left
    · simp only [Act.put, List.setIfInBounds_toArray, List.set_cons_zero, List.set_cons_succ, i64_w, i32_w]
      rfl
    refine pure_ (i := 8) (N := some 36) (v := ?_) (a' := ?_) #[true, true, true, true, true, true, true, true, true, false, false, false, false, false, false, false, false, false, false, false, false, false, false, false, false, false, false, false, false, false, false, false, false, false, false, false, false, false, false] rfl rfl (any_of HT_.out (by kernel_rfl)) (fun _ _ _ h => h) (Or.inl ⟨by rfl, ?_⟩) ?_ ?_
    rotate_left
    · intro w'
      go_simp
      with_reducible rfl
    rotate_left
    · simp only [Act.put, List.setIfInBounds_toArray, List.set_cons_zero, List.set_cons_succ, i64_w, i32_w]
      rfl
    refine take_ (i := 9) (N := some 37) (v := ?_) (a' := ?_) #[true, true, true, true, true, true, true, true, true, true, false, false, false, false, false, false, false, false, false, false, false, false, false, false, false, false, false, false, false, false, false, false, false, false, false, false, false, false, false] rfl rfl (take_ofW HT_.out HW_.out (by kernel_rfl)) (fun _ _ _ h => h) (Or.inl ⟨by rfl, ?_⟩) hHeld ?_ ?_
    rotate_left
    · rintro w' ⟨s0, s1, s2, s3, s4, s5, s6, s7, s8, s9, s10, s11, s12, s13, s14, s15, s16, s17, s18, s19, s20, s21, s22, s23⟩
      go_simp
      with_reducible rfl
    rotate_left
    · simp only [Act.put, List.setIfInBounds_toArray, List.set_cons_zero, List.set_cons_succ, i64_w, i32_w]
      rfl
    refine pure_ (i := 10) (N := some 38) (v := ?_) (a' := ?_) #[true, true, true, true, true, true, true, true, true, true, true, false, false, false, false, false, false, false, false, false, false, false, false, false, false, false, false, false, false, false, false, false, false, false, false, false, false, false, false] rfl rfl (any_of HT_.out (by kernel_rfl)) (fun _ _ _ h => h) (Or.inl ⟨by rfl, ?_⟩) ?_ ?_
    rotate_left
    · intro w'
      go_simp
      with_reducible rfl
    rotate_left
    · simp only [Act.put, List.setIfInBounds_toArray, List.set_cons_zero, List.set_cons_succ, i64_w, i32_w]
      rfl
    refine pure_ (i := 11) (N := some 39) (v := ?_) (a' := ?_) #[true, true, true, true, true, true, true, true, true, true, true, true, false, false, false, false, false, false, false, false, false, false, false, false, false, false, false, false, false, false, false, false, false, false, false, false, false, false, false] rfl rfl (any_of HT_.out (by kernel_rfl)) (fun _ _ _ h => h) (Or.inl ⟨by rfl, ?_⟩) ?_ ?_
    rotate_left
    · intro w'
      go_simp
      with_reducible rfl
    rotate_left
    · simp only [Act.put, List.setIfInBounds_toArray, List.set_cons_zero, List.set_cons_succ, i64_w, i32_w]
      rfl
    refine take_ (i := 13) (N := some 41) (v := ?_) (a' := ?_) #[true, true, true, true, true, true, true, true, true, true, true, true, false, true, false, false, false, false, false, false, false, false, false, false, false, false, false, false, false, false, false, false, false, false, false, false, false, false, false] rfl rfl (take_ofW HT_.out HW_.out (by kernel_rfl)) (fun _ _ _ h => h) (Or.inl ⟨by rfl, ?_⟩) hHeld ?_ ?_
    rotate_left
    · rintro w' ⟨s0, s1, s2, s3, s4, s5, s6, s7, s8, s9, s10, s11, s12, s13, s14, s15, s16, s17, s18, s19, s20, s21, s22, s23⟩
      go_simp
      with_reducible rfl
    rotate_left
    · simp only [Act.put, List.setIfInBounds_toArray, List.set_cons_zero, List.set_cons_succ, i64_w, i32_w]
      rfl
    refine pure_ (i := 14) (N := some 42) (v := ?_) (a' := ?_) #[true, true, true, true, true, true, true, true, true, true, true, true, false, true, true, false, false, false, false, false, false, false, false, false, false, false, false, false, false, false, false, false, false, false, false, false, false, false, false] rfl rfl (any_of HT_.out (by kernel_rfl)) (fun _ _ _ h => h) (Or.inl ⟨by rfl, ?_⟩) ?_ ?_
    rotate_left
    · intro w'
      go_simp
      with_reducible rfl
    rotate_left
    · simp only [Act.put, List.setIfInBounds_toArray, List.set_cons_zero, List.set_cons_succ, i64_w, i32_w]
      rfl
    refine pure_ (i := 15) (N := some 43) (v := ?_) (a' := ?_) #[true, true, true, true, true, true, true, true, true, true, true, true, false, true, true, true, false, false, false, false, false, false, false, false, false, false, false, false, false, false, false, false, false, false, false, false, false, false, false] rfl rfl (any_of HT_.out (by kernel_rfl)) (fun _ _ _ h => h) (Or.inl ⟨by rfl, ?_⟩) ?_ ?_
    rotate_left
    · intro w'
      go_simp
      with_reducible rfl
    rotate_left
    · simp only [Act.put, List.setIfInBounds_toArray, List.set_cons_zero, List.set_cons_succ, i64_w, i32_w]
      rfl
    refine one_ (i := 12) (N := some 40) #[true, true, true, true, true, true, true, true, true, true, true, true, true, true, true, true, false, false, false, false, false, false, false, false, false, false, false, false, false, false, false, false, false, false, false, false, false, false, false] rfl rfl (one_of HT_.out (by kernel_rfl)) (by decide) (fun K hK => ?_)
    refine goes_ Try.func17 (by kernel_rfl) rfl #[.agg #[.int .i64 N.minW, .int .i64 N.minH, .int .i64 N.maxW, .int .i64 N.maxH, .int .i64 N.baseW, .int .i64 N.baseH, .int .i64 N.incW, .int .i64 N.incH, .int .i64 N.lowX, .int .i64 N.lowY, .int .i64 N.highX, .int .i64 N.highY], .int .i64 w, .int .i64 t] (by rfl) rfl rfl (by (try simp only [List.map_toArray, List.map_cons, List.map_nil]); first | done | rfl) ?_
    refine (KA.out _).mono ?_
    rintro e wn ⟨rfl, hb⟩
    refine ⟨_, rfl, ?_⟩
    obtain ⟨s0, s1, s2, s3, s4, s5, s6, s7, s8, s9, s10, s11, s12, s13, s14, s15, s16, s17, s18, s19, s20, s21, s22, s23⟩ := hHeld
    replace s0 := cell_held hb s0
    replace s1 := cell_held hb s1
    replace s2 := cell_held hb s2
    replace s3 := cell_held hb s3
    replace s4 := cell_held hb s4
    replace s5 := cell_held hb s5
    replace s6 := cell_held hb s6
    replace s7 := cell_held hb s7
    replace s8 := cell_held hb s8
    replace s9 := cell_held hb s9
    replace s10 := cell_held hb s10
    replace s11 := cell_held hb s11
    replace s12 := cell_held hb s12
    replace s13 := cell_held hb s13
    replace s14 := cell_held hb s14
    replace s15 := cell_held hb s15
    replace s16 := cell_held hb s16
    replace s17 := cell_held hb s17
    replace s18 := cell_held hb s18
    replace s19 := cell_held hb s19
    replace s20 := cell_held hb s20
    replace s21 := cell_held hb s21
    replace s22 := cell_held hb s22
    replace s23 := cell_held hb s23
    replace qB := below_step (w := W) qB hb
    clear hb
    refine hK.out _ _ ⟨s0, s1, s2, s3, s4, s5, s6, s7, s8, s9, s10, s11, s12, s13, s14, s15, s16, s17, s18, s19, s20, s21, s22, s23⟩ (fun hHeld => ?_)
    clear hK K s0 s1 s2 s3 s4 s5 s6 s7 s8 s9 s10 s11 s12 s13 s14 s15 s16 s17 s18 s19 s20 s21 s22 s23
    refine norm_ (a' := ?_) ?_ ?_
    rotate_left
    · show Act.put _ (some 40) _ = _
      simp only [Act.put, List.setIfInBounds_toArray, List.set_cons_zero, List.set_cons_succ, i64_w, i32_w]
      rfl
    refine one_ (i := 16) (N := some 44) #[true, true, true, true, true, true, true, true, true, true, true, true, true, true, true, true, true, false, false, false, false, false, false, false, false, false, false, false, false, false, false, false, false, false, false, false, false, false, false] rfl rfl (one_of HT_.out (by kernel_rfl)) (by decide) (fun K hK => ?_)
    refine goes_ Try.func15 (by kernel_rfl) rfl #[.agg #[.int .i64 N.minW, .int .i64 N.minH, .int .i64 N.maxW, .int .i64 N.maxH, .int .i64 N.baseW, .int .i64 N.baseH, .int .i64 N.incW, .int .i64 N.incH, .int .i64 N.lowX, .int .i64 N.lowY, .int .i64 N.highX, .int .i64 N.highY], .int .i64 w, .int .i64 t] (by rfl) rfl rfl (by (try simp only [List.map_toArray, List.map_cons, List.map_nil]); first | done | rfl) ?_
    refine (KB.out _).mono ?_
    rintro e wn ⟨rfl, hb⟩
    refine ⟨_, rfl, ?_⟩
    obtain ⟨s0, s1, s2, s3, s4, s5, s6, s7, s8, s9, s10, s11, s12, s13, s14, s15, s16, s17, s18, s19, s20, s21, s22, s23⟩ := hHeld
    replace s0 := cell_held hb s0
    replace s1 := cell_held hb s1
    replace s2 := cell_held hb s2
    replace s3 := cell_held hb s3
    replace s4 := cell_held hb s4
    replace s5 := cell_held hb s5
    replace s6 := cell_held hb s6
    replace s7 := cell_held hb s7
    replace s8 := cell_held hb s8
    replace s9 := cell_held hb s9
    replace s10 := cell_held hb s10
    replace s11 := cell_held hb s11
    replace s12 := cell_held hb s12
    replace s13 := cell_held hb s13
    replace s14 := cell_held hb s14
    replace s15 := cell_held hb s15
    replace s16 := cell_held hb s16
    replace s17 := cell_held hb s17
    replace s18 := cell_held hb s18
    replace s19 := cell_held hb s19
    replace s20 := cell_held hb s20
    replace s21 := cell_held hb s21
    replace s22 := cell_held hb s22
    replace s23 := cell_held hb s23
    replace qB := below_step (w := W) qB hb
    clear hb
    refine hK.out _ _ ⟨s0, s1, s2, s3, s4, s5, s6, s7, s8, s9, s10, s11, s12, s13, s14, s15, s16, s17, s18, s19, s20, s21, s22, s23⟩ (fun hHeld => ?_)
    clear hK K s0 s1 s2 s3 s4 s5 s6 s7 s8 s9 s10 s11 s12 s13 s14 s15 s16 s17 s18 s19 s20 s21 s22 s23
    refine norm_ (a' := ?_) ?_ ?_
    rotate_left
    · show Act.put _ (some 44) _ = _
      simp only [Act.put, List.setIfInBounds_toArray, List.set_cons_zero, List.set_cons_succ, i64_w, i32_w]
      rfl
    refine pure_ (i := 17) (N := some 45) (v := ?_) (a' := ?_) #[true, true, true, true, true, true, true, true, true, true, true, true, true, true, true, true, true, true, false, false, false, false, false, false, false, false, false, false, false, false, false, false, false, false, false, false, false, false, false] rfl rfl (any_of HT_.out (by kernel_rfl)) (fun _ _ _ h => h) (Or.inl ⟨by rfl, ?_⟩) ?_ ?_
    rotate_left
    · intro w'
      go_simp
      with_reducible rfl
    rotate_left
    · simp only [Act.put, List.setIfInBounds_toArray, List.set_cons_zero, List.set_cons_succ, i64_w, i32_w]
      rfl
    refine pure_ (i := 18) (N := some 46) (v := ?_) (a' := ?_) #[true, true, true, true, true, true, true, true, true, true, true, true, true, true, true, true, true, true, true, false, false, false, false, false, false, false, false, false, false, false, false, false, false, false, false, false, false, false, false] rfl rfl (any_of HT_.out (by kernel_rfl)) (fun _ _ _ h => h) (Or.inl ⟨by rfl, ?_⟩) ?_ ?_
    rotate_left
    · intro w'
      go_simp
      with_reducible rfl
    rotate_left
    · simp only [Act.put, List.setIfInBounds_toArray, List.set_cons_zero, List.set_cons_succ, i64_w, i32_w]
      rfl
    refine pure_ (i := 19) (N := some 47) (v := ?_) (a' := ?_) #[true, true, true, true, true, true, true, true, true, true, true, true, true, true, true, true, true, true, true, true, false, false, false, false, false, false, false, false, false, false, false, false, false, false, false, false, false, false, false] rfl rfl (any_of HT_.out (by kernel_rfl)) (fun _ _ _ h => h) (Or.inl ⟨by rfl, ?_⟩) ?_ ?_
    rotate_left
    · intro w'
      go_simp
      with_reducible rfl
    rotate_left
    · simp only [Act.put, List.setIfInBounds_toArray, List.set_cons_zero, List.set_cons_succ, i64_w, i32_w]
      rfl
    refine take_ (i := 20) (N := some 48) (v := ?_) (a' := ?_) #[true, true, true, true, true, true, true, true, true, true, true, true, true, true, true, true, true, true, true, true, true, false, false, false, false, false, false, false, false, false, false, false, false, false, false, false, false, false, false] rfl rfl (take_ofW HT_.out HW_.out (by kernel_rfl)) (fun _ _ _ h => h) (Or.inl ⟨by rfl, ?_⟩) hHeld ?_ ?_
    rotate_left
    · rintro w' ⟨s0, s1, s2, s3, s4, s5, s6, s7, s8, s9, s10, s11, s12, s13, s14, s15, s16, s17, s18, s19, s20, s21, s22, s23⟩
      go_simp
      with_reducible rfl
    rotate_left
    · simp only [Act.put, List.setIfInBounds_toArray, List.set_cons_zero, List.set_cons_succ, i64_w, i32_w]
      rfl
    refine pure_ (i := 21) (N := some 49) (v := ?_) (a' := ?_) #[true, true, true, true, true, true, true, true, true, true, true, true, true, true, true, true, true, true, true, true, true, true, false, false, false, false, false, false, false, false, false, false, false, false, false, false, false, false, false] rfl rfl (any_of HT_.out (by kernel_rfl)) (fun _ _ _ h => h) (Or.inl ⟨by rfl, ?_⟩) ?_ ?_
    rotate_left
    · intro w'
      go_simp
      with_reducible rfl
    rotate_left
    · simp only [Act.put, List.setIfInBounds_toArray, List.set_cons_zero, List.set_cons_succ, i64_w, i32_w]
      rfl
    refine pure_ (i := 22) (N := some 50) (v := ?_) (a' := ?_) #[true, true, true, true, true, true, true, true, true, true, true, true, true, true, true, true, true, true, true, true, true, true, true, false, false, false, false, false, false, false, false, false, false, false, false, false, false, false, false] rfl rfl (any_of HT_.out (by kernel_rfl)) (fun _ _ _ h => h) (Or.inl ⟨by rfl, ?_⟩) ?_ ?_
    rotate_left
    · intro w'
      go_simp
      with_reducible rfl
    rotate_left
    · simp only [Act.put, List.setIfInBounds_toArray, List.set_cons_zero, List.set_cons_succ, i64_w, i32_w]
      rfl
    refine take_ (i := 24) (N := some 52) (v := ?_) (a' := ?_) #[true, true, true, true, true, true, true, true, true, true, true, true, true, true, true, true, true, true, true, true, true, true, true, false, true, false, false, false, false, false, false, false, false, false, false, false, false, false, false] rfl rfl (take_ofW HT_.out HW_.out (by kernel_rfl)) (fun _ _ _ h => h) (Or.inl ⟨by rfl, ?_⟩) hHeld ?_ ?_
    rotate_left
    · rintro w' ⟨s0, s1, s2, s3, s4, s5, s6, s7, s8, s9, s10, s11, s12, s13, s14, s15, s16, s17, s18, s19, s20, s21, s22, s23⟩
      go_simp
      with_reducible rfl
    rotate_left
    · simp only [Act.put, List.setIfInBounds_toArray, List.set_cons_zero, List.set_cons_succ, i64_w, i32_w]
      rfl
    refine take_ (i := 25) (N := some 53) (v := ?_) (a' := ?_) #[true, true, true, true, true, true, true, true, true, true, true, true, true, true, true, true, true, true, true, true, true, true, true, false, true, true, false, false, false, false, false, false, false, false, false, false, false, false, false] rfl rfl (take_ofW HT_.out HW_.out (by kernel_rfl)) (fun _ _ _ h => h) (Or.inl ⟨by rfl, ?_⟩) hHeld ?_ ?_
    rotate_left
    · rintro w' ⟨s0, s1, s2, s3, s4, s5, s6, s7, s8, s9, s10, s11, s12, s13, s14, s15, s16, s17, s18, s19, s20, s21, s22, s23⟩
      go_simp
      with_reducible rfl
    rotate_left
    · simp only [Act.put, List.setIfInBounds_toArray, List.set_cons_zero, List.set_cons_succ, i64_w, i32_w]
      rfl
    refine pure_ (i := 26) (N := some 54) (v := ?_) (a' := ?_) #[true, true, true, true, true, true, true, true, true, true, true, true, true, true, true, true, true, true, true, true, true, true, true, false, true, true, true, false, false, false, false, false, false, false, false, false, false, false, false] rfl rfl (any_of HT_.out (by kernel_rfl)) (fun _ _ _ h => h) (Or.inl ⟨by rfl, ?_⟩) ?_ ?_
    rotate_left
    · intro w'
      go_simp
      with_reducible rfl
    rotate_left
    · simp only [Act.put, List.setIfInBounds_toArray, List.set_cons_zero, List.set_cons_succ, i64_w, i32_w]
      rfl
    refine one_ (i := 23) (N := some 51) #[true, true, true, true, true, true, true, true, true, true, true, true, true, true, true, true, true, true, true, true, true, true, true, true, true, true, true, false, false, false, false, false, false, false, false, false, false, false, false] rfl rfl (one_of HT_.out (by kernel_rfl)) (by decide) (fun K hK => ?_)
    refine goes_ Try.func17 (by kernel_rfl) rfl #[.agg #[.int .i64 h.minW, .int .i64 h.minH, .int .i64 h.maxW, .int .i64 h.maxH, .int .i64 h.baseW, .int .i64 h.baseH, .int .i64 h.incW, .int .i64 h.incH, .int .i64 h.lowX, .int .i64 h.lowY, .int .i64 h.highX, .int .i64 h.highY], .int .i64 w, .int .i64 t] (by rfl) rfl rfl (by (try simp only [List.map_toArray, List.map_cons, List.map_nil]); first | done | rfl) ?_
    refine (KC.out _).mono ?_
    rintro e wn ⟨rfl, hb⟩
    refine ⟨_, rfl, ?_⟩
    obtain ⟨s0, s1, s2, s3, s4, s5, s6, s7, s8, s9, s10, s11, s12, s13, s14, s15, s16, s17, s18, s19, s20, s21, s22, s23⟩ := hHeld
    replace s0 := cell_held hb s0
    replace s1 := cell_held hb s1
    replace s2 := cell_held hb s2
    replace s3 := cell_held hb s3
    replace s4 := cell_held hb s4
    replace s5 := cell_held hb s5
    replace s6 := cell_held hb s6
    replace s7 := cell_held hb s7
    replace s8 := cell_held hb s8
    replace s9 := cell_held hb s9
    replace s10 := cell_held hb s10
    replace s11 := cell_held hb s11
    replace s12 := cell_held hb s12
    replace s13 := cell_held hb s13
    replace s14 := cell_held hb s14
    replace s15 := cell_held hb s15
    replace s16 := cell_held hb s16
    replace s17 := cell_held hb s17
    replace s18 := cell_held hb s18
    replace s19 := cell_held hb s19
    replace s20 := cell_held hb s20
    replace s21 := cell_held hb s21
    replace s22 := cell_held hb s22
    replace s23 := cell_held hb s23
    replace qB := below_step (w := W) qB hb
    clear hb
    refine hK.out _ _ ⟨s0, s1, s2, s3, s4, s5, s6, s7, s8, s9, s10, s11, s12, s13, s14, s15, s16, s17, s18, s19, s20, s21, s22, s23⟩ (fun hHeld => ?_)
    clear hK K s0 s1 s2 s3 s4 s5 s6 s7 s8 s9 s10 s11 s12 s13 s14 s15 s16 s17 s18 s19 s20 s21 s22 s23
    refine norm_ (a' := ?_) ?_ ?_
    rotate_left
    · show Act.put _ (some 51) _ = _
      simp only [Act.put, List.setIfInBounds_toArray, List.set_cons_zero, List.set_cons_succ, i64_w, i32_w]
      rfl
    refine pure_ (i := 27) (N := some 55) (v := ?_) (a' := ?_) #[true, true, true, true, true, true, true, true, true, true, true, true, true, true, true, true, true, true, true, true, true, true, true, true, true, true, true, true, false, false, false, false, false, false, false, false, false, false, false] rfl rfl (any_of HT_.out (by kernel_rfl)) (fun _ _ _ h => h) (Or.inl ⟨by rfl, ?_⟩) ?_ ?_
    rotate_left
    · intro w'
      go_simp
      with_reducible rfl
    rotate_left
    · simp only [Act.put, List.setIfInBounds_toArray, List.set_cons_zero, List.set_cons_succ, i64_w, i32_w]
      rfl
    refine take_ (i := 28) (N := some 56) (v := ?_) (a' := ?_) #[true, true, true, true, true, true, true, true, true, true, true, true, true, true, true, true, true, true, true, true, true, true, true, true, true, true, true, true, true, false, false, false, false, false, false, false, false, false, false] rfl rfl (take_ofW HT_.out HW_.out (by kernel_rfl)) (fun _ _ _ h => h) (Or.inl ⟨by rfl, ?_⟩) hHeld ?_ ?_
    rotate_left
    · rintro w' ⟨s0, s1, s2, s3, s4, s5, s6, s7, s8, s9, s10, s11, s12, s13, s14, s15, s16, s17, s18, s19, s20, s21, s22, s23⟩
      go_simp
      with_reducible rfl
    rotate_left
    · simp only [Act.put, List.setIfInBounds_toArray, List.set_cons_zero, List.set_cons_succ, i64_w, i32_w]
      rfl
    refine pure_ (i := 29) (N := some 57) (v := ?_) (a' := ?_) #[true, true, true, true, true, true, true, true, true, true, true, true, true, true, true, true, true, true, true, true, true, true, true, true, true, true, true, true, true, true, false, false, false, false, false, false, false, false, false] rfl rfl (any_of HT_.out (by kernel_rfl)) (fun _ _ _ h => h) (Or.inl ⟨by rfl, ?_⟩) ?_ ?_
    rotate_left
    · intro w'
      go_simp
      with_reducible rfl
    rotate_left
    · simp only [Act.put, List.setIfInBounds_toArray, List.set_cons_zero, List.set_cons_succ, i64_w, i32_w]
      rfl
    refine pure_ (i := 30) (N := some 58) (v := ?_) (a' := ?_) #[true, true, true, true, true, true, true, true, true, true, true, true, true, true, true, true, true, true, true, true, true, true, true, true, true, true, true, true, true, true, true, false, false, false, false, false, false, false, false] rfl rfl (any_of HT_.out (by kernel_rfl)) (fun _ _ _ h => h) (Or.inl ⟨by rfl, ?_⟩) ?_ ?_
    rotate_left
    · intro w'
      go_simp
      with_reducible rfl
    rotate_left
    · simp only [Act.put, List.setIfInBounds_toArray, List.set_cons_zero, List.set_cons_succ, i64_w, i32_w]
      rfl
    refine one_ (i := 31) (N := some 59) #[true, true, true, true, true, true, true, true, true, true, true, true, true, true, true, true, true, true, true, true, true, true, true, true, true, true, true, true, true, true, true, true, false, false, false, false, false, false, false] rfl rfl (one_of HT_.out (by kernel_rfl)) (by decide) (fun K hK => ?_)
    refine goes_ Try.func15 (by kernel_rfl) rfl #[.agg #[.int .i64 h.minW, .int .i64 h.minH, .int .i64 h.maxW, .int .i64 h.maxH, .int .i64 h.baseW, .int .i64 h.baseH, .int .i64 h.incW, .int .i64 h.incH, .int .i64 h.lowX, .int .i64 h.lowY, .int .i64 h.highX, .int .i64 h.highY], .int .i64 w, .int .i64 t] (by rfl) rfl rfl (by (try simp only [List.map_toArray, List.map_cons, List.map_nil]); first | done | rfl) ?_
    refine (KD.out _).mono ?_
    rintro e wn ⟨rfl, hb⟩
    refine ⟨_, rfl, ?_⟩
    obtain ⟨s0, s1, s2, s3, s4, s5, s6, s7, s8, s9, s10, s11, s12, s13, s14, s15, s16, s17, s18, s19, s20, s21, s22, s23⟩ := hHeld
    replace s0 := cell_held hb s0
    replace s1 := cell_held hb s1
    replace s2 := cell_held hb s2
    replace s3 := cell_held hb s3
    replace s4 := cell_held hb s4
    replace s5 := cell_held hb s5
    replace s6 := cell_held hb s6
    replace s7 := cell_held hb s7
    replace s8 := cell_held hb s8
    replace s9 := cell_held hb s9
    replace s10 := cell_held hb s10
    replace s11 := cell_held hb s11
    replace s12 := cell_held hb s12
    replace s13 := cell_held hb s13
    replace s14 := cell_held hb s14
    replace s15 := cell_held hb s15
    replace s16 := cell_held hb s16
    replace s17 := cell_held hb s17
    replace s18 := cell_held hb s18
    replace s19 := cell_held hb s19
    replace s20 := cell_held hb s20
    replace s21 := cell_held hb s21
    replace s22 := cell_held hb s22
    replace s23 := cell_held hb s23
    replace qB := below_step (w := W) qB hb
    clear hb
    refine hK.out _ _ ⟨s0, s1, s2, s3, s4, s5, s6, s7, s8, s9, s10, s11, s12, s13, s14, s15, s16, s17, s18, s19, s20, s21, s22, s23⟩ (fun hHeld => ?_)
    clear hK K s0 s1 s2 s3 s4 s5 s6 s7 s8 s9 s10 s11 s12 s13 s14 s15 s16 s17 s18 s19 s20 s21 s22 s23
    refine norm_ (a' := ?_) ?_ ?_
    rotate_left
    · show Act.put _ (some 59) _ = _
      simp only [Act.put, List.setIfInBounds_toArray, List.set_cons_zero, List.set_cons_succ, i64_w, i32_w]
      rfl
    refine pure_ (i := 32) (N := some 60) (v := ?_) (a' := ?_) #[true, true, true, true, true, true, true, true, true, true, true, true, true, true, true, true, true, true, true, true, true, true, true, true, true, true, true, true, true, true, true, true, true, false, false, false, false, false, false] rfl rfl (any_of HT_.out (by kernel_rfl)) (fun _ _ _ h => h) (Or.inl ⟨by rfl, ?_⟩) ?_ ?_
    rotate_left
    · intro w'
      go_simp
      with_reducible rfl
    rotate_left
    · simp only [Act.put, List.setIfInBounds_toArray, List.set_cons_zero, List.set_cons_succ, i64_w, i32_w]
      rfl
    refine pure_ (i := 33) (N := some 61) (v := ?_) (a' := ?_) #[true, true, true, true, true, true, true, true, true, true, true, true, true, true, true, true, true, true, true, true, true, true, true, true, true, true, true, true, true, true, true, true, true, true, false, false, false, false, false] rfl rfl (any_of HT_.out (by kernel_rfl)) (fun _ _ _ h => h) (Or.inl ⟨by rfl, ?_⟩) ?_ ?_
    rotate_left
    · intro w'
      go_simp
      with_reducible rfl
    rotate_left
    · simp only [Act.put, List.setIfInBounds_toArray, List.set_cons_zero, List.set_cons_succ, i64_w, i32_w]
      rfl
    refine pure_ (i := 34) (N := some 62) (v := ?_) (a' := ?_) #[true, true, true, true, true, true, true, true, true, true, true, true, true, true, true, true, true, true, true, true, true, true, true, true, true, true, true, true, true, true, true, true, true, true, true, false, false, false, false] rfl rfl (any_of HT_.out (by kernel_rfl)) (fun _ _ _ h => h) (Or.inl ⟨by rfl, ?_⟩) ?_ ?_
    rotate_left
    · intro w'
      go_simp
      with_reducible rfl
    rotate_left
    · simp only [Act.put, List.setIfInBounds_toArray, List.set_cons_zero, List.set_cons_succ, i64_w, i32_w]
      rfl
    refine pure_ (i := 35) (N := some 63) (v := ?_) (a' := ?_) #[true, true, true, true, true, true, true, true, true, true, true, true, true, true, true, true, true, true, true, true, true, true, true, true, true, true, true, true, true, true, true, true, true, true, true, true, false, false, false] rfl rfl (any_of HT_.out (by kernel_rfl)) (fun _ _ _ h => h) (Or.inl ⟨by rfl, ?_⟩) ?_ ?_
    rotate_left
    · intro w'
      go_simp
      with_reducible rfl
    rotate_left
    · simp only [Act.put, List.setIfInBounds_toArray, List.set_cons_zero, List.set_cons_succ, i64_w, i32_w]
      rfl
    refine one_ (i := 36) (N := some 64) #[true, true, true, true, true, true, true, true, true, true, true, true, true, true, true, true, true, true, true, true, true, true, true, true, true, true, true, true, true, true, true, true, true, true, true, true, true, false, false] rfl rfl (one_of HT_.out (by kernel_rfl)) (by decide) (fun K hK => ?_)
    refine goes_ Try.func13 (by kernel_rfl) rfl #[] (by rfl) rfl rfl (by (try simp only [List.map_toArray, List.map_cons, List.map_nil]); first | done | rfl) ?_
    refine (c_awake _).mono ?_
    rintro e wn ⟨rfl, hb⟩
    refine ⟨_, rfl, ?_⟩
    obtain ⟨s0, s1, s2, s3, s4, s5, s6, s7, s8, s9, s10, s11, s12, s13, s14, s15, s16, s17, s18, s19, s20, s21, s22, s23⟩ := hHeld
    replace s0 := cell_held hb s0
    replace s1 := cell_held hb s1
    replace s2 := cell_held hb s2
    replace s3 := cell_held hb s3
    replace s4 := cell_held hb s4
    replace s5 := cell_held hb s5
    replace s6 := cell_held hb s6
    replace s7 := cell_held hb s7
    replace s8 := cell_held hb s8
    replace s9 := cell_held hb s9
    replace s10 := cell_held hb s10
    replace s11 := cell_held hb s11
    replace s12 := cell_held hb s12
    replace s13 := cell_held hb s13
    replace s14 := cell_held hb s14
    replace s15 := cell_held hb s15
    replace s16 := cell_held hb s16
    replace s17 := cell_held hb s17
    replace s18 := cell_held hb s18
    replace s19 := cell_held hb s19
    replace s20 := cell_held hb s20
    replace s21 := cell_held hb s21
    replace s22 := cell_held hb s22
    replace s23 := cell_held hb s23
    replace qB := below_step (w := W) qB hb
    clear hb
    refine hK.out _ _ ⟨s0, s1, s2, s3, s4, s5, s6, s7, s8, s9, s10, s11, s12, s13, s14, s15, s16, s17, s18, s19, s20, s21, s22, s23⟩ (fun hHeld => ?_)
    clear hK K s0 s1 s2 s3 s4 s5 s6 s7 s8 s9 s10 s11 s12 s13 s14 s15 s16 s17 s18 s19 s20 s21 s22 s23
    refine norm_ (a' := ?_) ?_ ?_
    rotate_left
    · show Act.put _ (some 64) _ = _
      simp only [Act.put, List.setIfInBounds_toArray, List.set_cons_zero, List.set_cons_succ, i64_w, i32_w]
      rfl
    refine pure_ (i := 37) (N := some 65) (v := ?_) (a' := ?_) #[true, true, true, true, true, true, true, true, true, true, true, true, true, true, true, true, true, true, true, true, true, true, true, true, true, true, true, true, true, true, true, true, true, true, true, true, true, true, false] rfl rfl (any_of HT_.out (by kernel_rfl)) (fun _ _ _ h => h) (Or.inl ⟨by rfl, ?_⟩) ?_ ?_
    rotate_left
    · intro w'
      go_simp
      with_reducible rfl
    rotate_left
    · simp only [Act.put, List.setIfInBounds_toArray, List.set_cons_zero, List.set_cons_succ, i64_w, i32_w]
      rfl
    refine pure_ (i := 38) (N := some 6) (v := ?_) (a' := ?_) #[true, true, true, true, true, true, true, true, true, true, true, true, true, true, true, true, true, true, true, true, true, true, true, true, true, true, true, true, true, true, true, true, true, true, true, true, true, true, true] rfl rfl (any_of HT_.out (by kernel_rfl)) (fun _ _ _ h => h) (Or.inl ⟨by rfl, ?_⟩) ?_ ?_
    rotate_left
    · intro w'
      go_simp
      with_reducible rfl
    rotate_left
    · simp only [Act.put, List.setIfInBounds_toArray, List.set_cons_zero, List.set_cons_succ, i64_w, i32_w]
      rfl
    refine done_ (done_of HT_.out (by kernel_rfl)) ?_
    go_wp2
    go_ret
    exact ⟨rfl, qB⟩
  · rw [e] at KC
    have hEq : eq12 N.minW N.minH N.maxW N.maxH N.baseW N.baseH N.incW N.incH N.lowX N.lowY N.highX N.highY h.minW h.minH h.maxW h.maxH h.baseW h.baseH h.incW h.incH h.lowX h.lowY h.highX h.highY = false := by rw [Bool.eq_false_iff]; exact fun q => c (hE.1 q)
    replace KR := Aside0.mk KR; replace KA := Aside0.mk KA; replace KB := Aside0.mk KB; replace KC := Aside0.mk KC
    clear hE c e
    go_wp2_with fail
    refine (KR.out _).mono ?_
    rintro e w1 ⟨rfl, hb⟩
    have B1 := Aside0.mk (blk_below (blk_new W (.cells #[.int .i64 h.minW, .int .i64 h.minH, .int .i64 h.maxW, .int .i64 h.maxH, .int .i64 h.baseW, .int .i64 h.baseH, .int .i64 h.incW, .int .i64 h.incH, .int .i64 h.lowX, .int .i64 h.lowY, .int .i64 h.highX, .int .i64 h.highY] 23 (0, 0))) hb)
    have P0 := Aside0.mk B1.out
    have qB := below_alloc (below_step (below_alloc (Below.refl W.heap.size W) (.cells #[.int .i64 h.minW, .int .i64 h.minH, .int .i64 h.maxW, .int .i64 h.maxH, .int .i64 h.baseW, .int .i64 h.baseH, .int .i64 h.incW, .int .i64 h.incH, .int .i64 h.lowX, .int .i64 h.lowY, .int .i64 h.highX, .int .i64 h.highY] 23 (0, 0))) hb) (.cells #[.int .i64 N.minW, .int .i64 N.minH, .int .i64 N.maxW, .int .i64 N.maxH, .int .i64 N.baseW, .int .i64 N.baseH, .int .i64 N.incW, .int .i64 N.incH, .int .i64 N.lowX, .int .i64 N.lowY, .int .i64 N.highX, .int .i64 N.highY] 23 (0, 0))
    have B3 := Aside0.mk (blk_new w1 (.cells #[.int .i64 N.minW, .int .i64 N.minH, .int .i64 N.maxW, .int .i64 N.maxH, .int .i64 N.baseW, .int .i64 N.baseH, .int .i64 N.incW, .int .i64 N.incH, .int .i64 N.lowX, .int .i64 N.lowY, .int .i64 N.highX, .int .i64 N.highY] 23 (0, 0)))
    replace B1 := Aside0.mk (blk_alloc B1.out (.cells #[.int .i64 N.minW, .int .i64 N.minH, .int .i64 N.maxW, .int .i64 N.maxH, .int .i64 N.baseW, .int .i64 N.baseH, .int .i64 N.incW, .int .i64 N.incH, .int .i64 N.lowX, .int .i64 N.lowY, .int .i64 N.highX, .int .i64 N.highY] 23 (0, 0)))
    clear hb
    have p0 : ∀ o, (w1.alloc o).cell? ⟨W.heap.size, 0, none⟩ = some (.int .i64 h.minW) := fun o => (World.cell?_alloc_lt _ _ _ (World.block_lt_of_cell? w1 _ ((blk_cell P0.out 0).trans rfl))).trans ((blk_cell P0.out 0).trans rfl)
    have p1 : ∀ o, (w1.alloc o).cell? ⟨W.heap.size, 1, none⟩ = some (.int .i64 h.minH) := fun o => (World.cell?_alloc_lt _ _ _ (World.block_lt_of_cell? w1 _ ((blk_cell P0.out 1).trans rfl))).trans ((blk_cell P0.out 1).trans rfl)
    have p2 : ∀ o, (w1.alloc o).cell? ⟨W.heap.size, 2, none⟩ = some (.int .i64 h.maxW) := fun o => (World.cell?_alloc_lt _ _ _ (World.block_lt_of_cell? w1 _ ((blk_cell P0.out 2).trans rfl))).trans ((blk_cell P0.out 2).trans rfl)
    have p3 : ∀ o, (w1.alloc o).cell? ⟨W.heap.size, 3, none⟩ = some (.int .i64 h.maxH) := fun o => (World.cell?_alloc_lt _ _ _ (World.block_lt_of_cell? w1 _ ((blk_cell P0.out 3).trans rfl))).trans ((blk_cell P0.out 3).trans rfl)
    have p4 : ∀ o, (w1.alloc o).cell? ⟨W.heap.size, 4, none⟩ = some (.int .i64 h.baseW) := fun o => (World.cell?_alloc_lt _ _ _ (World.block_lt_of_cell? w1 _ ((blk_cell P0.out 4).trans rfl))).trans ((blk_cell P0.out 4).trans rfl)
    have p5 : ∀ o, (w1.alloc o).cell? ⟨W.heap.size, 5, none⟩ = some (.int .i64 h.baseH) := fun o => (World.cell?_alloc_lt _ _ _ (World.block_lt_of_cell? w1 _ ((blk_cell P0.out 5).trans rfl))).trans ((blk_cell P0.out 5).trans rfl)
    have p6 : ∀ o, (w1.alloc o).cell? ⟨W.heap.size, 6, none⟩ = some (.int .i64 h.incW) := fun o => (World.cell?_alloc_lt _ _ _ (World.block_lt_of_cell? w1 _ ((blk_cell P0.out 6).trans rfl))).trans ((blk_cell P0.out 6).trans rfl)
    have p7 : ∀ o, (w1.alloc o).cell? ⟨W.heap.size, 7, none⟩ = some (.int .i64 h.incH) := fun o => (World.cell?_alloc_lt _ _ _ (World.block_lt_of_cell? w1 _ ((blk_cell P0.out 7).trans rfl))).trans ((blk_cell P0.out 7).trans rfl)
    have p8 : ∀ o, (w1.alloc o).cell? ⟨W.heap.size, 8, none⟩ = some (.int .i64 h.lowX) := fun o => (World.cell?_alloc_lt _ _ _ (World.block_lt_of_cell? w1 _ ((blk_cell P0.out 8).trans rfl))).trans ((blk_cell P0.out 8).trans rfl)
    have p9 : ∀ o, (w1.alloc o).cell? ⟨W.heap.size, 9, none⟩ = some (.int .i64 h.lowY) := fun o => (World.cell?_alloc_lt _ _ _ (World.block_lt_of_cell? w1 _ ((blk_cell P0.out 9).trans rfl))).trans ((blk_cell P0.out 9).trans rfl)
    have p10 : ∀ o, (w1.alloc o).cell? ⟨W.heap.size, 10, none⟩ = some (.int .i64 h.highX) := fun o => (World.cell?_alloc_lt _ _ _ (World.block_lt_of_cell? w1 _ ((blk_cell P0.out 10).trans rfl))).trans ((blk_cell P0.out 10).trans rfl)
    have p11 : ∀ o, (w1.alloc o).cell? ⟨W.heap.size, 11, none⟩ = some (.int .i64 h.highY) := fun o => (World.cell?_alloc_lt _ _ _ (World.block_lt_of_cell? w1 _ ((blk_cell P0.out 11).trans rfl))).trans ((blk_cell P0.out 11).trans rfl)
    go_wp2_with fail
    refine (K1.out _).mono ?_
    rintro e w2 ⟨rfl, hb⟩
    clear p0 p1 p2 p3 p4 p5 p6 p7 p8 p9 p10 p11
    replace B1 := Aside0.mk (blk_below B1.out hb)
    replace B3 := Aside0.mk (blk_below B3.out hb)
    replace qB := below_step (w := W) qB hb
    clear hb
    have p0 : w2.cell? ⟨W.heap.size, 0, none⟩ = some (.int .i64 (h.minW)) := (blk_cell B1.out 0).trans rfl
    have p1 : w2.cell? ⟨W.heap.size, 1, none⟩ = some (.int .i64 (h.minH)) := (blk_cell B1.out 1).trans rfl
    have p2 : w2.cell? ⟨W.heap.size, 2, none⟩ = some (.int .i64 (h.maxW)) := (blk_cell B1.out 2).trans rfl
    have p3 : w2.cell? ⟨W.heap.size, 3, none⟩ = some (.int .i64 (h.maxH)) := (blk_cell B1.out 3).trans rfl
    have p4 : w2.cell? ⟨W.heap.size, 4, none⟩ = some (.int .i64 (h.baseW)) := (blk_cell B1.out 4).trans rfl
    have p5 : w2.cell? ⟨W.heap.size, 5, none⟩ = some (.int .i64 (h.baseH)) := (blk_cell B1.out 5).trans rfl
    have p6 : w2.cell? ⟨W.heap.size, 6, none⟩ = some (.int .i64 (h.incW)) := (blk_cell B1.out 6).trans rfl
    have p7 : w2.cell? ⟨W.heap.size, 7, none⟩ = some (.int .i64 (h.incH)) := (blk_cell B1.out 7).trans rfl
    have p8 : w2.cell? ⟨W.heap.size, 8, none⟩ = some (.int .i64 (h.lowX)) := (blk_cell B1.out 8).trans rfl
    have p9 : w2.cell? ⟨W.heap.size, 9, none⟩ = some (.int .i64 (h.lowY)) := (blk_cell B1.out 9).trans rfl
    have p10 : w2.cell? ⟨W.heap.size, 10, none⟩ = some (.int .i64 (h.highX)) := (blk_cell B1.out 10).trans rfl
    have p11 : w2.cell? ⟨W.heap.size, 11, none⟩ = some (.int .i64 (h.highY)) := (blk_cell B1.out 11).trans rfl
    go_wp2_with fail
    refine (K2.out _).mono ?_
    rintro e w3 ⟨rfl, hb⟩
    clear p0 p1 p2 p3 p4 p5 p6 p7 p8 p9 p10 p11
    replace B1 := Aside0.mk (blk_below B1.out hb)
    replace B3 := Aside0.mk (blk_below B3.out hb)
    replace qB := below_step (w := W) qB hb
    clear hb
    have p0 : w3.cell? ⟨W.heap.size, 0, none⟩ = some (.int .i64 (h.minW)) := (blk_cell B1.out 0).trans rfl
    have p1 : w3.cell? ⟨W.heap.size, 1, none⟩ = some (.int .i64 (h.minH)) := (blk_cell B1.out 1).trans rfl
    have p2 : w3.cell? ⟨W.heap.size, 2, none⟩ = some (.int .i64 (h.maxW)) := (blk_cell B1.out 2).trans rfl
    have p3 : w3.cell? ⟨W.heap.size, 3, none⟩ = some (.int .i64 (h.maxH)) := (blk_cell B1.out 3).trans rfl
    have p4 : w3.cell? ⟨W.heap.size, 4, none⟩ = some (.int .i64 (h.baseW)) := (blk_cell B1.out 4).trans rfl
    have p5 : w3.cell? ⟨W.heap.size, 5, none⟩ = some (.int .i64 (h.baseH)) := (blk_cell B1.out 5).trans rfl
    have p6 : w3.cell? ⟨W.heap.size, 6, none⟩ = some (.int .i64 (h.incW)) := (blk_cell B1.out 6).trans rfl
    have p7 : w3.cell? ⟨W.heap.size, 7, none⟩ = some (.int .i64 (h.incH)) := (blk_cell B1.out 7).trans rfl
    have p8 : w3.cell? ⟨W.heap.size, 8, none⟩ = some (.int .i64 (h.lowX)) := (blk_cell B1.out 8).trans rfl
    have p9 : w3.cell? ⟨W.heap.size, 9, none⟩ = some (.int .i64 (h.lowY)) := (blk_cell B1.out 9).trans rfl
    have p10 : w3.cell? ⟨W.heap.size, 10, none⟩ = some (.int .i64 (h.highX)) := (blk_cell B1.out 10).trans rfl
    have p11 : w3.cell? ⟨W.heap.size, 11, none⟩ = some (.int .i64 (h.highY)) := (blk_cell B1.out 11).trans rfl
    have q0 : w3.cell? ⟨w1.heap.size, 0, none⟩ = some (.int .i64 (N.minW)) := (blk_cell B3.out 0).trans rfl
    have q1 : w3.cell? ⟨w1.heap.size, 1, none⟩ = some (.int .i64 (N.minH)) := (blk_cell B3.out 1).trans rfl
    have q2 : w3.cell? ⟨w1.heap.size, 2, none⟩ = some (.int .i64 (N.maxW)) := (blk_cell B3.out 2).trans rfl
    have q3 : w3.cell? ⟨w1.heap.size, 3, none⟩ = some (.int .i64 (N.maxH)) := (blk_cell B3.out 3).trans rfl
    have q4 : w3.cell? ⟨w1.heap.size, 4, none⟩ = some (.int .i64 (N.baseW)) := (blk_cell B3.out 4).trans rfl
    have q5 : w3.cell? ⟨w1.heap.size, 5, none⟩ = some (.int .i64 (N.baseH)) := (blk_cell B3.out 5).trans rfl
    have q6 : w3.cell? ⟨w1.heap.size, 6, none⟩ = some (.int .i64 (N.incW)) := (blk_cell B3.out 6).trans rfl
    have q7 : w3.cell? ⟨w1.heap.size, 7, none⟩ = some (.int .i64 (N.incH)) := (blk_cell B3.out 7).trans rfl
    have q8 : w3.cell? ⟨w1.heap.size, 8, none⟩ = some (.int .i64 (N.lowX)) := (blk_cell B3.out 8).trans rfl
    have q9 : w3.cell? ⟨w1.heap.size, 9, none⟩ = some (.int .i64 (N.lowY)) := (blk_cell B3.out 9).trans rfl
    have q10 : w3.cell? ⟨w1.heap.size, 10, none⟩ = some (.int .i64 (N.highX)) := (blk_cell B3.out 10).trans rfl
    have q11 : w3.cell? ⟨w1.heap.size, 11, none⟩ = some (.int .i64 (N.highY)) := (blk_cell B3.out 11).trans rfl
    clear B1 B3
    go_wp2_with fail
    refine start_ (n := 39) (S := fun w' => w'.cell? ⟨W.heap.size, 0, none⟩ = some (.int .i64 h.minW) ∧ w'.cell? ⟨W.heap.size, 1, none⟩ = some (.int .i64 h.minH) ∧ w'.cell? ⟨W.heap.size, 2, none⟩ = some (.int .i64 h.maxW) ∧ w'.cell? ⟨W.heap.size, 3, none⟩ = some (.int .i64 h.maxH) ∧ w'.cell? ⟨W.heap.size, 4, none⟩ = some (.int .i64 h.baseW) ∧ w'.cell? ⟨W.heap.size, 5, none⟩ = some (.int .i64 h.baseH) ∧ w'.cell? ⟨W.heap.size, 6, none⟩ = some (.int .i64 h.incW) ∧ w'.cell? ⟨W.heap.size, 7, none⟩ = some (.int .i64 h.incH) ∧ w'.cell? ⟨W.heap.size, 8, none⟩ = some (.int .i64 h.lowX) ∧ w'.cell? ⟨W.heap.size, 9, none⟩ = some (.int .i64 h.lowY) ∧ w'.cell? ⟨W.heap.size, 10, none⟩ = some (.int .i64 h.highX) ∧ w'.cell? ⟨W.heap.size, 11, none⟩ = some (.int .i64 h.highY) ∧ w'.cell? ⟨w1.heap.size, 0, none⟩ = some (.int .i64 N.minW) ∧ w'.cell? ⟨w1.heap.size, 1, none⟩ = some (.int .i64 N.minH) ∧ w'.cell? ⟨w1.heap.size, 2, none⟩ = some (.int .i64 N.maxW) ∧ w'.cell? ⟨w1.heap.size, 3, none⟩ = some (.int .i64 N.maxH) ∧ w'.cell? ⟨w1.heap.size, 4, none⟩ = some (.int .i64 N.baseW) ∧ w'.cell? ⟨w1.heap.size, 5, none⟩ = some (.int .i64 N.baseH) ∧ w'.cell? ⟨w1.heap.size, 6, none⟩ = some (.int .i64 N.incW) ∧ w'.cell? ⟨w1.heap.size, 7, none⟩ = some (.int .i64 N.incH) ∧ w'.cell? ⟨w1.heap.size, 8, none⟩ = some (.int .i64 N.lowX) ∧ w'.cell? ⟨w1.heap.size, 9, none⟩ = some (.int .i64 N.lowY) ∧ w'.cell? ⟨w1.heap.size, 10, none⟩ = some (.int .i64 N.highX) ∧ w'.cell? ⟨w1.heap.size, 11, none⟩ = some (.int .i64 N.highY)) (ds := []) #[false, false, false, false, false, false, false, false, false, false, false, false, false, false, false, false, false, false, false, false, false, false, false, false, false, false, false, false, false, false, false, false, false, false, false, false, false, false, false] (by kernel_rfl) rfl rfl ⟨p0, p1, p2, p3, p4, p5, p6, p7, p8, p9, p10, p11, q0, q1, q2, q3, q4, q5, q6, q7, q8, q9, q10, q11⟩ (fun hHeld => ?_)
    refine with_tabW SzFT.tab4 SzFT.bits4 (fun HT_ HW_ => ?_)
    have qB0 := below_drew qB
    clear qB
    have qB := qB0
    clear qB0
    generalize w3.drew = wr at qB hHeld ⊢
    refine pure_ (i := 0) (N := some 28) (v := ?_) (a' := ?_) #[true, false, false, false, false, false, false, false, false, false, false, false, false, false, false, false, false, false, false, false, false, false, false, false, false, false, false, false, false, false, false, false, false, false, false, false, false, false, false] rfl rfl (any_of HT_.out (by kernel_rfl)) (fun _ _ _ h => h) (Or.inl ⟨by rfl, ?_⟩) ?_ ?_
    rotate_left
    · intro w'
      go_simp
      with_reducible rfl
    rotate_left
    · simp only [Act.put, List.setIfInBounds_toArray, List.set_cons_zero, List.set_cons_succ, i64_w, i32_w]
      rfl
    refine pure_ (i := 1) (N := some 29) (v := ?_) (a' := ?_) #[true, true, false, false, false, false, false, false, false, false, false, false, false, false, false, false, false, false, false, false, false, false, false, false, false, false, false, false, false, false, false, false, false, false, false, false, false, false, false] rfl rfl (any_of HT_.out (by kernel_rfl)) (fun _ _ _ h => h) (Or.inl ⟨by rfl, ?_⟩) ?_ ?_
    rotate_left
    · intro w'
      go_simp
      with_reducible rfl
    rotate_left
    · simp only [Act.put, List.setIfInBounds_toArray, List.set_cons_zero, List.set_cons_succ, i64_w, i32_w]
      rfl
    refine pure_ (i := 2) (N := some 30) (v := ?_) (a' := ?_) #[true, true, true, false, false, false, false, false, false, false, false, false, false, false, false, false, false, false, false, false, false, false, false, false, false, false, false, false, false, false, false, false, false, false, false, false, false, false, false] rfl rfl (any_of HT_.out (by kernel_rfl)) (fun _ _ _ h => h) (Or.inl ⟨by rfl, ?_⟩) ?_ ?_
    rotate_left
    · intro w'
      go_simp
      with_reducible rfl
    rotate_left
    · simp only [Act.put, List.setIfInBounds_toArray, List.set_cons_zero, List.set_cons_succ, i64_w, i32_w]
      rfl
    refine pure_ (i := 3) (N := some 31) (v := ?_) (a' := ?_) #[true, true, true, true, false, false, false, false, false, false, false, false, false, false, false, false, false, false, false, false, false, false, false, false, false, false, false, false, false, false, false, false, false, false, false, false, false, false, false] rfl rfl (any_of HT_.out (by kernel_rfl)) (fun _ _ _ h => h) (Or.inl ⟨by rfl, ?_⟩) ?_ ?_
    rotate_left
    · intro w'
      go_simp
      with_reducible rfl
    rotate_left
    · simp only [Act.put, List.setIfInBounds_toArray, List.set_cons_zero, List.set_cons_succ, i64_w, i32_w]
      rfl
    refine pure_ (i := 4) (N := some 32) (v := ?_) (a' := ?_) #[true, true, true, true, true, false, false, false, false, false, false, false, false, false, false, false, false, false, false, false, false, false, false, false, false, false, false, false, false, false, false, false, false, false, false, false, false, false, false] rfl rfl (any_of HT_.out (by kernel_rfl)) (fun _ _ _ h => h) (Or.inl ⟨by rfl, ?_⟩) ?_ ?_
    rotate_left
    · intro w'
      go_simp
      with_reducible rfl
    rotate_left
    · simp only [Act.put, List.setIfInBounds_toArray, List.set_cons_zero, List.set_cons_succ, i64_w, i32_w]
      rfl
    refine pure_ (i := 5) (N := some 33) (v := ?_) (a' := ?_) #[true, true, true, true, true, true, false, false, false, false, false, false, false, false, false, false, false, false, false, false, false, false, false, false, false, false, false, false, false, false, false, false, false, false, false, false, false, false, false] rfl rfl (any_of HT_.out (by kernel_rfl)) (fun _ _ _ h => h) (Or.inl ⟨by rfl, ?_⟩) ?_ ?_
    rotate_left
    · intro w'
      go_simp
      with_reducible rfl
    rotate_left
    · simp only [Act.put, List.setIfInBounds_toArray, List.set_cons_zero, List.set_cons_succ, i64_w, i32_w]
      rfl
    refine pure_ (i := 6) (N := some 34) (v := ?_) (a' := ?_) #[true, true, true, true, true, true, true, false, false, false, false, false, false, false, false, false, false, false, false, false, false, false, false, false, false, false, false, false, false, false, false, false, false, false, false, false, false, false, false] rfl rfl (any_of HT_.out (by kernel_rfl)) (fun _ _ _ h => h) (Or.inl ⟨by rfl, ?_⟩) ?_ ?_
    rotate_left
    · intro w'
      go_simp
      with_reducible rfl
    rotate_left
    · simp only [Act.put, List.setIfInBounds_toArray, List.set_cons_zero, List.set_cons_succ, i64_w, i32_w]
      rfl
    refine pure_ (i := 7) (N := some 35) (v := ?_) (a' := ?_) #[true, true, true, true, true, true, true, true, false, false, false, false, false, false, false, false, false, false, false, false, false, false, false, false, false, false, false, false, false, false, false, false, false, false, false, false, false, false, false] rfl rfl (any_of HT_.out (by kernel_rfl)) (fun _ _ _ h => h) (Or.inl ⟨by rfl, ?_⟩) ?_ ?_
    rotate_left
    · intro w'
      go_simp
      with_reducible rfl
    rotate_left
    · simp only [Act.put, List.setIfInBounds_toArray, List.set_cons_zero, List.set_cons_succ, i64_w, i32_w]
      rfl
    refine pure_ (i := 8) (N := some 36) (v := ?_) (a' := ?_) #[true, true, true, true, true, true, true, true, true, false, false, false, false, false, false, false, false, false, false, false, false, false, false, false, false, false, false, false, false, false, false, false, false, false, false, false, false, false, false] rfl rfl (any_of HT_.out (by kernel_rfl)) (fun _ _ _ h => h) (Or.inl ⟨by rfl, ?_⟩) ?_ ?_
    rotate_left
    · intro w'
      go_simp
      with_reducible rfl
    rotate_left
    · simp only [Act.put, List.setIfInBounds_toArray, List.set_cons_zero, List.set_cons_succ, i64_w, i32_w]
      rfl
    refine take_ (i := 9) (N := some 37) (v := ?_) (a' := ?_) #[true, true, true, true, true, true, true, true, true, true, false, false, false, false, false, false, false, false, false, false, false, false, false, false, false, false, false, false, false, false, false, false, false, false, false, false, false, false, false] rfl rfl (take_ofW HT_.out HW_.out (by kernel_rfl)) (fun _ _ _ h => h) (Or.inl ⟨by rfl, ?_⟩) hHeld ?_ ?_
    rotate_left
    · rintro w' ⟨s0, s1, s2, s3, s4, s5, s6, s7, s8, s9, s10, s11, s12, s13, s14, s15, s16, s17, s18, s19, s20, s21, s22, s23⟩
      go_simp
      with_reducible rfl
    rotate_left
    · simp only [Act.put, List.setIfInBounds_toArray, List.set_cons_zero, List.set_cons_succ, i64_w, i32_w]
      rfl
    refine pure_ (i := 10) (N := some 38) (v := ?_) (a' := ?_) #[true, true, true, true, true, true, true, true, true, true, true, false, false, false, false, false, false, false, false, false, false, false, false, false, false, false, false, false, false, false, false, false, false, false, false, false, false, false, false] rfl rfl (any_of HT_.out (by kernel_rfl)) (fun _ _ _ h => h) (Or.inl ⟨by rfl, ?_⟩) ?_ ?_
    rotate_left
    · intro w'
      go_simp
      with_reducible rfl
    rotate_left
    · simp only [Act.put, List.setIfInBounds_toArray, List.set_cons_zero, List.set_cons_succ, i64_w, i32_w]
      rfl
    refine pure_ (i := 11) (N := some 39) (v := ?_) (a' := ?_) #[true, true, true, true, true, true, true, true, true, true, true, true, false, false, false, false, false, false, false, false, false, false, false, false, false, false, false, false, false, false, false, false, false, false, false, false, false, false, false] rfl rfl (any_of HT_.out (by kernel_rfl)) (fun _ _ _ h => h) (Or.inl ⟨by rfl, ?_⟩) ?_ ?_
    rotate_left
    · intro w'
      go_simp
      with_reducible rfl
    rotate_left
    · simp only [Act.put, List.setIfInBounds_toArray, List.set_cons_zero, List.set_cons_succ, i64_w, i32_w]
      rfl
    refine take_ (i := 13) (N := some 41) (v := ?_) (a' := ?_) #[true, true, true, true, true, true, true, true, true, true, true, true, false, true, false, false, false, false, false, false, false, false, false, false, false, false, false, false, false, false, false, false, false, false, false, false, false, false, false] rfl rfl (take_ofW HT_.out HW_.out (by kernel_rfl)) (fun _ _ _ h => h) (Or.inl ⟨by rfl, ?_⟩) hHeld ?_ ?_
    rotate_left
    · rintro w' ⟨s0, s1, s2, s3, s4, s5, s6, s7, s8, s9, s10, s11, s12, s13, s14, s15, s16, s17, s18, s19, s20, s21, s22, s23⟩
      go_simp
      with_reducible rfl
    rotate_left
    · simp only [Act.put, List.setIfInBounds_toArray, List.set_cons_zero, List.set_cons_succ, i64_w, i32_w]
      rfl
    refine pure_ (i := 14) (N := some 42) (v := ?_) (a' := ?_) #[true, true, true, true, true, true, true, true, true, true, true, true, false, true, true, false, false, false, false, false, false, false, false, false, false, false, false, false, false, false, false, false, false, false, false, false, false, false, false] rfl rfl (any_of HT_.out (by kernel_rfl)) (fun _ _ _ h => h) (Or.inl ⟨by rfl, ?_⟩) ?_ ?_
    rotate_left
    · intro w'
      go_simp
      with_reducible rfl
    rotate_left
    · simp only [Act.put, List.setIfInBounds_toArray, List.set_cons_zero, List.set_cons_succ, i64_w, i32_w]
      rfl
    refine pure_ (i := 15) (N := some 43) (v := ?_) (a' := ?_) #[true, true, true, true, true, true, true, true, true, true, true, true, false, true, true, true, false, false, false, false, false, false, false, false, false, false, false, false, false, false, false, false, false, false, false, false, false, false, false] rfl rfl (any_of HT_.out (by kernel_rfl)) (fun _ _ _ h => h) (Or.inl ⟨by rfl, ?_⟩) ?_ ?_
    rotate_left
    · intro w'
      go_simp
      with_reducible rfl
    rotate_left
    · simp only [Act.put, List.setIfInBounds_toArray, List.set_cons_zero, List.set_cons_succ, i64_w, i32_w]
      rfl
    refine one_ (i := 12) (N := some 40) #[true, true, true, true, true, true, true, true, true, true, true, true, true, true, true, true, false, false, false, false, false, false, false, false, false, false, false, false, false, false, false, false, false, false, false, false, false, false, false] rfl rfl (one_of HT_.out (by kernel_rfl)) (by decide) (fun K hK => ?_)
    refine goes_ Try.func17 (by kernel_rfl) rfl #[.agg #[.int .i64 N.minW, .int .i64 N.minH, .int .i64 N.maxW, .int .i64 N.maxH, .int .i64 N.baseW, .int .i64 N.baseH, .int .i64 N.incW, .int .i64 N.incH, .int .i64 N.lowX, .int .i64 N.lowY, .int .i64 N.highX, .int .i64 N.highY], .int .i64 w, .int .i64 t] (by rfl) rfl rfl (by (try simp only [List.map_toArray, List.map_cons, List.map_nil]); first | done | rfl) ?_
    refine (KA.out _).mono ?_
    rintro e wn ⟨rfl, hb⟩
    refine ⟨_, rfl, ?_⟩
    obtain ⟨s0, s1, s2, s3, s4, s5, s6, s7, s8, s9, s10, s11, s12, s13, s14, s15, s16, s17, s18, s19, s20, s21, s22, s23⟩ := hHeld
    replace s0 := cell_held hb s0
    replace s1 := cell_held hb s1
    replace s2 := cell_held hb s2
    replace s3 := cell_held hb s3
    replace s4 := cell_held hb s4
    replace s5 := cell_held hb s5
    replace s6 := cell_held hb s6
    replace s7 := cell_held hb s7
    replace s8 := cell_held hb s8
    replace s9 := cell_held hb s9
    replace s10 := cell_held hb s10
    replace s11 := cell_held hb s11
    replace s12 := cell_held hb s12
    replace s13 := cell_held hb s13
    replace s14 := cell_held hb s14
    replace s15 := cell_held hb s15
    replace s16 := cell_held hb s16
    replace s17 := cell_held hb s17
    replace s18 := cell_held hb s18
    replace s19 := cell_held hb s19
    replace s20 := cell_held hb s20
    replace s21 := cell_held hb s21
    replace s22 := cell_held hb s22
    replace s23 := cell_held hb s23
    replace qB := below_step (w := W) qB hb
    clear hb
    refine hK.out _ _ ⟨s0, s1, s2, s3, s4, s5, s6, s7, s8, s9, s10, s11, s12, s13, s14, s15, s16, s17, s18, s19, s20, s21, s22, s23⟩ (fun hHeld => ?_)
    clear hK K s0 s1 s2 s3 s4 s5 s6 s7 s8 s9 s10 s11 s12 s13 s14 s15 s16 s17 s18 s19 s20 s21 s22 s23
    refine norm_ (a' := ?_) ?_ ?_
    rotate_left
    · show Act.put _ (some 40) _ = _
      simp only [Act.put, List.setIfInBounds_toArray, List.set_cons_zero, List.set_cons_succ, i64_w, i32_w]
      rfl
    refine one_ (i := 16) (N := some 44) #[true, true, true, true, true, true, true, true, true, true, true, true, true, true, true, true, true, false, false, false, false, false, false, false, false, false, false, false, false, false, false, false, false, false, false, false, false, false, false] rfl rfl (one_of HT_.out (by kernel_rfl)) (by decide) (fun K hK => ?_)
    refine goes_ Try.func15 (by kernel_rfl) rfl #[.agg #[.int .i64 N.minW, .int .i64 N.minH, .int .i64 N.maxW, .int .i64 N.maxH, .int .i64 N.baseW, .int .i64 N.baseH, .int .i64 N.incW, .int .i64 N.incH, .int .i64 N.lowX, .int .i64 N.lowY, .int .i64 N.highX, .int .i64 N.highY], .int .i64 w, .int .i64 t] (by rfl) rfl rfl (by (try simp only [List.map_toArray, List.map_cons, List.map_nil]); first | done | rfl) ?_
    refine (KB.out _).mono ?_
    rintro e wn ⟨rfl, hb⟩
    refine ⟨_, rfl, ?_⟩
    obtain ⟨s0, s1, s2, s3, s4, s5, s6, s7, s8, s9, s10, s11, s12, s13, s14, s15, s16, s17, s18, s19, s20, s21, s22, s23⟩ := hHeld
    replace s0 := cell_held hb s0
    replace s1 := cell_held hb s1
    replace s2 := cell_held hb s2
    replace s3 := cell_held hb s3
    replace s4 := cell_held hb s4
    replace s5 := cell_held hb s5
    replace s6 := cell_held hb s6
    replace s7 := cell_held hb s7
    replace s8 := cell_held hb s8
    replace s9 := cell_held hb s9
    replace s10 := cell_held hb s10
    replace s11 := cell_held hb s11
    replace s12 := cell_held hb s12
    replace s13 := cell_held hb s13
    replace s14 := cell_held hb s14
    replace s15 := cell_held hb s15
    replace s16 := cell_held hb s16
    replace s17 := cell_held hb s17
    replace s18 := cell_held hb s18
    replace s19 := cell_held hb s19
    replace s20 := cell_held hb s20
    replace s21 := cell_held hb s21
    replace s22 := cell_held hb s22
    replace s23 := cell_held hb s23
    replace qB := below_step (w := W) qB hb
    clear hb
    refine hK.out _ _ ⟨s0, s1, s2, s3, s4, s5, s6, s7, s8, s9, s10, s11, s12, s13, s14, s15, s16, s17, s18, s19, s20, s21, s22, s23⟩ (fun hHeld => ?_)
    clear hK K s0 s1 s2 s3 s4 s5 s6 s7 s8 s9 s10 s11 s12 s13 s14 s15 s16 s17 s18 s19 s20 s21 s22 s23
    refine norm_ (a' := ?_) ?_ ?_
    rotate_left
    · show Act.put _ (some 44) _ = _
      simp only [Act.put, List.setIfInBounds_toArray, List.set_cons_zero, List.set_cons_succ, i64_w, i32_w]
      rfl
    refine pure_ (i := 17) (N := some 45) (v := ?_) (a' := ?_) #[true, true, true, true, true, true, true, true, true, true, true, true, true, true, true, true, true, true, false, false, false, false, false, false, false, false, false, false, false, false, false, false, false, false, false, false, false, false, false] rfl rfl (any_of HT_.out (by kernel_rfl)) (fun _ _ _ h => h) (Or.inl ⟨by rfl, ?_⟩) ?_ ?_
    rotate_left
    · intro w'
      go_simp
      with_reducible rfl
    rotate_left
    · simp only [Act.put, List.setIfInBounds_toArray, List.set_cons_zero, List.set_cons_succ, i64_w, i32_w]
      rfl
    refine pure_ (i := 18) (N := some 46) (v := ?_) (a' := ?_) #[true, true, true, true, true, true, true, true, true, true, true, true, true, true, true, true, true, true, true, false, false, false, false, false, false, false, false, false, false, false, false, false, false, false, false, false, false, false, false] rfl rfl (any_of HT_.out (by kernel_rfl)) (fun _ _ _ h => h) (Or.inl ⟨by rfl, ?_⟩) ?_ ?_
    rotate_left
    · intro w'
      go_simp
      with_reducible rfl
    rotate_left
    · simp only [Act.put, List.setIfInBounds_toArray, List.set_cons_zero, List.set_cons_succ, i64_w, i32_w]
      rfl
    refine pure_ (i := 19) (N := some 47) (v := ?_) (a' := ?_) #[true, true, true, true, true, true, true, true, true, true, true, true, true, true, true, true, true, true, true, true, false, false, false, false, false, false, false, false, false, false, false, false, false, false, false, false, false, false, false] rfl rfl (any_of HT_.out (by kernel_rfl)) (fun _ _ _ h => h) (Or.inl ⟨by rfl, ?_⟩) ?_ ?_
    rotate_left
    · intro w'
      go_simp
      with_reducible rfl
    rotate_left
    · simp only [Act.put, List.setIfInBounds_toArray, List.set_cons_zero, List.set_cons_succ, i64_w, i32_w]
      rfl
    refine take_ (i := 20) (N := some 48) (v := ?_) (a' := ?_) #[true, true, true, true, true, true, true, true, true, true, true, true, true, true, true, true, true, true, true, true, true, false, false, false, false, false, false, false, false, false, false, false, false, false, false, false, false, false, false] rfl rfl (take_ofW HT_.out HW_.out (by kernel_rfl)) (fun _ _ _ h => h) (Or.inl ⟨by rfl, ?_⟩) hHeld ?_ ?_
    rotate_left
    · rintro w' ⟨s0, s1, s2, s3, s4, s5, s6, s7, s8, s9, s10, s11, s12, s13, s14, s15, s16, s17, s18, s19, s20, s21, s22, s23⟩
      go_simp
      with_reducible rfl
    rotate_left
    · simp only [Act.put, List.setIfInBounds_toArray, List.set_cons_zero, List.set_cons_succ, i64_w, i32_w]
      rfl
    refine pure_ (i := 21) (N := some 49) (v := ?_) (a' := ?_) #[true, true, true, true, true, true, true, true, true, true, true, true, true, true, true, true, true, true, true, true, true, true, false, false, false, false, false, false, false, false, false, false, false, false, false, false, false, false, false] rfl rfl (any_of HT_.out (by kernel_rfl)) (fun _ _ _ h => h) (Or.inl ⟨by rfl, ?_⟩) ?_ ?_
    rotate_left
    · intro w'
      go_simp
      with_reducible rfl
    rotate_left
    · simp only [Act.put, List.setIfInBounds_toArray, List.set_cons_zero, List.set_cons_succ, i64_w, i32_w]
      rfl
    refine pure_ (i := 22) (N := some 50) (v := ?_) (a' := ?_) #[true, true, true, true, true, true, true, true, true, true, true, true, true, true, true, true, true, true, true, true, true, true, true, false, false, false, false, false, false, false, false, false, false, false, false, false, false, false, false] rfl rfl (any_of HT_.out (by kernel_rfl)) (fun _ _ _ h => h) (Or.inl ⟨by rfl, ?_⟩) ?_ ?_
    rotate_left
    · intro w'
      go_simp
      with_reducible rfl
    rotate_left
    · simp only [Act.put, List.setIfInBounds_toArray, List.set_cons_zero, List.set_cons_succ, i64_w, i32_w]
      rfl
    refine take_ (i := 24) (N := some 52) (v := ?_) (a' := ?_) #[true, true, true, true, true, true, true, true, true, true, true, true, true, true, true, true, true, true, true, true, true, true, true, false, true, false, false, false, false, false, false, false, false, false, false, false, false, false, false] rfl rfl (take_ofW HT_.out HW_.out (by kernel_rfl)) (fun _ _ _ h => h) (Or.inl ⟨by rfl, ?_⟩) hHeld ?_ ?_
    rotate_left
    · rintro w' ⟨s0, s1, s2, s3, s4, s5, s6, s7, s8, s9, s10, s11, s12, s13, s14, s15, s16, s17, s18, s19, s20, s21, s22, s23⟩
      go_simp
      with_reducible rfl
    rotate_left
    · simp only [Act.put, List.setIfInBounds_toArray, List.set_cons_zero, List.set_cons_succ, i64_w, i32_w]
      rfl
    refine take_ (i := 25) (N := some 53) (v := ?_) (a' := ?_) #[true, true, true, true, true, true, true, true, true, true, true, true, true, true, true, true, true, true, true, true, true, true, true, false, true, true, false, false, false, false, false, false, false, false, false, false, false, false, false] rfl rfl (take_ofW HT_.out HW_.out (by kernel_rfl)) (fun _ _ _ h => h) (Or.inl ⟨by rfl, ?_⟩) hHeld ?_ ?_
    rotate_left
    · rintro w' ⟨s0, s1, s2, s3, s4, s5, s6, s7, s8, s9, s10, s11, s12, s13, s14, s15, s16, s17, s18, s19, s20, s21, s22, s23⟩
      go_simp
      with_reducible rfl
    rotate_left
    · simp only [Act.put, List.setIfInBounds_toArray, List.set_cons_zero, List.set_cons_succ, i64_w, i32_w]
      rfl
    refine pure_ (i := 26) (N := some 54) (v := ?_) (a' := ?_) #[true, true, true, true, true, true, true, true, true, true, true, true, true, true, true, true, true, true, true, true, true, true, true, false, true, true, true, false, false, false, false, false, false, false, false, false, false, false, false] rfl rfl (any_of HT_.out (by kernel_rfl)) (fun _ _ _ h => h) (Or.inl ⟨by rfl, ?_⟩) ?_ ?_
    rotate_left
    · intro w'
      go_simp
      with_reducible rfl
    rotate_left
    · simp only [Act.put, List.setIfInBounds_toArray, List.set_cons_zero, List.set_cons_succ, i64_w, i32_w]
      rfl
    refine one_ (i := 23) (N := some 51) #[true, true, true, true, true, true, true, true, true, true, true, true, true, true, true, true, true, true, true, true, true, true, true, true, true, true, true, false, false, false, false, false, false, false, false, false, false, false, false] rfl rfl (one_of HT_.out (by kernel_rfl)) (by decide) (fun K hK => ?_)
    refine goes_ Try.func17 (by kernel_rfl) rfl #[.agg #[.int .i64 h.minW, .int .i64 h.minH, .int .i64 h.maxW, .int .i64 h.maxH, .int .i64 h.baseW, .int .i64 h.baseH, .int .i64 h.incW, .int .i64 h.incH, .int .i64 h.lowX, .int .i64 h.lowY, .int .i64 h.highX, .int .i64 h.highY], .int .i64 w, .int .i64 t] (by rfl) rfl rfl (by (try simp only [List.map_toArray, List.map_cons, List.map_nil]); first | done | rfl) ?_
    refine (KC.out _).mono ?_
    rintro e wn ⟨rfl, hb⟩
    refine ⟨_, rfl, ?_⟩
    obtain ⟨s0, s1, s2, s3, s4, s5, s6, s7, s8, s9, s10, s11, s12, s13, s14, s15, s16, s17, s18, s19, s20, s21, s22, s23⟩ := hHeld
    replace s0 := cell_held hb s0
    replace s1 := cell_held hb s1
    replace s2 := cell_held hb s2
    replace s3 := cell_held hb s3
    replace s4 := cell_held hb s4
    replace s5 := cell_held hb s5
    replace s6 := cell_held hb s6
    replace s7 := cell_held hb s7
    replace s8 := cell_held hb s8
    replace s9 := cell_held hb s9
    replace s10 := cell_held hb s10
    replace s11 := cell_held hb s11
    replace s12 := cell_held hb s12
    replace s13 := cell_held hb s13
    replace s14 := cell_held hb s14
    replace s15 := cell_held hb s15
    replace s16 := cell_held hb s16
    replace s17 := cell_held hb s17
    replace s18 := cell_held hb s18
    replace s19 := cell_held hb s19
    replace s20 := cell_held hb s20
    replace s21 := cell_held hb s21
    replace s22 := cell_held hb s22
    replace s23 := cell_held hb s23
    replace qB := below_step (w := W) qB hb
    clear hb
    refine hK.out _ _ ⟨s0, s1, s2, s3, s4, s5, s6, s7, s8, s9, s10, s11, s12, s13, s14, s15, s16, s17, s18, s19, s20, s21, s22, s23⟩ (fun hHeld => ?_)
    clear hK K s0 s1 s2 s3 s4 s5 s6 s7 s8 s9 s10 s11 s12 s13 s14 s15 s16 s17 s18 s19 s20 s21 s22 s23
    refine norm_ (a' := ?_) ?_ ?_
    rotate_left
    · show Act.put _ (some 51) _ = _
      simp only [Act.put, List.setIfInBounds_toArray, List.set_cons_zero, List.set_cons_succ, i64_w, i32_w]
      rfl
    refine pure_ (i := 27) (N := some 55) (v := ?_) (a' := ?_) #[true, true, true, true, true, true, true, true, true, true, true, true, true, true, true, true, true, true, true, true, true, true, true, true, true, true, true, true, false, false, false, false, false, false, false, false, false, false, false] rfl rfl (any_of HT_.out (by kernel_rfl)) (fun _ _ _ h => h) (Or.inl ⟨by rfl, ?_⟩) ?_ ?_
    rotate_left
    · intro w'
      go_simp
      with_reducible rfl
    rotate_left
    · simp only [Act.put, List.setIfInBounds_toArray, List.set_cons_zero, List.set_cons_succ, i64_w, i32_w]
      rfl
    refine pure_ (i := 28) (N := some 56) (v := undef) (a' := ?_) #[true, true, true, true, true, true, true, true, true, true, true, true, true, true, true, true, true, true, true, true, true, true, true, true, true, true, true, true, true, false, false, false, false, false, false, false, false, false, false] rfl rfl (any_of HT_.out (by kernel_rfl)) (fun _ _ _ h => h) (Or.inr ⟨by rfl, rfl⟩) ?_ ?_
    rotate_left
    · simp only [Act.put, List.setIfInBounds_toArray, List.set_cons_zero, List.set_cons_succ, i64_w, i32_w]
      rfl
    refine pure_ (i := 29) (N := some 57) (v := undef) (a' := ?_) #[true, true, true, true, true, true, true, true, true, true, true, true, true, true, true, true, true, true, true, true, true, true, true, true, true, true, true, true, true, true, false, false, false, false, false, false, false, false, false] rfl rfl (any_of HT_.out (by kernel_rfl)) (fun _ _ _ h => h) (Or.inr ⟨by rfl, rfl⟩) ?_ ?_
    rotate_left
    · simp only [Act.put, List.setIfInBounds_toArray, List.set_cons_zero, List.set_cons_succ, i64_w, i32_w]
      rfl
    refine pure_ (i := 30) (N := some 58) (v := undef) (a' := ?_) #[true, true, true, true, true, true, true, true, true, true, true, true, true, true, true, true, true, true, true, true, true, true, true, true, true, true, true, true, true, true, true, false, false, false, false, false, false, false, false] rfl rfl (any_of HT_.out (by kernel_rfl)) (fun _ _ _ h => h) (Or.inr ⟨by rfl, rfl⟩) ?_ ?_
    rotate_left
    · simp only [Act.put, List.setIfInBounds_toArray, List.set_cons_zero, List.set_cons_succ, i64_w, i32_w]
      rfl
    refine pure_ (i := 31) (N := some 59) (v := undef) (a' := ?_) #[true, true, true, true, true, true, true, true, true, true, true, true, true, true, true, true, true, true, true, true, true, true, true, true, true, true, true, true, true, true, true, true, false, false, false, false, false, false, false] rfl rfl (any_of HT_.out (by kernel_rfl)) (fun _ _ _ h => h) (Or.inr ⟨by rfl, rfl⟩) ?_ ?_
    rotate_left
    · simp only [Act.put, List.setIfInBounds_toArray, List.set_cons_zero, List.set_cons_succ, i64_w, i32_w]
      rfl
    refine pure_ (i := 32) (N := some 60) (v := ?_) (a' := ?_) #[true, true, true, true, true, true, true, true, true, true, true, true, true, true, true, true, true, true, true, true, true, true, true, true, true, true, true, true, true, true, true, true, true, false, false, false, false, false, false] rfl rfl (any_of HT_.out (by kernel_rfl)) (fun _ _ _ h => h) (Or.inl ⟨by rfl, ?_⟩) ?_ ?_
    rotate_left
    · intro w'
      go_simp
      with_reducible rfl
    rotate_left
    · simp only [Act.put, List.setIfInBounds_toArray, List.set_cons_zero, List.set_cons_succ, i64_w, i32_w]
      rfl
    refine pure_ (i := 33) (N := some 61) (v := ?_) (a' := ?_) #[true, true, true, true, true, true, true, true, true, true, true, true, true, true, true, true, true, true, true, true, true, true, true, true, true, true, true, true, true, true, true, true, true, true, false, false, false, false, false] rfl rfl (any_of HT_.out (by kernel_rfl)) (fun _ _ _ h => h) (Or.inl ⟨by rfl, ?_⟩) ?_ ?_
    rotate_left
    · intro w'
      go_simp
      with_reducible rfl
    rotate_left
    · simp only [Act.put, List.setIfInBounds_toArray, List.set_cons_zero, List.set_cons_succ, i64_w, i32_w]
      rfl
    refine pure_ (i := 34) (N := some 62) (v := ?_) (a' := ?_) #[true, true, true, true, true, true, true, true, true, true, true, true, true, true, true, true, true, true, true, true, true, true, true, true, true, true, true, true, true, true, true, true, true, true, true, false, false, false, false] rfl rfl (any_of HT_.out (by kernel_rfl)) (fun _ _ _ h => h) (Or.inl ⟨by rfl, ?_⟩) ?_ ?_
    rotate_left
    · intro w'
      go_simp
      with_reducible rfl
    rotate_left
    · simp only [Act.put, List.setIfInBounds_toArray, List.set_cons_zero, List.set_cons_succ, i64_w, i32_w]
      rfl
    refine pure_ (i := 35) (N := some 63) (v := ?_) (a' := ?_) #[true, true, true, true, true, true, true, true, true, true, true, true, true, true, true, true, true, true, true, true, true, true, true, true, true, true, true, true, true, true, true, true, true, true, true, true, false, false, false] rfl rfl (any_of HT_.out (by kernel_rfl)) (fun _ _ _ h => h) (Or.inl ⟨by rfl, ?_⟩) ?_ ?_
    rotate_left
    · intro w'
      go_simp
      with_reducible rfl
    rotate_left
    · simp only [Act.put, List.setIfInBounds_toArray, List.set_cons_zero, List.set_cons_succ, i64_w, i32_w]
      rfl
    refine one_ (i := 36) (N := some 64) #[true, true, true, true, true, true, true, true, true, true, true, true, true, true, true, true, true, true, true, true, true, true, true, true, true, true, true, true, true, true, true, true, true, true, true, true, true, false, false] rfl rfl (one_of HT_.out (by kernel_rfl)) (by decide) (fun K hK => ?_)
    refine goes_ Try.func13 (by kernel_rfl) rfl #[] (by rfl) rfl rfl (by (try simp only [List.map_toArray, List.map_cons, List.map_nil]); first | done | rfl) ?_
    refine (c_awake _).mono ?_
    rintro e wn ⟨rfl, hb⟩
    refine ⟨_, rfl, ?_⟩
    obtain ⟨s0, s1, s2, s3, s4, s5, s6, s7, s8, s9, s10, s11, s12, s13, s14, s15, s16, s17, s18, s19, s20, s21, s22, s23⟩ := hHeld
    replace s0 := cell_held hb s0
    replace s1 := cell_held hb s1
    replace s2 := cell_held hb s2
    replace s3 := cell_held hb s3
    replace s4 := cell_held hb s4
    replace s5 := cell_held hb s5
    replace s6 := cell_held hb s6
    replace s7 := cell_held hb s7
    replace s8 := cell_held hb s8
    replace s9 := cell_held hb s9
    replace s10 := cell_held hb s10
    replace s11 := cell_held hb s11
    replace s12 := cell_held hb s12
    replace s13 := cell_held hb s13
    replace s14 := cell_held hb s14
    replace s15 := cell_held hb s15
    replace s16 := cell_held hb s16
    replace s17 := cell_held hb s17
    replace s18 := cell_held hb s18
    replace s19 := cell_held hb s19
    replace s20 := cell_held hb s20
    replace s21 := cell_held hb s21
    replace s22 := cell_held hb s22
    replace s23 := cell_held hb s23
    replace qB := below_step (w := W) qB hb
    clear hb
    refine hK.out _ _ ⟨s0, s1, s2, s3, s4, s5, s6, s7, s8, s9, s10, s11, s12, s13, s14, s15, s16, s17, s18, s19, s20, s21, s22, s23⟩ (fun hHeld => ?_)
    clear hK K s0 s1 s2 s3 s4 s5 s6 s7 s8 s9 s10 s11 s12 s13 s14 s15 s16 s17 s18 s19 s20 s21 s22 s23
    refine norm_ (a' := ?_) ?_ ?_
    rotate_left
    · show Act.put _ (some 64) _ = _
      simp only [Act.put, List.setIfInBounds_toArray, List.set_cons_zero, List.set_cons_succ, i64_w, i32_w]
      rfl
    refine pure_ (i := 37) (N := some 65) (v := ?_) (a' := ?_) #[true, true, true, true, true, true, true, true, true, true, true, true, true, true, true, true, true, true, true, true, true, true, true, true, true, true, true, true, true, true, true, true, true, true, true, true, true, true, false] rfl rfl (any_of HT_.out (by kernel_rfl)) (fun _ _ _ h => h) (Or.inl ⟨by rfl, ?_⟩) ?_ ?_
    rotate_left
    · intro w'
      go_simp
      with_reducible rfl
    rotate_left
    · simp only [Act.put, List.setIfInBounds_toArray, List.set_cons_zero, List.set_cons_succ, i64_w, i32_w]
      rfl
    refine pure_ (i := 38) (N := some 6) (v := ?_) (a' := ?_) #[true, true, true, true, true, true, true, true, true, true, true, true, true, true, true, true, true, true, true, true, true, true, true, true, true, true, true, true, true, true, true, true, true, true, true, true, true, true, true] rfl rfl (any_of HT_.out (by kernel_rfl)) (fun _ _ _ h => h) (Or.inl ⟨by rfl, ?_⟩) ?_ ?_
    rotate_left
    · intro w'
      go_simp
      with_reducible rfl
    rotate_left
    · simp only [Act.put, List.setIfInBounds_toArray, List.set_cons_zero, List.set_cons_succ, i64_w, i32_w]
      rfl
    refine done_ (done_of HT_.out (by kernel_rfl)) ?_
    go_wp2
    go_ret
    exact ⟨rfl, qB⟩
theorem SizeFits_law (a0_0 : Int) (a0_1 : Int) (a0_2 : Int) (a0_3 : Int) (a0_4 : Int) (a0_5 : Int) (a0_6 : Int) (a0_7 : Int) (a0_8 : Int) (a0_9 : Int) (a0_10 : Int) (a0_11 : Int) (a1 : Int) (a2 : Int) (W : World) (w0_0 : (Lit.int .i64 a0_0).wf = true) (w0_1 : (Lit.int .i64 a0_1).wf = true) (w0_2 : (Lit.int .i64 a0_2).wf = true) (w0_3 : (Lit.int .i64 a0_3).wf = true) (w0_4 : (Lit.int .i64 a0_4).wf = true) (w0_5 : (Lit.int .i64 a0_5).wf = true) (w0_6 : (Lit.int .i64 a0_6).wf = true) (w0_7 : (Lit.int .i64 a0_7).wf = true) (w0_8 : (Lit.int .i64 a0_8).wf = true) (w0_9 : (Lit.int .i64 a0_9).wf = true) (w0_10 : (Lit.int .i64 a0_10).wf = true) (w0_11 : (Lit.int .i64 a0_11).wf = true) (w1 : (Lit.int .i64 a1).wf = true) (w2 : (Lit.int .i64 a2).wf = true) :
    Calls Try.prog 6 #[.agg #[.int .i64 a0_0, .int .i64 a0_1, .int .i64 a0_2, .int .i64 a0_3, .int .i64 a0_4, .int .i64 a0_5, .int .i64 a0_6, .int .i64 a0_7, .int .i64 a0_8, .int .i64 a0_9, .int .i64 a0_10, .int .i64 a0_11], .int .i64 a1, .int .i64 a2] W fun e w' => e = .returned (.bool true) ∧ Below W.heap.size W w' :=
  fits_any ⟨a0_0, a0_1, a0_2, a0_3, a0_4, a0_5, a0_6, a0_7, a0_8, a0_9, a0_10, a0_11⟩ a1 a2 W
end Go.Proofs.Ytokgigkdnmfknaa.Sz
