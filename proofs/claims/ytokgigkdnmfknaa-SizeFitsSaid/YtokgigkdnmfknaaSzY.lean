/- Sizes by hints: SizeNormals; the contract of the program's Good; SizeGood. -/
import Derived.Test.YtokgigkdnmfknaaSzX

namespace Go.Proofs.Ytokgigkdnmfknaa.Sz
open Go.RowKit Go.Proofs.YtokgigkdnmfknaaW.PrintMore Go.Proofs.YtokgigkdnmfknaaW.PrintWords Go.Proofs.YtokgigkdnmfknaaW.PrintLast Go.Proofs.Ytokgigkdnmfknaa.Geo
set_option linter.unusedVariables false
set_option linter.unusedSimpArgs false

theorem cell_held {W w1 : World} {a : Addr} {v : Value} (hb : Below W.heap.size W w1) (h : W.cell? a = some v) : w1.cell? a = some v := (hb.cell (World.block_lt_of_cell? W _ h)).trans h
def eq12 (x0 x1 x2 x3 x4 x5 x6 x7 x8 x9 x10 x11 y0 y1 y2 y3 y4 y5 y6 y7 y8 y9 y10 y11 : Int) : Bool := (x0 == y0 && (x1 == y1 && (x2 == y2 && (x3 == y3 && (x4 == y4 && (x5 == y5 && (x6 == y6 && (x7 == y7 && (x8 == y8 && (x9 == y9 && (x10 == y10 && (x11 == y11))))))))))))
theorem eq12_true {a b : Hn} : eq12 a.minW a.minH a.maxW a.maxH a.baseW a.baseH a.incW a.incH a.lowX a.lowY a.highX a.highY b.minW b.minH b.maxW b.maxH b.baseW b.baseH b.incW b.incH b.lowX b.lowY b.highX b.highY = true ↔ a = b := by
  obtain ⟨x0, x1, x2, x3, x4, x5, x6, x7, x8, x9, x10, x11⟩ := a
  obtain ⟨y0, y1, y2, y3, y4, y5, y6, y7, y8, y9, y10, y11⟩ := b
  simp only [eq12, Bool.and_eq_true, beq_iff_eq, Hn.mk.injEq]
theorem eqH (d : Nat) (w : World) (x0 x1 x2 x3 x4 x5 x6 x7 x8 x9 x10 x11 y0 y1 y2 y3 y4 y5 y6 y7 y8 y9 y10 y11 : Int) :
    (Op.equalIn (d + 2) 23 (.agg #[.int .i64 x0, .int .i64 x1, .int .i64 x2, .int .i64 x3, .int .i64 x4, .int .i64 x5, .int .i64 x6, .int .i64 x7, .int .i64 x8, .int .i64 x9, .int .i64 x10, .int .i64 x11]) (.agg #[.int .i64 y0, .int .i64 y1, .int .i64 y2, .int .i64 y3, .int .i64 y4, .int .i64 y5, .int .i64 y6, .int .i64 y7, .int .i64 y8, .int .i64 y9, .int .i64 y10, .int .i64 y11])).run Try.prog w = .ok (eq12 x0 x1 x2 x3 x4 x5 x6 x7 x8 x9 x10 x11 y0 y1 y2 y3 y4 y5 y6 y7 y8 y9 y10 y11) w := by
  refine eqA_of Try.underlying23 (by kernel_rfl) ?_
  unfold eq12
  refine eqf_cons (by rfl) (by go_simp; rfl) (by go_simp; rfl) (by go_simp) ?_
  refine eqf_cons (by rfl) (by go_simp; rfl) (by go_simp; rfl) (by go_simp) ?_
  refine eqf_cons (by rfl) (by go_simp; rfl) (by go_simp; rfl) (by go_simp) ?_
  refine eqf_cons (by rfl) (by go_simp; rfl) (by go_simp; rfl) (by go_simp) ?_
  refine eqf_cons (by rfl) (by go_simp; rfl) (by go_simp; rfl) (by go_simp) ?_
  refine eqf_cons (by rfl) (by go_simp; rfl) (by go_simp; rfl) (by go_simp) ?_
  refine eqf_cons (by rfl) (by go_simp; rfl) (by go_simp; rfl) (by go_simp) ?_
  refine eqf_cons (by rfl) (by go_simp; rfl) (by go_simp; rfl) (by go_simp) ?_
  refine eqf_cons (by rfl) (by go_simp; rfl) (by go_simp; rfl) (by go_simp) ?_
  refine eqf_cons (by rfl) (by go_simp; rfl) (by go_simp; rfl) (by go_simp) ?_
  refine eqf_cons (by rfl) (by go_simp; rfl) (by go_simp; rfl) (by go_simp) ?_
  exact eqf_last (by rfl) (by go_simp; rfl) (by go_simp; rfl) (by go_simp)
attribute [local go_sem high] eqH

def SzNT.T2 : Bool × List (List Nat × List Nat) := (true, [([], []), ([], []), ([1], [1]), ([0, 2], [0, 2]), ([3, 2], [3]), ([4], [4]), ([5, 4, 4], [4, 5]), ([4, 6], [4, 6]), ([7, 6], [7]), ([8], [8]), ([9, 8, 8], [8, 9]), ([8], [8]), ([10, 11, 8], [8, 10, 11]), ([8, 12], [8, 12]), ([13, 10], [13]), ([14, 14], [14]), ([14, 15], [14, 15]), ([16, 15, 0, 1, 2, 3, 4, 5, 6, 7, 8, 9, 10, 11, 12, 13, 14, 15, 16], [16])])
def SzNT.B2 : List Nat := [0, 0, 2, 7, 15, 31, 63, 127, 255, 511, 1023, 511, 4095, 8191, 16383, 32767, 65535, 131071]
theorem SzNT.tab2 : rtab .any (opsOf Try.f3 2) = SzNT.T2 := by kernel_rfl
theorem SzNT.bits2 : waitsOk SzNT.T2.2 SzNT.B2 = true := by kernel_rfl
def SzGT.T1 : Bool × List (List Nat × List Nat) := (true, [([], []), ([], []), ([1], [1]), ([0, 2], [0, 2]), ([3, 2], [3]), ([4], [4]), ([5, 4], [4, 5]), ([4, 6], [4, 6]), ([7, 4], [7]), ([8], [8]), ([9, 8], [8, 9]), ([8, 10], [8, 10])])
def SzGT.B1 : List Nat := [0, 0, 2, 7, 15, 31, 63, 127, 255, 511, 1023, 2047]
theorem SzGT.tab1 : rtab .any (opsOf Try.f17 1) = SzGT.T1 := by kernel_rfl
theorem SzGT.bits1 : waitsOk SzGT.T1.2 SzGT.B1 = true := by kernel_rfl

set_option maxHeartbeats 8000000 in
set_option maxRecDepth 100000 in
theorem normals_any (h : Hn) (W : World) : Calls Try.prog 3 #[.agg #[.int .i64 h.minW, .int .i64 h.minH, .int .i64 h.maxW, .int .i64 h.maxH, .int .i64 h.baseW, .int .i64 h.baseH, .int .i64 h.incW, .int .i64 h.incH, .int .i64 h.lowX, .int .i64 h.lowY, .int .i64 h.highX, .int .i64 h.highY]] W fun e w' => e = .returned (.bool true) ∧ Below W.heap.size W w' := by
  obtain ⟨N, hN⟩ : ∃ n, n = normal h := ⟨_, rfl⟩
  have KN := c_normal h
  have KR := c_rnormal h
  have K2 := c_normal N
  have KI := c_isnormal N
  rw [show nrmB N = true from nrmB_true.2 (hN ▸ normal_nrm h)] at KI
  rw [show normal N = N by rw [hN]; exact normal_idem h] at K2
  rw [← hN] at KN KR
  replace KN := Aside0.mk KN; replace KR := Aside0.mk KR; replace KI := Aside0.mk KI; replace K2 := Aside0.mk K2
  clear hN
  have hEq : eq12 N.minW N.minH N.maxW N.maxH N.baseW N.baseH N.incW N.incH N.lowX N.lowY N.highX N.highY N.minW N.minH N.maxW N.maxH N.baseW N.baseH N.incW N.incH N.lowX N.lowY N.highX N.highY = true := eq12_true.2 rfl
  go_enter Try.func3, Try.ntmps3
  go_wp2_with fail
  refine (KN.out _).mono ?_
  rintro e w1 ⟨rfl, hb⟩
  have B1 := Aside0.mk (blk_below (blk_new W (.cells #[.int .i64 h.minW, .int .i64 h.minH, .int .i64 h.maxW, .int .i64 h.maxH, .int .i64 h.baseW, .int .i64 h.baseH, .int .i64 h.incW, .int .i64 h.incH, .int .i64 h.lowX, .int .i64 h.lowY, .int .i64 h.highX, .int .i64 h.highY] 23 (0, 0))) hb)
  have qB := below_alloc (below_step (below_alloc (Below.refl W.heap.size W) (.cells #[.int .i64 h.minW, .int .i64 h.minH, .int .i64 h.maxW, .int .i64 h.maxH, .int .i64 h.baseW, .int .i64 h.baseH, .int .i64 h.incW, .int .i64 h.incH, .int .i64 h.lowX, .int .i64 h.lowY, .int .i64 h.highX, .int .i64 h.highY] 23 (0, 0))) hb) (.cells #[.int .i64 N.minW, .int .i64 N.minH, .int .i64 N.maxW, .int .i64 N.maxH, .int .i64 N.baseW, .int .i64 N.baseH, .int .i64 N.incW, .int .i64 N.incH, .int .i64 N.lowX, .int .i64 N.lowY, .int .i64 N.highX, .int .i64 N.highY] 23 (0, 0))
  have B3 := Aside0.mk (blk_new w1 (.cells #[.int .i64 N.minW, .int .i64 N.minH, .int .i64 N.maxW, .int .i64 N.maxH, .int .i64 N.baseW, .int .i64 N.baseH, .int .i64 N.incW, .int .i64 N.incH, .int .i64 N.lowX, .int .i64 N.lowY, .int .i64 N.highX, .int .i64 N.highY] 23 (0, 0)))
  replace B1 := Aside0.mk (blk_alloc B1.out (.cells #[.int .i64 N.minW, .int .i64 N.minH, .int .i64 N.maxW, .int .i64 N.maxH, .int .i64 N.baseW, .int .i64 N.baseH, .int .i64 N.incW, .int .i64 N.incH, .int .i64 N.lowX, .int .i64 N.lowY, .int .i64 N.highX, .int .i64 N.highY] 23 (0, 0)))
  clear hb
  go_wp2_with fail
  generalize hw2 : w1.alloc (.cells #[.int .i64 N.minW, .int .i64 N.minH, .int .i64 N.maxW, .int .i64 N.maxH, .int .i64 N.baseW, .int .i64 N.baseH, .int .i64 N.incW, .int .i64 N.incH, .int .i64 N.lowX, .int .i64 N.lowY, .int .i64 N.highX, .int .i64 N.highY] 23 (0, 0)) = w2 at qB B1 B3 ⊢
  have p0 : w2.cell? ⟨W.heap.size, 0, none⟩ = some (.int .i64 (h.minW)) := (blk_cell B1.out 0).trans rfl
  have p1 : w2.cell? ⟨W.heap.size, 1, none⟩ = some (.int .i64 (h.minH)) := (blk_cell B1.out 1).trans rfl
  have p2 : w2.cell? ⟨W.heap.size, 2, none⟩ = some (.int .i64 (h.maxW)) := (blk_cell B1.out 2).trans rfl
  have p3 : w2.cell? ⟨W.heap.size, 3, none⟩ = some (.int .i64 (h.maxH)) := (blk_cell B1.out 3).trans rfl
  have p4 : w2.cell? ⟨W.heap.size, 4, none⟩ = some (.int .i64 (h.baseW)) := (blk_cell B1.out 4).trans rfl
  have p5 : w2.cell? ⟨W.heap.size, 5, none⟩ = some (.int .i64 (h.baseH)) := (blk_cell B1.out 5).trans rfl
  have p6 : w2.cell? ⟨W.heap.size, 6, none⟩ = some (.int .i64 (h.incW)) := (blk_cell B1.out 6).trans rfl
  have p7 : w2.cell? ⟨W.heap.size, 7, none⟩ = some (.int .i64 (h.incH)) := (blk_cell B1.out 7).trans rfl
  have p8 : w2.cell? ⟨W.heap.size, 8, none⟩ = some (.int .i64 (h.lowX)) := (blk_cell B1.out 8).trans rfl
  have p9 : w2.cell? ⟨W.heap.size, 9, none⟩ = some (.int .i64 (h.lowY)) := (blk_cell B1.out 9).trans rfl
  have p10 : w2.cell? ⟨W.heap.size, 10, none⟩ = some (.int .i64 (h.highX)) := (blk_cell B1.out 10).trans rfl
  have p11 : w2.cell? ⟨W.heap.size, 11, none⟩ = some (.int .i64 (h.highY)) := (blk_cell B1.out 11).trans rfl
  have q0 : w2.cell? ⟨w1.heap.size, 0, none⟩ = some (.int .i64 (N.minW)) := (blk_cell B3.out 0).trans rfl
  have q1 : w2.cell? ⟨w1.heap.size, 1, none⟩ = some (.int .i64 (N.minH)) := (blk_cell B3.out 1).trans rfl
  have q2 : w2.cell? ⟨w1.heap.size, 2, none⟩ = some (.int .i64 (N.maxW)) := (blk_cell B3.out 2).trans rfl
  have q3 : w2.cell? ⟨w1.heap.size, 3, none⟩ = some (.int .i64 (N.maxH)) := (blk_cell B3.out 3).trans rfl
  have q4 : w2.cell? ⟨w1.heap.size, 4, none⟩ = some (.int .i64 (N.baseW)) := (blk_cell B3.out 4).trans rfl
  have q5 : w2.cell? ⟨w1.heap.size, 5, none⟩ = some (.int .i64 (N.baseH)) := (blk_cell B3.out 5).trans rfl
  have q6 : w2.cell? ⟨w1.heap.size, 6, none⟩ = some (.int .i64 (N.incW)) := (blk_cell B3.out 6).trans rfl
  have q7 : w2.cell? ⟨w1.heap.size, 7, none⟩ = some (.int .i64 (N.incH)) := (blk_cell B3.out 7).trans rfl
  have q8 : w2.cell? ⟨w1.heap.size, 8, none⟩ = some (.int .i64 (N.lowX)) := (blk_cell B3.out 8).trans rfl
  have q9 : w2.cell? ⟨w1.heap.size, 9, none⟩ = some (.int .i64 (N.lowY)) := (blk_cell B3.out 9).trans rfl
  have q10 : w2.cell? ⟨w1.heap.size, 10, none⟩ = some (.int .i64 (N.highX)) := (blk_cell B3.out 10).trans rfl
  have q11 : w2.cell? ⟨w1.heap.size, 11, none⟩ = some (.int .i64 (N.highY)) := (blk_cell B3.out 11).trans rfl
  clear B1 B3 hw2
  refine start_ (n := 18) (S := fun w' => w'.cell? ⟨W.heap.size, 0, none⟩ = some (.int .i64 h.minW) ∧ w'.cell? ⟨W.heap.size, 1, none⟩ = some (.int .i64 h.minH) ∧ w'.cell? ⟨W.heap.size, 2, none⟩ = some (.int .i64 h.maxW) ∧ w'.cell? ⟨W.heap.size, 3, none⟩ = some (.int .i64 h.maxH) ∧ w'.cell? ⟨W.heap.size, 4, none⟩ = some (.int .i64 h.baseW) ∧ w'.cell? ⟨W.heap.size, 5, none⟩ = some (.int .i64 h.baseH) ∧ w'.cell? ⟨W.heap.size, 6, none⟩ = some (.int .i64 h.incW) ∧ w'.cell? ⟨W.heap.size, 7, none⟩ = some (.int .i64 h.incH) ∧ w'.cell? ⟨W.heap.size, 8, none⟩ = some (.int .i64 h.lowX) ∧ w'.cell? ⟨W.heap.size, 9, none⟩ = some (.int .i64 h.lowY) ∧ w'.cell? ⟨W.heap.size, 10, none⟩ = some (.int .i64 h.highX) ∧ w'.cell? ⟨W.heap.size, 11, none⟩ = some (.int .i64 h.highY) ∧ w'.cell? ⟨w1.heap.size, 0, none⟩ = some (.int .i64 N.minW) ∧ w'.cell? ⟨w1.heap.size, 1, none⟩ = some (.int .i64 N.minH) ∧ w'.cell? ⟨w1.heap.size, 2, none⟩ = some (.int .i64 N.maxW) ∧ w'.cell? ⟨w1.heap.size, 3, none⟩ = some (.int .i64 N.maxH) ∧ w'.cell? ⟨w1.heap.size, 4, none⟩ = some (.int .i64 N.baseW) ∧ w'.cell? ⟨w1.heap.size, 5, none⟩ = some (.int .i64 N.baseH) ∧ w'.cell? ⟨w1.heap.size, 6, none⟩ = some (.int .i64 N.incW) ∧ w'.cell? ⟨w1.heap.size, 7, none⟩ = some (.int .i64 N.incH) ∧ w'.cell? ⟨w1.heap.size, 8, none⟩ = some (.int .i64 N.lowX) ∧ w'.cell? ⟨w1.heap.size, 9, none⟩ = some (.int .i64 N.lowY) ∧ w'.cell? ⟨w1.heap.size, 10, none⟩ = some (.int .i64 N.highX) ∧ w'.cell? ⟨w1.heap.size, 11, none⟩ = some (.int .i64 N.highY)) (ds := []) #[false, false, false, false, false, false, false, false, false, false, false, false, false, false, false, false, false, false] (by kernel_rfl) rfl rfl ⟨p0, p1, p2, p3, p4, p5, p6, p7, p8, p9, p10, p11, q0, q1, q2, q3, q4, q5, q6, q7, q8, q9, q10, q11⟩ (fun hHeld => ?_)
  refine with_tabW SzNT.tab2 SzNT.bits2 (fun HT_ HW_ => ?_)
  have qB0 := below_drew qB
  clear qB
  have qB := qB0
  clear qB0
  generalize w2.drew = wr at qB hHeld ⊢
  refine take_ (i := 0) (N := some 6) (v := ?_) (a' := ?_) #[true, false, false, false, false, false, false, false, false, false, false, false, false, false, false, false, false, false] rfl rfl (take_ofW HT_.out HW_.out (by kernel_rfl)) (fun _ _ _ h => h) (Or.inl ⟨by rfl, ?_⟩) hHeld ?_ ?_
  rotate_left
  · rintro w' ⟨s0, s1, s2, s3, s4, s5, s6, s7, s8, s9, s10, s11, s12, s13, s14, s15, s16, s17, s18, s19, s20, s21, s22, s23⟩
    go_simp
    with_reducible rfl
  rotate_left
  · simp only [Act.put, List.setIfInBounds_toArray, List.set_cons_zero, List.set_cons_succ, i64_w, i32_w]
    rfl
  refine take_ (i := 1) (N := some 7) (v := ?_) (a' := ?_) #[true, true, false, false, false, false, false, false, false, false, false, false, false, false, false, false, false, false] rfl rfl (take_ofW HT_.out HW_.out (by kernel_rfl)) (fun _ _ _ h => h) (Or.inl ⟨by rfl, ?_⟩) hHeld ?_ ?_
  rotate_left
  · rintro w' ⟨s0, s1, s2, s3, s4, s5, s6, s7, s8, s9, s10, s11, s12, s13, s14, s15, s16, s17, s18, s19, s20, s21, s22, s23⟩
    go_simp
    with_reducible rfl
  rotate_left
  · simp only [Act.put, List.setIfInBounds_toArray, List.set_cons_zero, List.set_cons_succ, i64_w, i32_w]
    rfl
  refine one_ (i := 2) (N := some 8) #[true, true, true, false, false, false, false, false, false, false, false, false, false, false, false, false, false, false] rfl rfl (one_of HT_.out (by kernel_rfl)) (by decide) (fun K hK => ?_)
  refine goes_ Try.func11 (by kernel_rfl) rfl #[.agg #[.int .i64 h.minW, .int .i64 h.minH, .int .i64 h.maxW, .int .i64 h.maxH, .int .i64 h.baseW, .int .i64 h.baseH, .int .i64 h.incW, .int .i64 h.incH, .int .i64 h.lowX, .int .i64 h.lowY, .int .i64 h.highX, .int .i64 h.highY]] (by rfl) rfl rfl (by (try simp only [List.map_toArray, List.map_cons, List.map_nil]); first | done | rfl) ?_
  refine (KR.out _).mono ?_
  rintro e wn ⟨rfl, hb⟩
  refine ⟨_, rfl, ?_⟩
  obtain ⟨s0, s1, s2, s3, s4, s5, s6, s7, s8, s9, s10, s11, s12, s13, s14, s15, s16, s17, s18, s19, s20, s21, s22, s23⟩ := hHeld
  replace s0 := cell_held hb s0
  replace s1 := cell_held hb s1
  replace s2 := cell_held hb s2
  replace s3 := cell_held hb s3
  replace s4 := cell_held hb s4
  replace s5 := cell_held hb s5
  replace s6 := cell_held hb s6
  replace s7 := cell_held hb s7
  replace s8 := cell_held hb s8
  replace s9 := cell_held hb s9
  replace s10 := cell_held hb s10
  replace s11 := cell_held hb s11
  replace s12 := cell_held hb s12
  replace s13 := cell_held hb s13
  replace s14 := cell_held hb s14
  replace s15 := cell_held hb s15
  replace s16 := cell_held hb s16
  replace s17 := cell_held hb s17
  replace s18 := cell_held hb s18
  replace s19 := cell_held hb s19
  replace s20 := cell_held hb s20
  replace s21 := cell_held hb s21
  replace s22 := cell_held hb s22
  replace s23 := cell_held hb s23
  replace qB := below_step (w := W) qB hb
  clear hb
  refine hK.out _ _ ⟨s0, s1, s2, s3, s4, s5, s6, s7, s8, s9, s10, s11, s12, s13, s14, s15, s16, s17, s18, s19, s20, s21, s22, s23⟩ (fun hHeld => ?_)
  clear hK K s0 s1 s2 s3 s4 s5 s6 s7 s8 s9 s10 s11 s12 s13 s14 s15 s16 s17 s18 s19 s20 s21 s22 s23
  refine norm_ (a' := ?_) ?_ ?_
  rotate_left
  · show Act.put _ (some 8) _ = _
    simp only [Act.put, List.setIfInBounds_toArray, List.set_cons_zero, List.set_cons_succ, i64_w, i32_w]
    rfl
  refine pure_ (i := 3) (N := some 9) (v := ?_) (a' := ?_) #[true, true, true, true, false, false, false, false, false, false, false, false, false, false, false, false, false, false] rfl rfl (any_of HT_.out (by kernel_rfl)) (fun _ _ _ h => h) (Or.inl ⟨by rfl, ?_⟩) ?_ ?_
  rotate_left
  · intro w'
    go_simp
    with_reducible rfl
  rotate_left
  · simp only [Act.put, List.setIfInBounds_toArray, List.set_cons_zero, List.set_cons_succ, i64_w, i32_w]
    rfl
  refine pure_ (i := 4) (N := some 10) (v := ?_) (a' := ?_) #[true, true, true, true, true, false, false, false, false, false, false, false, false, false, false, false, false, false] rfl rfl (any_of HT_.out (by kernel_rfl)) (fun _ _ _ h => h) (Or.inl ⟨by rfl, ?_⟩) ?_ ?_
  rotate_left
  · intro w'
    go_simp
    with_reducible rfl
  rotate_left
  · simp only [Act.put, List.setIfInBounds_toArray, List.set_cons_zero, List.set_cons_succ, i64_w, i32_w]
    rfl
  refine take_ (i := 5) (N := some 11) (v := ?_) (a' := ?_) #[true, true, true, true, true, true, false, false, false, false, false, false, false, false, false, false, false, false] rfl rfl (take_ofW HT_.out HW_.out (by kernel_rfl)) (fun _ _ _ h => h) (Or.inl ⟨by rfl, ?_⟩) hHeld ?_ ?_
  rotate_left
  · rintro w' ⟨s0, s1, s2, s3, s4, s5, s6, s7, s8, s9, s10, s11, s12, s13, s14, s15, s16, s17, s18, s19, s20, s21, s22, s23⟩
    go_simp
    with_reducible rfl
  rotate_left
  · simp only [Act.put, List.setIfInBounds_toArray, List.set_cons_zero, List.set_cons_succ, i64_w, i32_w]
    rfl
  refine one_ (i := 6) (N := some 12) #[true, true, true, true, true, true, true, false, false, false, false, false, false, false, false, false, false, false] rfl rfl (one_of HT_.out (by kernel_rfl)) (by decide) (fun K hK => ?_)
  refine goes_ Try.func12 (by kernel_rfl) rfl #[.agg #[.int .i64 N.minW, .int .i64 N.minH, .int .i64 N.maxW, .int .i64 N.maxH, .int .i64 N.baseW, .int .i64 N.baseH, .int .i64 N.incW, .int .i64 N.incH, .int .i64 N.lowX, .int .i64 N.lowY, .int .i64 N.highX, .int .i64 N.highY]] (by rfl) rfl rfl (by (try simp only [List.map_toArray, List.map_cons, List.map_nil]); first | done | rfl) ?_
  refine (KI.out _).mono ?_
  rintro e wn ⟨rfl, hb⟩
  refine ⟨_, rfl, ?_⟩
  obtain ⟨s0, s1, s2, s3, s4, s5, s6, s7, s8, s9, s10, s11, s12, s13, s14, s15, s16, s17, s18, s19, s20, s21, s22, s23⟩ := hHeld
  replace s0 := cell_held hb s0
  replace s1 := cell_held hb s1
  replace s2 := cell_held hb s2
  replace s3 := cell_held hb s3
  replace s4 := cell_held hb s4
  replace s5 := cell_held hb s5
  replace s6 := cell_held hb s6
  replace s7 := cell_held hb s7
  replace s8 := cell_held hb s8
  replace s9 := cell_held hb s9
  replace s10 := cell_held hb s10
  replace s11 := cell_held hb s11
  replace s12 := cell_held hb s12
  replace s13 := cell_held hb s13
  replace s14 := cell_held hb s14
  replace s15 := cell_held hb s15
  replace s16 := cell_held hb s16
  replace s17 := cell_held hb s17
  replace s18 := cell_held hb s18
  replace s19 := cell_held hb s19
  replace s20 := cell_held hb s20
  replace s21 := cell_held hb s21
  replace s22 := cell_held hb s22
  replace s23 := cell_held hb s23
  replace qB := below_step (w := W) qB hb
  clear hb
  refine hK.out _ _ ⟨s0, s1, s2, s3, s4, s5, s6, s7, s8, s9, s10, s11, s12, s13, s14, s15, s16, s17, s18, s19, s20, s21, s22, s23⟩ (fun hHeld => ?_)
  clear hK K s0 s1 s2 s3 s4 s5 s6 s7 s8 s9 s10 s11 s12 s13 s14 s15 s16 s17 s18 s19 s20 s21 s22 s23
  refine norm_ (a' := ?_) ?_ ?_
  rotate_left
  · show Act.put _ (some 12) _ = _
    simp only [Act.put, List.setIfInBounds_toArray, List.set_cons_zero, List.set_cons_succ, i64_w, i32_w]
    rfl
  refine pure_ (i := 7) (N := some 13) (v := ?_) (a' := ?_) #[true, true, true, true, true, true, true, true, false, false, false, false, false, false, false, false, false, false] rfl rfl (any_of HT_.out (by kernel_rfl)) (fun _ _ _ h => h) (Or.inl ⟨by rfl, ?_⟩) ?_ ?_
  rotate_left
  · intro w'
    go_simp
    with_reducible rfl
  rotate_left
  · simp only [Act.put, List.setIfInBounds_toArray, List.set_cons_zero, List.set_cons_succ, i64_w, i32_w]
    rfl
  refine pure_ (i := 8) (N := some 14) (v := ?_) (a' := ?_) #[true, true, true, true, true, true, true, true, true, false, false, false, false, false, false, false, false, false] rfl rfl (any_of HT_.out (by kernel_rfl)) (fun _ _ _ h => h) (Or.inl ⟨by rfl, ?_⟩) ?_ ?_
  rotate_left
  · intro w'
    go_simp
    with_reducible rfl
  rotate_left
  · simp only [Act.put, List.setIfInBounds_toArray, List.set_cons_zero, List.set_cons_succ, i64_w, i32_w]
    rfl
  refine take_ (i := 9) (N := some 15) (v := ?_) (a' := ?_) #[true, true, true, true, true, true, true, true, true, true, false, false, false, false, false, false, false, false] rfl rfl (take_ofW HT_.out HW_.out (by kernel_rfl)) (fun _ _ _ h => h) (Or.inl ⟨by rfl, ?_⟩) hHeld ?_ ?_
  rotate_left
  · rintro w' ⟨s0, s1, s2, s3, s4, s5, s6, s7, s8, s9, s10, s11, s12, s13, s14, s15, s16, s17, s18, s19, s20, s21, s22, s23⟩
    go_simp
    with_reducible rfl
  rotate_left
  · simp only [Act.put, List.setIfInBounds_toArray, List.set_cons_zero, List.set_cons_succ, i64_w, i32_w]
    rfl
  refine take_ (i := 11) (N := some 17) (v := ?_) (a' := ?_) #[true, true, true, true, true, true, true, true, true, true, false, true, false, false, false, false, false, false] rfl rfl (take_ofW HT_.out HW_.out (by kernel_rfl)) (fun _ _ _ h => h) (Or.inl ⟨by rfl, ?_⟩) hHeld ?_ ?_
  rotate_left
  · rintro w' ⟨s0, s1, s2, s3, s4, s5, s6, s7, s8, s9, s10, s11, s12, s13, s14, s15, s16, s17, s18, s19, s20, s21, s22, s23⟩
    go_simp
    with_reducible rfl
  rotate_left
  · simp only [Act.put, List.setIfInBounds_toArray, List.set_cons_zero, List.set_cons_succ, i64_w, i32_w]
    rfl
  refine one_ (i := 10) (N := some 16) #[true, true, true, true, true, true, true, true, true, true, true, true, false, false, false, false, false, false] rfl rfl (one_of HT_.out (by kernel_rfl)) (by decide) (fun K hK => ?_)
  refine goes_ Try.func10 (by kernel_rfl) rfl #[.agg #[.int .i64 N.minW, .int .i64 N.minH, .int .i64 N.maxW, .int .i64 N.maxH, .int .i64 N.baseW, .int .i64 N.baseH, .int .i64 N.incW, .int .i64 N.incH, .int .i64 N.lowX, .int .i64 N.lowY, .int .i64 N.highX, .int .i64 N.highY]] (by rfl) rfl rfl (by (try simp only [List.map_toArray, List.map_cons, List.map_nil]); first | done | rfl) ?_
  refine (K2.out _).mono ?_
  rintro e wn ⟨rfl, hb⟩
  refine ⟨_, rfl, ?_⟩
  obtain ⟨s0, s1, s2, s3, s4, s5, s6, s7, s8, s9, s10, s11, s12, s13, s14, s15, s16, s17, s18, s19, s20, s21, s22, s23⟩ := hHeld
  replace s0 := cell_held hb s0
  replace s1 := cell_held hb s1
  replace s2 := cell_held hb s2
  replace s3 := cell_held hb s3
  replace s4 := cell_held hb s4
  replace s5 := cell_held hb s5
  replace s6 := cell_held hb s6
  replace s7 := cell_held hb s7
  replace s8 := cell_held hb s8
  replace s9 := cell_held hb s9
  replace s10 := cell_held hb s10
  replace s11 := cell_held hb s11
  replace s12 := cell_held hb s12
  replace s13 := cell_held hb s13
  replace s14 := cell_held hb s14
  replace s15 := cell_held hb s15
  replace s16 := cell_held hb s16
  replace s17 := cell_held hb s17
  replace s18 := cell_held hb s18
  replace s19 := cell_held hb s19
  replace s20 := cell_held hb s20
  replace s21 := cell_held hb s21
  replace s22 := cell_held hb s22
  replace s23 := cell_held hb s23
  replace qB := below_step (w := W) qB hb
  clear hb
  refine hK.out _ _ ⟨s0, s1, s2, s3, s4, s5, s6, s7, s8, s9, s10, s11, s12, s13, s14, s15, s16, s17, s18, s19, s20, s21, s22, s23⟩ (fun hHeld => ?_)
  clear hK K s0 s1 s2 s3 s4 s5 s6 s7 s8 s9 s10 s11 s12 s13 s14 s15 s16 s17 s18 s19 s20 s21 s22 s23
  refine norm_ (a' := ?_) ?_ ?_
  rotate_left
  · show Act.put _ (some 16) _ = _
    simp only [Act.put, List.setIfInBounds_toArray, List.set_cons_zero, List.set_cons_succ, i64_w, i32_w]
    rfl
  refine pure_ (i := 12) (N := some 18) (v := ?_) (a' := ?_) #[true, true, true, true, true, true, true, true, true, true, true, true, true, false, false, false, false, false] rfl rfl (any_of HT_.out (by kernel_rfl)) (fun _ _ _ h => h) (Or.inl ⟨by rfl, ?_⟩) ?_ ?_
  rotate_left
  · intro w'
    go_simp
    with_reducible rfl
  rotate_left
  · simp only [Act.put, List.setIfInBounds_toArray, List.set_cons_zero, List.set_cons_succ, i64_w, i32_w]
    rfl
  refine pure_ (i := 13) (N := some 19) (v := ?_) (a' := ?_) #[true, true, true, true, true, true, true, true, true, true, true, true, true, true, false, false, false, false] rfl rfl (any_of HT_.out (by kernel_rfl)) (fun _ _ _ h => h) (Or.inl ⟨by rfl, ?_⟩) ?_ ?_
  rotate_left
  · intro w'
    go_simp
    with_reducible rfl
  rotate_left
  · simp only [Act.put, List.setIfInBounds_toArray, List.set_cons_zero, List.set_cons_succ, i64_w, i32_w]
    rfl
  refine pure_ (i := 14) (N := some 20) (v := ?_) (a' := ?_) #[true, true, true, true, true, true, true, true, true, true, true, true, true, true, true, false, false, false] rfl rfl (any_of HT_.out (by kernel_rfl)) (fun _ _ _ h => h) (Or.inl ⟨by rfl, ?_⟩) ?_ ?_
  rotate_left
  · intro w'
    go_simp
    with_reducible rfl
  rotate_left
  · simp only [Act.put, List.setIfInBounds_toArray, List.set_cons_zero, List.set_cons_succ, i64_w, i32_w]
    rfl
  refine one_ (i := 15) (N := some 21) #[true, true, true, true, true, true, true, true, true, true, true, true, true, true, true, true, false, false] rfl rfl (one_of HT_.out (by kernel_rfl)) (by decide) (fun K hK => ?_)
  refine goes_ Try.func13 (by kernel_rfl) rfl #[] (by rfl) rfl rfl (by (try simp only [List.map_toArray, List.map_cons, List.map_nil]); first | done | rfl) ?_
  refine (c_awake _).mono ?_
  rintro e wn ⟨rfl, hb⟩
  refine ⟨_, rfl, ?_⟩
  obtain ⟨s0, s1, s2, s3, s4, s5, s6, s7, s8, s9, s10, s11, s12, s13, s14, s15, s16, s17, s18, s19, s20, s21, s22, s23⟩ := hHeld
  replace s0 := cell_held hb s0
  replace s1 := cell_held hb s1
  replace s2 := cell_held hb s2
  replace s3 := cell_held hb s3
  replace s4 := cell_held hb s4
  replace s5 := cell_held hb s5
  replace s6 := cell_held hb s6
  replace s7 := cell_held hb s7
  replace s8 := cell_held hb s8
  replace s9 := cell_held hb s9
  replace s10 := cell_held hb s10
  replace s11 := cell_held hb s11
  replace s12 := cell_held hb s12
  replace s13 := cell_held hb s13
  replace s14 := cell_held hb s14
  replace s15 := cell_held hb s15
  replace s16 := cell_held hb s16
  replace s17 := cell_held hb s17
  replace s18 := cell_held hb s18
  replace s19 := cell_held hb s19
  replace s20 := cell_held hb s20
  replace s21 := cell_held hb s21
  replace s22 := cell_held hb s22
  replace s23 := cell_held hb s23
  replace qB := below_step (w := W) qB hb
  clear hb
  refine hK.out _ _ ⟨s0, s1, s2, s3, s4, s5, s6, s7, s8, s9, s10, s11, s12, s13, s14, s15, s16, s17, s18, s19, s20, s21, s22, s23⟩ (fun hHeld => ?_)
  clear hK K s0 s1 s2 s3 s4 s5 s6 s7 s8 s9 s10 s11 s12 s13 s14 s15 s16 s17 s18 s19 s20 s21 s22 s23
  refine norm_ (a' := ?_) ?_ ?_
  rotate_left
  · show Act.put _ (some 21) _ = _
    simp only [Act.put, List.setIfInBounds_toArray, List.set_cons_zero, List.set_cons_succ, i64_w, i32_w]
    rfl
  refine pure_ (i := 16) (N := some 22) (v := ?_) (a' := ?_) #[true, true, true, true, true, true, true, true, true, true, true, true, true, true, true, true, true, false] rfl rfl (any_of HT_.out (by kernel_rfl)) (fun _ _ _ h => h) (Or.inl ⟨by rfl, ?_⟩) ?_ ?_
  rotate_left
  · intro w'
    go_simp
    with_reducible rfl
  rotate_left
  · simp only [Act.put, List.setIfInBounds_toArray, List.set_cons_zero, List.set_cons_succ, i64_w, i32_w]
    rfl
  refine pure_ (i := 17) (N := some 2) (v := ?_) (a' := ?_) #[true, true, true, true, true, true, true, true, true, true, true, true, true, true, true, true, true, true] rfl rfl (any_of HT_.out (by kernel_rfl)) (fun _ _ _ h => h) (Or.inl ⟨by rfl, ?_⟩) ?_ ?_
  rotate_left
  · intro w'
    go_simp
    with_reducible rfl
  rotate_left
  · simp only [Act.put, List.setIfInBounds_toArray, List.set_cons_zero, List.set_cons_succ, i64_w, i32_w]
    rfl
  refine done_ (done_of HT_.out (by kernel_rfl)) ?_
  go_wp2
  go_ret
  exact ⟨rfl, qB⟩

/-- Good by hints, as the program tells it. -/
theorem last_good {least most base inc n m : Int} {ok : Bool} (hi : 1 ≤ inc) (e : lastR least most base inc n = (m, ok)) : (ok = true ∧ m = n) ↔ El least most base inc n := by
  constructor
  · rintro ⟨rfl, hm⟩
    obtain ⟨a, b, c⟩ := (last_r e).1 rfl
    have := (last_yes hi a b).1
    rw [← c, hm] at this
    exact this
  · intro h
    have : ok = true := by
      cases ok
      · have := last_no hi ((last_r e).2 rfl) n h; omega
      · rfl
    subst this
    obtain ⟨a, b, c⟩ := (last_r e).1 rfl
    obtain ⟨d1, d2, d3⟩ := last_yes hi a b
    have := d3 n h (Int.le_refl _)
    exact ⟨rfl, by omega⟩
set_option maxHeartbeats 8000000 in
set_option maxRecDepth 100000 in
theorem c_good_no (h : Hn) (x y : Int) (hno : normal h ≠ h ∨ 65535 < x ∨ 65535 < y) (W : World) : Calls Try.prog 17 #[.agg #[.int .i64 h.minW, .int .i64 h.minH, .int .i64 h.maxW, .int .i64 h.maxH, .int .i64 h.baseW, .int .i64 h.baseH, .int .i64 h.incW, .int .i64 h.incH, .int .i64 h.lowX, .int .i64 h.lowY, .int .i64 h.highX, .int .i64 h.highY], .int .i64 x, .int .i64 y] W fun e w' => e = .returned (.bool false) ∧ Below W.heap.size W w' := by
  obtain ⟨N, hN⟩ : ∃ n, n = normal h := ⟨_, rfl⟩
  have KN := c_normal h
  rw [← hN] at KN hno
  replace KN := Aside0.mk KN
  have hE : eq12 h.minW h.minH h.maxW h.maxH h.baseW h.baseH h.incW h.incH h.lowX h.lowY h.highX h.highY N.minW N.minH N.maxW N.maxH N.baseW N.baseH N.incW N.incH N.lowX N.lowY N.highX N.highY = true ↔ h = N := eq12_true
  obtain ⟨bq, hbq⟩ : ∃ b, eq12 h.minW h.minH h.maxW h.maxH h.baseW h.baseH h.incW h.incH h.lowX h.lowY h.highX h.highY N.minW N.minH N.maxW N.maxH N.baseW N.baseH N.incW N.incH N.lowX N.lowY N.highX N.highY = b := ⟨_, rfl⟩
  rw [hbq] at hE
  have hno2 : bq = false ∨ (bq = true ∧ 65535 < x) ∨ (bq = true ∧ x ≤ 65535 ∧ 65535 < y) := by
    cases bq
    · exact Or.inl rfl
    · have := hE.1 rfl
      rcases hno with q | q | q
      · exact absurd this.symm q
      · exact Or.inr (Or.inl ⟨rfl, q⟩)
      · by_cases c : 65535 < x
        · exact Or.inr (Or.inl ⟨rfl, c⟩)
        · exact Or.inr (Or.inr ⟨rfl, by omega, q⟩)
  clear hno hE hN
  go_enter Try.func17, Try.ntmps17
  go_wp2_with fail
  have qB := below_alloc (Below.refl W.heap.size W) (.cells #[.int .i64 h.minW, .int .i64 h.minH, .int .i64 h.maxW, .int .i64 h.maxH, .int .i64 h.baseW, .int .i64 h.baseH, .int .i64 h.incW, .int .i64 h.incH, .int .i64 h.lowX, .int .i64 h.lowY, .int .i64 h.highX, .int .i64 h.highY] 23 (0, 0))
  have B1 := Aside0.mk (blk_new W (.cells #[.int .i64 h.minW, .int .i64 h.minH, .int .i64 h.maxW, .int .i64 h.maxH, .int .i64 h.baseW, .int .i64 h.baseH, .int .i64 h.incW, .int .i64 h.incH, .int .i64 h.lowX, .int .i64 h.lowY, .int .i64 h.highX, .int .i64 h.highY] 23 (0, 0)))
  generalize hw2 : W.alloc (.cells #[.int .i64 h.minW, .int .i64 h.minH, .int .i64 h.maxW, .int .i64 h.maxH, .int .i64 h.baseW, .int .i64 h.baseH, .int .i64 h.incW, .int .i64 h.incH, .int .i64 h.lowX, .int .i64 h.lowY, .int .i64 h.highX, .int .i64 h.highY] 23 (0, 0)) = w2 at qB B1 ⊢
  have p0 : w2.cell? ⟨W.heap.size, 0, none⟩ = some (.int .i64 (h.minW)) := (blk_cell B1.out 0).trans rfl
  have p1 : w2.cell? ⟨W.heap.size, 1, none⟩ = some (.int .i64 (h.minH)) := (blk_cell B1.out 1).trans rfl
  have p2 : w2.cell? ⟨W.heap.size, 2, none⟩ = some (.int .i64 (h.maxW)) := (blk_cell B1.out 2).trans rfl
  have p3 : w2.cell? ⟨W.heap.size, 3, none⟩ = some (.int .i64 (h.maxH)) := (blk_cell B1.out 3).trans rfl
  have p4 : w2.cell? ⟨W.heap.size, 4, none⟩ = some (.int .i64 (h.baseW)) := (blk_cell B1.out 4).trans rfl
  have p5 : w2.cell? ⟨W.heap.size, 5, none⟩ = some (.int .i64 (h.baseH)) := (blk_cell B1.out 5).trans rfl
  have p6 : w2.cell? ⟨W.heap.size, 6, none⟩ = some (.int .i64 (h.incW)) := (blk_cell B1.out 6).trans rfl
  have p7 : w2.cell? ⟨W.heap.size, 7, none⟩ = some (.int .i64 (h.incH)) := (blk_cell B1.out 7).trans rfl
  have p8 : w2.cell? ⟨W.heap.size, 8, none⟩ = some (.int .i64 (h.lowX)) := (blk_cell B1.out 8).trans rfl
  have p9 : w2.cell? ⟨W.heap.size, 9, none⟩ = some (.int .i64 (h.lowY)) := (blk_cell B1.out 9).trans rfl
  have p10 : w2.cell? ⟨W.heap.size, 10, none⟩ = some (.int .i64 (h.highX)) := (blk_cell B1.out 10).trans rfl
  have p11 : w2.cell? ⟨W.heap.size, 11, none⟩ = some (.int .i64 (h.highY)) := (blk_cell B1.out 11).trans rfl
  clear B1 hw2
  rcases hno2 with rfl | ⟨rfl, c⟩ | ⟨rfl, c, d⟩
  · skip
    refine start_ (n := 12) (S := fun w' => w'.cell? ⟨W.heap.size, 0, none⟩ = some (.int .i64 h.minW) ∧ w'.cell? ⟨W.heap.size, 1, none⟩ = some (.int .i64 h.minH) ∧ w'.cell? ⟨W.heap.size, 2, none⟩ = some (.int .i64 h.maxW) ∧ w'.cell? ⟨W.heap.size, 3, none⟩ = some (.int .i64 h.maxH) ∧ w'.cell? ⟨W.heap.size, 4, none⟩ = some (.int .i64 h.baseW) ∧ w'.cell? ⟨W.heap.size, 5, none⟩ = some (.int .i64 h.baseH) ∧ w'.cell? ⟨W.heap.size, 6, none⟩ = some (.int .i64 h.incW) ∧ w'.cell? ⟨W.heap.size, 7, none⟩ = some (.int .i64 h.incH) ∧ w'.cell? ⟨W.heap.size, 8, none⟩ = some (.int .i64 h.lowX) ∧ w'.cell? ⟨W.heap.size, 9, none⟩ = some (.int .i64 h.lowY) ∧ w'.cell? ⟨W.heap.size, 10, none⟩ = some (.int .i64 h.highX) ∧ w'.cell? ⟨W.heap.size, 11, none⟩ = some (.int .i64 h.highY)) (ds := []) #[false, false, false, false, false, false, false, false, false, false, false, false] (by kernel_rfl) rfl rfl ⟨p0, p1, p2, p3, p4, p5, p6, p7, p8, p9, p10, p11⟩ (fun hHeld => ?_)
    refine with_tabW SzGT.tab1 SzGT.bits1 (fun HT_ HW_ => ?_)
    have qB0 := below_drew qB
    clear qB
    have qB := qB0
    clear qB0
    generalize w2.drew = wr at qB hHeld ⊢
    refine take_ (i := 0) (N := some 11) (v := ?_) (a' := ?_) #[true, false, false, false, false, false, false, false, false, false, false, false] rfl rfl (take_ofW HT_.out HW_.out (by kernel_rfl)) (fun _ _ _ h => h) (Or.inl ⟨by rfl, ?_⟩) hHeld ?_ ?_
    rotate_left
    · rintro w' ⟨s0, s1, s2, s3, s4, s5, s6, s7, s8, s9, s10, s11⟩
      go_simp
      with_reducible rfl
    rotate_left
    · simp only [Act.put, List.setIfInBounds_toArray, List.set_cons_zero, List.set_cons_succ, i64_w, i32_w]
      rfl
    refine take_ (i := 1) (N := some 12) (v := ?_) (a' := ?_) #[true, true, false, false, false, false, false, false, false, false, false, false] rfl rfl (take_ofW HT_.out HW_.out (by kernel_rfl)) (fun _ _ _ h => h) (Or.inl ⟨by rfl, ?_⟩) hHeld ?_ ?_
    rotate_left
    · rintro w' ⟨s0, s1, s2, s3, s4, s5, s6, s7, s8, s9, s10, s11⟩
      go_simp
      with_reducible rfl
    rotate_left
    · simp only [Act.put, List.setIfInBounds_toArray, List.set_cons_zero, List.set_cons_succ, i64_w, i32_w]
      rfl
    refine one_ (i := 2) (N := some 13) #[true, true, true, false, false, false, false, false, false, false, false, false] rfl rfl (one_of HT_.out (by kernel_rfl)) (by decide) (fun K hK => ?_)
    refine goes_ Try.func10 (by kernel_rfl) rfl #[.agg #[.int .i64 h.minW, .int .i64 h.minH, .int .i64 h.maxW, .int .i64 h.maxH, .int .i64 h.baseW, .int .i64 h.baseH, .int .i64 h.incW, .int .i64 h.incH, .int .i64 h.lowX, .int .i64 h.lowY, .int .i64 h.highX, .int .i64 h.highY]] (by rfl) rfl rfl (by (try simp only [List.map_toArray, List.map_cons, List.map_nil]); first | done | rfl) ?_
    refine (KN.out _).mono ?_
    rintro e wn ⟨rfl, hb⟩
    refine ⟨_, rfl, ?_⟩
    obtain ⟨s0, s1, s2, s3, s4, s5, s6, s7, s8, s9, s10, s11⟩ := hHeld
    replace s0 := cell_held hb s0
    replace s1 := cell_held hb s1
    replace s2 := cell_held hb s2
    replace s3 := cell_held hb s3
    replace s4 := cell_held hb s4
    replace s5 := cell_held hb s5
    replace s6 := cell_held hb s6
    replace s7 := cell_held hb s7
    replace s8 := cell_held hb s8
    replace s9 := cell_held hb s9
    replace s10 := cell_held hb s10
    replace s11 := cell_held hb s11
    replace qB := below_step (w := W) qB hb
    clear hb
    refine hK.out _ _ ⟨s0, s1, s2, s3, s4, s5, s6, s7, s8, s9, s10, s11⟩ (fun hHeld => ?_)
    clear hK K s0 s1 s2 s3 s4 s5 s6 s7 s8 s9 s10 s11
    refine norm_ (a' := ?_) ?_ ?_
    rotate_left
    · show Act.put _ (some 13) _ = _
      simp only [Act.put, List.setIfInBounds_toArray, List.set_cons_zero, List.set_cons_succ, i64_w, i32_w]
      rfl
    refine pure_ (i := 3) (N := some 14) (v := ?_) (a' := ?_) #[true, true, true, true, false, false, false, false, false, false, false, false] rfl rfl (any_of HT_.out (by kernel_rfl)) (fun _ _ _ h => h) (Or.inl ⟨by rfl, ?_⟩) ?_ ?_
    rotate_left
    · intro w'
      go_simp
      with_reducible rfl
    rotate_left
    · simp only [Act.put, List.setIfInBounds_toArray, List.set_cons_zero, List.set_cons_succ, i64_w, i32_w]
      rfl
    refine pure_ (i := 4) (N := some 15) (v := ?_) (a' := ?_) #[true, true, true, true, true, false, false, false, false, false, false, false] rfl rfl (any_of HT_.out (by kernel_rfl)) (fun _ _ _ h => h) (Or.inl ⟨by rfl, ?_⟩) ?_ ?_
    rotate_left
    · intro w'
      go_simp
      with_reducible rfl
    rotate_left
    · simp only [Act.put, List.setIfInBounds_toArray, List.set_cons_zero, List.set_cons_succ, i64_w, i32_w]
      rfl
    refine pure_ (i := 5) (N := some 16) (v := undef) (a' := ?_) #[true, true, true, true, true, true, false, false, false, false, false, false] rfl rfl (any_of HT_.out (by kernel_rfl)) (fun _ _ _ h => h) (Or.inr ⟨by rfl, rfl⟩) ?_ ?_
    rotate_left
    · simp only [Act.put, List.setIfInBounds_toArray, List.set_cons_zero, List.set_cons_succ, i64_w, i32_w]
      rfl
    refine pure_ (i := 6) (N := some 17) (v := undef) (a' := ?_) #[true, true, true, true, true, true, true, false, false, false, false, false] rfl rfl (any_of HT_.out (by kernel_rfl)) (fun _ _ _ h => h) (Or.inr ⟨by rfl, rfl⟩) ?_ ?_
    rotate_left
    · simp only [Act.put, List.setIfInBounds_toArray, List.set_cons_zero, List.set_cons_succ, i64_w, i32_w]
      rfl
    refine pure_ (i := 7) (N := some 18) (v := ?_) (a' := ?_) #[true, true, true, true, true, true, true, true, false, false, false, false] rfl rfl (any_of HT_.out (by kernel_rfl)) (fun _ _ _ h => h) (Or.inl ⟨by rfl, ?_⟩) ?_ ?_
    rotate_left
    · intro w'
      go_simp
      with_reducible rfl
    rotate_left
    · simp only [Act.put, List.setIfInBounds_toArray, List.set_cons_zero, List.set_cons_succ, i64_w, i32_w]
      rfl
    refine pure_ (i := 8) (N := some 19) (v := ?_) (a' := ?_) #[true, true, true, true, true, true, true, true, true, false, false, false] rfl rfl (any_of HT_.out (by kernel_rfl)) (fun _ _ _ h => h) (Or.inl ⟨by rfl, ?_⟩) ?_ ?_
    rotate_left
    · intro w'
      go_simp
      with_reducible rfl
    rotate_left
    · simp only [Act.put, List.setIfInBounds_toArray, List.set_cons_zero, List.set_cons_succ, i64_w, i32_w]
      rfl
    refine pure_ (i := 9) (N := some 20) (v := undef) (a' := ?_) #[true, true, true, true, true, true, true, true, true, true, false, false] rfl rfl (any_of HT_.out (by kernel_rfl)) (fun _ _ _ h => h) (Or.inr ⟨by rfl, rfl⟩) ?_ ?_
    rotate_left
    · simp only [Act.put, List.setIfInBounds_toArray, List.set_cons_zero, List.set_cons_succ, i64_w, i32_w]
      rfl
    refine pure_ (i := 10) (N := some 21) (v := undef) (a' := ?_) #[true, true, true, true, true, true, true, true, true, true, true, false] rfl rfl (any_of HT_.out (by kernel_rfl)) (fun _ _ _ h => h) (Or.inr ⟨by rfl, rfl⟩) ?_ ?_
    rotate_left
    · simp only [Act.put, List.setIfInBounds_toArray, List.set_cons_zero, List.set_cons_succ, i64_w, i32_w]
      rfl
    refine pure_ (i := 11) (N := some 22) (v := ?_) (a' := ?_) #[true, true, true, true, true, true, true, true, true, true, true, true] rfl rfl (any_of HT_.out (by kernel_rfl)) (fun _ _ _ h => h) (Or.inl ⟨by rfl, ?_⟩) ?_ ?_
    rotate_left
    · intro w'
      go_simp
      with_reducible rfl
    rotate_left
    · simp only [Act.put, List.setIfInBounds_toArray, List.set_cons_zero, List.set_cons_succ, i64_w, i32_w]
      rfl
    refine done_ (done_of HT_.out (by kernel_rfl)) ?_
    go_wp2
    go_ret
    exact ⟨rfl, qB⟩
  · have c1 : decide (65535 < x) = true := decide_eq_true c
    refine start_ (n := 12) (S := fun w' => w'.cell? ⟨W.heap.size, 0, none⟩ = some (.int .i64 h.minW) ∧ w'.cell? ⟨W.heap.size, 1, none⟩ = some (.int .i64 h.minH) ∧ w'.cell? ⟨W.heap.size, 2, none⟩ = some (.int .i64 h.maxW) ∧ w'.cell? ⟨W.heap.size, 3, none⟩ = some (.int .i64 h.maxH) ∧ w'.cell? ⟨W.heap.size, 4, none⟩ = some (.int .i64 h.baseW) ∧ w'.cell? ⟨W.heap.size, 5, none⟩ = some (.int .i64 h.baseH) ∧ w'.cell? ⟨W.heap.size, 6, none⟩ = some (.int .i64 h.incW) ∧ w'.cell? ⟨W.heap.size, 7, none⟩ = some (.int .i64 h.incH) ∧ w'.cell? ⟨W.heap.size, 8, none⟩ = some (.int .i64 h.lowX) ∧ w'.cell? ⟨W.heap.size, 9, none⟩ = some (.int .i64 h.lowY) ∧ w'.cell? ⟨W.heap.size, 10, none⟩ = some (.int .i64 h.highX) ∧ w'.cell? ⟨W.heap.size, 11, none⟩ = some (.int .i64 h.highY)) (ds := []) #[false, false, false, false, false, false, false, false, false, false, false, false] (by kernel_rfl) rfl rfl ⟨p0, p1, p2, p3, p4, p5, p6, p7, p8, p9, p10, p11⟩ (fun hHeld => ?_)
    refine with_tabW SzGT.tab1 SzGT.bits1 (fun HT_ HW_ => ?_)
    have qB0 := below_drew qB
    clear qB
    have qB := qB0
    clear qB0
    generalize w2.drew = wr at qB hHeld ⊢
    refine take_ (i := 0) (N := some 11) (v := ?_) (a' := ?_) #[true, false, false, false, false, false, false, false, false, false, false, false] rfl rfl (take_ofW HT_.out HW_.out (by kernel_rfl)) (fun _ _ _ h => h) (Or.inl ⟨by rfl, ?_⟩) hHeld ?_ ?_
    rotate_left
    · rintro w' ⟨s0, s1, s2, s3, s4, s5, s6, s7, s8, s9, s10, s11⟩
      go_simp
      with_reducible rfl
    rotate_left
    · simp only [Act.put, List.setIfInBounds_toArray, List.set_cons_zero, List.set_cons_succ, i64_w, i32_w]
      rfl
    refine take_ (i := 1) (N := some 12) (v := ?_) (a' := ?_) #[true, true, false, false, false, false, false, false, false, false, false, false] rfl rfl (take_ofW HT_.out HW_.out (by kernel_rfl)) (fun _ _ _ h => h) (Or.inl ⟨by rfl, ?_⟩) hHeld ?_ ?_
    rotate_left
    · rintro w' ⟨s0, s1, s2, s3, s4, s5, s6, s7, s8, s9, s10, s11⟩
      go_simp
      with_reducible rfl
    rotate_left
    · simp only [Act.put, List.setIfInBounds_toArray, List.set_cons_zero, List.set_cons_succ, i64_w, i32_w]
      rfl
    refine one_ (i := 2) (N := some 13) #[true, true, true, false, false, false, false, false, false, false, false, false] rfl rfl (one_of HT_.out (by kernel_rfl)) (by decide) (fun K hK => ?_)
    refine goes_ Try.func10 (by kernel_rfl) rfl #[.agg #[.int .i64 h.minW, .int .i64 h.minH, .int .i64 h.maxW, .int .i64 h.maxH, .int .i64 h.baseW, .int .i64 h.baseH, .int .i64 h.incW, .int .i64 h.incH, .int .i64 h.lowX, .int .i64 h.lowY, .int .i64 h.highX, .int .i64 h.highY]] (by rfl) rfl rfl (by (try simp only [List.map_toArray, List.map_cons, List.map_nil]); first | done | rfl) ?_
    refine (KN.out _).mono ?_
    rintro e wn ⟨rfl, hb⟩
    refine ⟨_, rfl, ?_⟩
    obtain ⟨s0, s1, s2, s3, s4, s5, s6, s7, s8, s9, s10, s11⟩ := hHeld
    replace s0 := cell_held hb s0
    replace s1 := cell_held hb s1
    replace s2 := cell_held hb s2
    replace s3 := cell_held hb s3
    replace s4 := cell_held hb s4
    replace s5 := cell_held hb s5
    replace s6 := cell_held hb s6
    replace s7 := cell_held hb s7
    replace s8 := cell_held hb s8
    replace s9 := cell_held hb s9
    replace s10 := cell_held hb s10
    replace s11 := cell_held hb s11
    replace qB := below_step (w := W) qB hb
    clear hb
    refine hK.out _ _ ⟨s0, s1, s2, s3, s4, s5, s6, s7, s8, s9, s10, s11⟩ (fun hHeld => ?_)
    clear hK K s0 s1 s2 s3 s4 s5 s6 s7 s8 s9 s10 s11
    refine norm_ (a' := ?_) ?_ ?_
    rotate_left
    · show Act.put _ (some 13) _ = _
      simp only [Act.put, List.setIfInBounds_toArray, List.set_cons_zero, List.set_cons_succ, i64_w, i32_w]
      rfl
    refine pure_ (i := 3) (N := some 14) (v := ?_) (a' := ?_) #[true, true, true, true, false, false, false, false, false, false, false, false] rfl rfl (any_of HT_.out (by kernel_rfl)) (fun _ _ _ h => h) (Or.inl ⟨by rfl, ?_⟩) ?_ ?_
    rotate_left
    · intro w'
      go_simp
      with_reducible rfl
    rotate_left
    · simp only [Act.put, List.setIfInBounds_toArray, List.set_cons_zero, List.set_cons_succ, i64_w, i32_w]
      rfl
    refine pure_ (i := 4) (N := some 15) (v := ?_) (a' := ?_) #[true, true, true, true, true, false, false, false, false, false, false, false] rfl rfl (any_of HT_.out (by kernel_rfl)) (fun _ _ _ h => h) (Or.inl ⟨by rfl, ?_⟩) ?_ ?_
    rotate_left
    · intro w'
      go_simp
      with_reducible rfl
    rotate_left
    · simp only [Act.put, List.setIfInBounds_toArray, List.set_cons_zero, List.set_cons_succ, i64_w, i32_w]
      rfl
    refine pure_ (i := 5) (N := some 16) (v := ?_) (a' := ?_) #[true, true, true, true, true, true, false, false, false, false, false, false] rfl rfl (any_of HT_.out (by kernel_rfl)) (fun _ _ _ h => h) (Or.inl ⟨by rfl, ?_⟩) ?_ ?_
    rotate_left
    · intro w'
      go_simp
      with_reducible rfl
    rotate_left
    · simp only [Act.put, List.setIfInBounds_toArray, List.set_cons_zero, List.set_cons_succ, i64_w, i32_w]
      rfl
    refine pure_ (i := 6) (N := some 17) (v := ?_) (a' := ?_) #[true, true, true, true, true, true, true, false, false, false, false, false] rfl rfl (any_of HT_.out (by kernel_rfl)) (fun _ _ _ h => h) (Or.inl ⟨by rfl, ?_⟩) ?_ ?_
    rotate_left
    · intro w'
      go_simp
      with_reducible rfl
    rotate_left
    · simp only [Act.put, List.setIfInBounds_toArray, List.set_cons_zero, List.set_cons_succ, i64_w, i32_w]
      rfl
    refine pure_ (i := 7) (N := some 18) (v := ?_) (a' := ?_) #[true, true, true, true, true, true, true, true, false, false, false, false] rfl rfl (any_of HT_.out (by kernel_rfl)) (fun _ _ _ h => h) (Or.inl ⟨by rfl, ?_⟩) ?_ ?_
    rotate_left
    · intro w'
      go_simp
      with_reducible rfl
    rotate_left
    · simp only [Act.put, List.setIfInBounds_toArray, List.set_cons_zero, List.set_cons_succ, i64_w, i32_w]
      rfl
    refine pure_ (i := 8) (N := some 19) (v := ?_) (a' := ?_) #[true, true, true, true, true, true, true, true, true, false, false, false] rfl rfl (any_of HT_.out (by kernel_rfl)) (fun _ _ _ h => h) (Or.inl ⟨by rfl, ?_⟩) ?_ ?_
    rotate_left
    · intro w'
      go_simp
      with_reducible rfl
    rotate_left
    · simp only [Act.put, List.setIfInBounds_toArray, List.set_cons_zero, List.set_cons_succ, i64_w, i32_w]
      rfl
    refine pure_ (i := 9) (N := some 20) (v := undef) (a' := ?_) #[true, true, true, true, true, true, true, true, true, true, false, false] rfl rfl (any_of HT_.out (by kernel_rfl)) (fun _ _ _ h => h) (Or.inr ⟨by rfl, rfl⟩) ?_ ?_
    rotate_left
    · simp only [Act.put, List.setIfInBounds_toArray, List.set_cons_zero, List.set_cons_succ, i64_w, i32_w]
      rfl
    refine pure_ (i := 10) (N := some 21) (v := undef) (a' := ?_) #[true, true, true, true, true, true, true, true, true, true, true, false] rfl rfl (any_of HT_.out (by kernel_rfl)) (fun _ _ _ h => h) (Or.inr ⟨by rfl, rfl⟩) ?_ ?_
    rotate_left
    · simp only [Act.put, List.setIfInBounds_toArray, List.set_cons_zero, List.set_cons_succ, i64_w, i32_w]
      rfl
    refine pure_ (i := 11) (N := some 22) (v := ?_) (a' := ?_) #[true, true, true, true, true, true, true, true, true, true, true, true] rfl rfl (any_of HT_.out (by kernel_rfl)) (fun _ _ _ h => h) (Or.inl ⟨by rfl, ?_⟩) ?_ ?_
    rotate_left
    · intro w'
      go_simp
      with_reducible rfl
    rotate_left
    · simp only [Act.put, List.setIfInBounds_toArray, List.set_cons_zero, List.set_cons_succ, i64_w, i32_w]
      rfl
    refine done_ (done_of HT_.out (by kernel_rfl)) ?_
    go_wp2
    go_ret
    exact ⟨rfl, qB⟩
  · have c1 : decide (65535 < x) = false := decide_eq_false (by omega)
    have c2 : decide (65535 < y) = true := decide_eq_true d
    refine start_ (n := 12) (S := fun w' => w'.cell? ⟨W.heap.size, 0, none⟩ = some (.int .i64 h.minW) ∧ w'.cell? ⟨W.heap.size, 1, none⟩ = some (.int .i64 h.minH) ∧ w'.cell? ⟨W.heap.size, 2, none⟩ = some (.int .i64 h.maxW) ∧ w'.cell? ⟨W.heap.size, 3, none⟩ = some (.int .i64 h.maxH) ∧ w'.cell? ⟨W.heap.size, 4, none⟩ = some (.int .i64 h.baseW) ∧ w'.cell? ⟨W.heap.size, 5, none⟩ = some (.int .i64 h.baseH) ∧ w'.cell? ⟨W.heap.size, 6, none⟩ = some (.int .i64 h.incW) ∧ w'.cell? ⟨W.heap.size, 7, none⟩ = some (.int .i64 h.incH) ∧ w'.cell? ⟨W.heap.size, 8, none⟩ = some (.int .i64 h.lowX) ∧ w'.cell? ⟨W.heap.size, 9, none⟩ = some (.int .i64 h.lowY) ∧ w'.cell? ⟨W.heap.size, 10, none⟩ = some (.int .i64 h.highX) ∧ w'.cell? ⟨W.heap.size, 11, none⟩ = some (.int .i64 h.highY)) (ds := []) #[false, false, false, false, false, false, false, false, false, false, false, false] (by kernel_rfl) rfl rfl ⟨p0, p1, p2, p3, p4, p5, p6, p7, p8, p9, p10, p11⟩ (fun hHeld => ?_)
    refine with_tabW SzGT.tab1 SzGT.bits1 (fun HT_ HW_ => ?_)
    have qB0 := below_drew qB
    clear qB
    have qB := qB0
    clear qB0
    generalize w2.drew = wr at qB hHeld ⊢
    refine take_ (i := 0) (N := some 11) (v := ?_) (a' := ?_) #[true, false, false, false, false, false, false, false, false, false, false, false] rfl rfl (take_ofW HT_.out HW_.out (by kernel_rfl)) (fun _ _ _ h => h) (Or.inl ⟨by rfl, ?_⟩) hHeld ?_ ?_
    rotate_left
    · rintro w' ⟨s0, s1, s2, s3, s4, s5, s6, s7, s8, s9, s10, s11⟩
      go_simp
      with_reducible rfl
    rotate_left
    · simp only [Act.put, List.setIfInBounds_toArray, List.set_cons_zero, List.set_cons_succ, i64_w, i32_w]
      rfl
    refine take_ (i := 1) (N := some 12) (v := ?_) (a' := ?_) #[true, true, false, false, false, false, false, false, false, false, false, false] rfl rfl (take_ofW HT_.out HW_.out (by kernel_rfl)) (fun _ _ _ h => h) (Or.inl ⟨by rfl, ?_⟩) hHeld ?_ ?_
    rotate_left
    · rintro w' ⟨s0, s1, s2, s3, s4, s5, s6, s7, s8, s9, s10, s11⟩
      go_simp
      with_reducible rfl
    rotate_left
    · simp only [Act.put, List.setIfInBounds_toArray, List.set_cons_zero, List.set_cons_succ, i64_w, i32_w]
      rfl
    refine one_ (i := 2) (N := some 13) #[true, true, true, false, false, false, false, false, false, false, false, false] rfl rfl (one_of HT_.out (by kernel_rfl)) (by decide) (fun K hK => ?_)
    refine goes_ Try.func10 (by kernel_rfl) rfl #[.agg #[.int .i64 h.minW, .int .i64 h.minH, .int .i64 h.maxW, .int .i64 h.maxH, .int .i64 h.baseW, .int .i64 h.baseH, .int .i64 h.incW, .int .i64 h.incH, .int .i64 h.lowX, .int .i64 h.lowY, .int .i64 h.highX, .int .i64 h.highY]] (by rfl) rfl rfl (by (try simp only [List.map_toArray, List.map_cons, List.map_nil]); first | done | rfl) ?_
    refine (KN.out _).mono ?_
    rintro e wn ⟨rfl, hb⟩
    refine ⟨_, rfl, ?_⟩
    obtain ⟨s0, s1, s2, s3, s4, s5, s6, s7, s8, s9, s10, s11⟩ := hHeld
    replace s0 := cell_held hb s0
    replace s1 := cell_held hb s1
    replace s2 := cell_held hb s2
    replace s3 := cell_held hb s3
    replace s4 := cell_held hb s4
    replace s5 := cell_held hb s5
    replace s6 := cell_held hb s6
    replace s7 := cell_held hb s7
    replace s8 := cell_held hb s8
    replace s9 := cell_held hb s9
    replace s10 := cell_held hb s10
    replace s11 := cell_held hb s11
    replace qB := below_step (w := W) qB hb
    clear hb
    refine hK.out _ _ ⟨s0, s1, s2, s3, s4, s5, s6, s7, s8, s9, s10, s11⟩ (fun hHeld => ?_)
    clear hK K s0 s1 s2 s3 s4 s5 s6 s7 s8 s9 s10 s11
    refine norm_ (a' := ?_) ?_ ?_
    rotate_left
    · show Act.put _ (some 13) _ = _
      simp only [Act.put, List.setIfInBounds_toArray, List.set_cons_zero, List.set_cons_succ, i64_w, i32_w]
      rfl
    refine pure_ (i := 3) (N := some 14) (v := ?_) (a' := ?_) #[true, true, true, true, false, false, false, false, false, false, false, false] rfl rfl (any_of HT_.out (by kernel_rfl)) (fun _ _ _ h => h) (Or.inl ⟨by rfl, ?_⟩) ?_ ?_
    rotate_left
    · intro w'
      go_simp
      with_reducible rfl
    rotate_left
    · simp only [Act.put, List.setIfInBounds_toArray, List.set_cons_zero, List.set_cons_succ, i64_w, i32_w]
      rfl
    refine pure_ (i := 4) (N := some 15) (v := ?_) (a' := ?_) #[true, true, true, true, true, false, false, false, false, false, false, false] rfl rfl (any_of HT_.out (by kernel_rfl)) (fun _ _ _ h => h) (Or.inl ⟨by rfl, ?_⟩) ?_ ?_
    rotate_left
    · intro w'
      go_simp
      with_reducible rfl
    rotate_left
    · simp only [Act.put, List.setIfInBounds_toArray, List.set_cons_zero, List.set_cons_succ, i64_w, i32_w]
      rfl
    refine pure_ (i := 5) (N := some 16) (v := ?_) (a' := ?_) #[true, true, true, true, true, true, false, false, false, false, false, false] rfl rfl (any_of HT_.out (by kernel_rfl)) (fun _ _ _ h => h) (Or.inl ⟨by rfl, ?_⟩) ?_ ?_
    rotate_left
    · intro w'
      go_simp
      with_reducible rfl
    rotate_left
    · simp only [Act.put, List.setIfInBounds_toArray, List.set_cons_zero, List.set_cons_succ, i64_w, i32_w]
      rfl
    refine pure_ (i := 6) (N := some 17) (v := ?_) (a' := ?_) #[true, true, true, true, true, true, true, false, false, false, false, false] rfl rfl (any_of HT_.out (by kernel_rfl)) (fun _ _ _ h => h) (Or.inl ⟨by rfl, ?_⟩) ?_ ?_
    rotate_left
    · intro w'
      go_simp
      with_reducible rfl
    rotate_left
    · simp only [Act.put, List.setIfInBounds_toArray, List.set_cons_zero, List.set_cons_succ, i64_w, i32_w]
      rfl
    refine pure_ (i := 7) (N := some 18) (v := ?_) (a' := ?_) #[true, true, true, true, true, true, true, true, false, false, false, false] rfl rfl (any_of HT_.out (by kernel_rfl)) (fun _ _ _ h => h) (Or.inl ⟨by rfl, ?_⟩) ?_ ?_
    rotate_left
    · intro w'
      go_simp
      with_reducible rfl
    rotate_left
    · simp only [Act.put, List.setIfInBounds_toArray, List.set_cons_zero, List.set_cons_succ, i64_w, i32_w]
      rfl
    refine pure_ (i := 8) (N := some 19) (v := ?_) (a' := ?_) #[true, true, true, true, true, true, true, true, true, false, false, false] rfl rfl (any_of HT_.out (by kernel_rfl)) (fun _ _ _ h => h) (Or.inl ⟨by rfl, ?_⟩) ?_ ?_
    rotate_left
    · intro w'
      go_simp
      with_reducible rfl
    rotate_left
    · simp only [Act.put, List.setIfInBounds_toArray, List.set_cons_zero, List.set_cons_succ, i64_w, i32_w]
      rfl
    refine pure_ (i := 9) (N := some 20) (v := ?_) (a' := ?_) #[true, true, true, true, true, true, true, true, true, true, false, false] rfl rfl (any_of HT_.out (by kernel_rfl)) (fun _ _ _ h => h) (Or.inl ⟨by rfl, ?_⟩) ?_ ?_
    rotate_left
    · intro w'
      go_simp
      with_reducible rfl
    rotate_left
    · simp only [Act.put, List.setIfInBounds_toArray, List.set_cons_zero, List.set_cons_succ, i64_w, i32_w]
      rfl
    refine pure_ (i := 10) (N := some 21) (v := ?_) (a' := ?_) #[true, true, true, true, true, true, true, true, true, true, true, false] rfl rfl (any_of HT_.out (by kernel_rfl)) (fun _ _ _ h => h) (Or.inl ⟨by rfl, ?_⟩) ?_ ?_
    rotate_left
    · intro w'
      go_simp
      with_reducible rfl
    rotate_left
    · simp only [Act.put, List.setIfInBounds_toArray, List.set_cons_zero, List.set_cons_succ, i64_w, i32_w]
      rfl
    refine pure_ (i := 11) (N := some 22) (v := ?_) (a' := ?_) #[true, true, true, true, true, true, true, true, true, true, true, true] rfl rfl (any_of HT_.out (by kernel_rfl)) (fun _ _ _ h => h) (Or.inl ⟨by rfl, ?_⟩) ?_ ?_
    rotate_left
    · intro w'
      go_simp
      with_reducible rfl
    rotate_left
    · simp only [Act.put, List.setIfInBounds_toArray, List.set_cons_zero, List.set_cons_succ, i64_w, i32_w]
      rfl
    refine done_ (done_of HT_.out (by kernel_rfl)) ?_
    go_wp2
    go_ret
    exact ⟨rfl, qB⟩
theorem SizeNormals_law (a0_0 : Int) (a0_1 : Int) (a0_2 : Int) (a0_3 : Int) (a0_4 : Int) (a0_5 : Int) (a0_6 : Int) (a0_7 : Int) (a0_8 : Int) (a0_9 : Int) (a0_10 : Int) (a0_11 : Int) (W : World) (w0_0 : (Lit.int .i64 a0_0).wf = true) (w0_1 : (Lit.int .i64 a0_1).wf = true) (w0_2 : (Lit.int .i64 a0_2).wf = true) (w0_3 : (Lit.int .i64 a0_3).wf = true) (w0_4 : (Lit.int .i64 a0_4).wf = true) (w0_5 : (Lit.int .i64 a0_5).wf = true) (w0_6 : (Lit.int .i64 a0_6).wf = true) (w0_7 : (Lit.int .i64 a0_7).wf = true) (w0_8 : (Lit.int .i64 a0_8).wf = true) (w0_9 : (Lit.int .i64 a0_9).wf = true) (w0_10 : (Lit.int .i64 a0_10).wf = true) (w0_11 : (Lit.int .i64 a0_11).wf = true)  :
    Calls Try.prog 3 #[.agg #[.int .i64 a0_0, .int .i64 a0_1, .int .i64 a0_2, .int .i64 a0_3, .int .i64 a0_4, .int .i64 a0_5, .int .i64 a0_6, .int .i64 a0_7, .int .i64 a0_8, .int .i64 a0_9, .int .i64 a0_10, .int .i64 a0_11]] W fun e w' => e = .returned (.bool true) ∧ Below W.heap.size W w' :=
  normals_any ⟨a0_0, a0_1, a0_2, a0_3, a0_4, a0_5, a0_6, a0_7, a0_8, a0_9, a0_10, a0_11⟩ W
end Go.Proofs.Ytokgigkdnmfknaa.Sz
