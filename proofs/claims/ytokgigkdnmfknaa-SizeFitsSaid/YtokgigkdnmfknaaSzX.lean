/- SizeStays and SizeNear: the laws' own functions answer true. -/
import Derived.Test.YtokgigkdnmfknaaSzW

namespace Go.Proofs.Ytokgigkdnmfknaa.Sz
open Go.RowKit Go.Proofs.YtokgigkdnmfknaaW.PrintMore Go.Proofs.YtokgigkdnmfknaaW.PrintWords Go.Proofs.YtokgigkdnmfknaaW.PrintLast Go.Proofs.Ytokgigkdnmfknaa.Geo
set_option linter.unusedVariables false
set_option linter.unusedSimpArgs false

set_option maxHeartbeats 8000000 in
set_option maxRecDepth 100000 in
theorem stays_any (h : Hn) (w t : Int) (W : World) : Calls Try.prog 4 #[.agg #[.int .i64 h.minW, .int .i64 h.minH, .int .i64 h.maxW, .int .i64 h.maxH, .int .i64 h.baseW, .int .i64 h.baseH, .int .i64 h.incW, .int .i64 h.incH, .int .i64 h.lowX, .int .i64 h.lowY, .int .i64 h.highX, .int .i64 h.highY], .int .i64 w, .int .i64 t] W fun e w' => e = .returned (.bool true) ∧ Below W.heap.size W w' := by
  obtain ⟨x, y, g, e⟩ := fit_good h w t
  have K1 := Aside0.mk (c_fit e)
  have K2 := Aside0.mk (c_fit (fit_stays e))
  have KN := Aside0.mk (c_rnormal h)
  have KG := c_rgood (normal_nrm h) w t
  have yes : goodB (normal h) w t = true → w = x ∧ t = y := fun q => by
    have := fit_of (goodB_true.1 q)
    rw [e] at this
    injection this with a b
    injection b with b c
    exact ⟨a.symm, b.symm⟩
  have no : goodB (normal h) w t = false → ¬ (x = w ∧ y = t) := fun q ⟨a, b⟩ => by
    subst a b
    exact goodB_false.1 q g
  obtain ⟨b, hb⟩ : ∃ b, goodB (normal h) w t = b := ⟨_, rfl⟩
  rw [hb] at KG yes no
  replace KG := Aside0.mk KG
  clear e g hb
  go_enter Try.func4, Try.ntmps4
  go_wp2_with fail
  refine (K1.out _).mono ?_
  rintro e w1 ⟨rfl, hb⟩
  have B3 := Aside0.mk (blk_below (blk_new W (.cells #[.int .i64 h.minW, .int .i64 h.minH, .int .i64 h.maxW, .int .i64 h.maxH, .int .i64 h.baseW, .int .i64 h.baseH, .int .i64 h.incW, .int .i64 h.incH, .int .i64 h.lowX, .int .i64 h.lowY, .int .i64 h.highX, .int .i64 h.highY] 23 (0, 0))) hb)
  have HB := Aside0.mk (below_step (below_alloc (Below.refl W.heap.size W) (.cells #[.int .i64 h.minW, .int .i64 h.minH, .int .i64 h.maxW, .int .i64 h.maxH, .int .i64 h.baseW, .int .i64 h.baseH, .int .i64 h.incW, .int .i64 h.incH, .int .i64 h.lowX, .int .i64 h.lowY, .int .i64 h.highX, .int .i64 h.highY] 23 (0, 0))) hb)
  clear hb
  have p0 : w1.cell? ⟨W.heap.size, 0, none⟩ = some (.int .i64 (h.minW)) := (blk_cell B3.out 0).trans rfl
  have p1 : w1.cell? ⟨W.heap.size, 1, none⟩ = some (.int .i64 (h.minH)) := (blk_cell B3.out 1).trans rfl
  have p2 : w1.cell? ⟨W.heap.size, 2, none⟩ = some (.int .i64 (h.maxW)) := (blk_cell B3.out 2).trans rfl
  have p3 : w1.cell? ⟨W.heap.size, 3, none⟩ = some (.int .i64 (h.maxH)) := (blk_cell B3.out 3).trans rfl
  have p4 : w1.cell? ⟨W.heap.size, 4, none⟩ = some (.int .i64 (h.baseW)) := (blk_cell B3.out 4).trans rfl
  have p5 : w1.cell? ⟨W.heap.size, 5, none⟩ = some (.int .i64 (h.baseH)) := (blk_cell B3.out 5).trans rfl
  have p6 : w1.cell? ⟨W.heap.size, 6, none⟩ = some (.int .i64 (h.incW)) := (blk_cell B3.out 6).trans rfl
  have p7 : w1.cell? ⟨W.heap.size, 7, none⟩ = some (.int .i64 (h.incH)) := (blk_cell B3.out 7).trans rfl
  have p8 : w1.cell? ⟨W.heap.size, 8, none⟩ = some (.int .i64 (h.lowX)) := (blk_cell B3.out 8).trans rfl
  have p9 : w1.cell? ⟨W.heap.size, 9, none⟩ = some (.int .i64 (h.lowY)) := (blk_cell B3.out 9).trans rfl
  have p10 : w1.cell? ⟨W.heap.size, 10, none⟩ = some (.int .i64 (h.highX)) := (blk_cell B3.out 10).trans rfl
  have p11 : w1.cell? ⟨W.heap.size, 11, none⟩ = some (.int .i64 (h.highY)) := (blk_cell B3.out 11).trans rfl
  go_wp2_with fail
  refine (K2.out _).mono ?_
  rintro e w2 ⟨rfl, hb⟩
  clear p0 p1 p2 p3 p4 p5 p6 p7 p8 p9 p10 p11
  replace B3 := Aside0.mk (blk_below B3.out hb)
  replace HB := Aside0.mk (below_step HB.out hb)
  clear hb
  have p0 : w2.cell? ⟨W.heap.size, 0, none⟩ = some (.int .i64 (h.minW)) := (blk_cell B3.out 0).trans rfl
  have p1 : w2.cell? ⟨W.heap.size, 1, none⟩ = some (.int .i64 (h.minH)) := (blk_cell B3.out 1).trans rfl
  have p2 : w2.cell? ⟨W.heap.size, 2, none⟩ = some (.int .i64 (h.maxW)) := (blk_cell B3.out 2).trans rfl
  have p3 : w2.cell? ⟨W.heap.size, 3, none⟩ = some (.int .i64 (h.maxH)) := (blk_cell B3.out 3).trans rfl
  have p4 : w2.cell? ⟨W.heap.size, 4, none⟩ = some (.int .i64 (h.baseW)) := (blk_cell B3.out 4).trans rfl
  have p5 : w2.cell? ⟨W.heap.size, 5, none⟩ = some (.int .i64 (h.baseH)) := (blk_cell B3.out 5).trans rfl
  have p6 : w2.cell? ⟨W.heap.size, 6, none⟩ = some (.int .i64 (h.incW)) := (blk_cell B3.out 6).trans rfl
  have p7 : w2.cell? ⟨W.heap.size, 7, none⟩ = some (.int .i64 (h.incH)) := (blk_cell B3.out 7).trans rfl
  have p8 : w2.cell? ⟨W.heap.size, 8, none⟩ = some (.int .i64 (h.lowX)) := (blk_cell B3.out 8).trans rfl
  have p9 : w2.cell? ⟨W.heap.size, 9, none⟩ = some (.int .i64 (h.lowY)) := (blk_cell B3.out 9).trans rfl
  have p10 : w2.cell? ⟨W.heap.size, 10, none⟩ = some (.int .i64 (h.highX)) := (blk_cell B3.out 10).trans rfl
  have p11 : w2.cell? ⟨W.heap.size, 11, none⟩ = some (.int .i64 (h.highY)) := (blk_cell B3.out 11).trans rfl
  go_wp2_with fail
  refine (KN.out _).mono ?_
  rintro e w3 ⟨rfl, hb⟩
  clear p0 p1 p2 p3 p4 p5 p6 p7 p8 p9 p10 p11
  replace HB := Aside0.mk (below_step HB.out hb)
  clear hb
  go_wp2_with fail
  refine (KG.out _).mono ?_
  rintro e w4 ⟨rfl, hb⟩
  replace HB := Aside0.mk (below_step HB.out hb)
  clear hb K1 K2 KN KG
  cases b
  · have no := no rfl
    clear yes
    by_cases c1 : x = w
    · subst c1
      have c2 : (y == t) = false := by simp; exact fun q => no ⟨rfl, q⟩
      have c3 : (y != t) = true := by simp; exact fun q => no ⟨rfl, q⟩
      clear no
      go_wp2_with fail
      refine (c_awake _).mono ?_
      rintro e w5 ⟨rfl, hb⟩
      replace HB := Aside0.mk (below_step HB.out hb)
      clear hb
      go_wp2
      go_ret
      exact ⟨rfl, HB.out⟩
    · have c2 : (x == w) = false := by simp [c1]
      have c3 : (x != w) = true := by simp [c1]
      clear no c1
      go_wp2_with fail
      refine (c_awake _).mono ?_
      rintro e w5 ⟨rfl, hb⟩
      replace HB := Aside0.mk (below_step HB.out hb)
      clear hb
      go_wp2
      go_ret
      exact ⟨rfl, HB.out⟩
  · obtain ⟨rfl, rfl⟩ := yes rfl
    clear no
    go_wp2_with fail
    refine (c_awake _).mono ?_
    rintro e w5 ⟨rfl, hb⟩
    replace HB := Aside0.mk (below_step HB.out hb)
    clear hb
    go_wp2
    go_ret
    exact ⟨rfl, HB.out⟩

set_option maxHeartbeats 8000000 in
set_option maxRecDepth 100000 in
theorem near_any (h : Hn) (w t o : Int) (W : World) (w0 : 0 ≤ w) (w1 : w ≤ 65535) (t0 : 0 ≤ t) (t1 : t ≤ 65535) (o0 : 0 ≤ o) (o1 : o ≤ 65535) : Calls Try.prog 5 #[.agg #[.int .i64 h.minW, .int .i64 h.minH, .int .i64 h.maxW, .int .i64 h.maxH, .int .i64 h.baseW, .int .i64 h.baseH, .int .i64 h.incW, .int .i64 h.incH, .int .i64 h.lowX, .int .i64 h.lowY, .int .i64 h.highX, .int .i64 h.highY], .int .u16 w, .int .u16 t, .int .u16 o] W fun e w' => e = .returned (.bool true) ∧ Below W.heap.size W w' := by
  obtain ⟨x, y, e⟩ := fit_all h w t
  obtain ⟨u, v, e2⟩ := fit_all h o t
  have f := fit_near ⟨w0, w1⟩ ⟨t0, t1⟩ e
  have cw : IntKind.i64.wrap w = w := IntWalk.i64_in _ (by omega)
  have ct : IntKind.i64.wrap t = t := IntWalk.i64_in _ (by omega)
  have co : IntKind.i64.wrap o = o := IntWalk.i64_in _ (by omega)
  obtain ⟨N, hN⟩ : ∃ n, n = normal h := ⟨_, rfl⟩
  have KN := c_rnormal h
  rw [← hN] at KN f
  replace KN := Aside0.mk KN
  have K1 := Aside0.mk (c_fit e)
  have K2 := Aside0.mk (c_fit e2)
  have hn : Nrm N := hN ▸ normal_nrm h
  have KG1 := c_rgood hn x o
  have KG2 := c_rgood hn o v
  have a1 : goodB N x o = true → ¬ (y < o ∧ o ≤ t) ∧ ¬ (t < y ∧ o < y) := fun q => near_height f (goodB_true.1 q)
  have a2 : goodB N o v = true → ¬ (x < o ∧ o ≤ w) ∧ ¬ (w < x ∧ o < x) := fun q => near_width f (goodB_true.1 q)
  obtain ⟨b1, hb1⟩ : ∃ b, goodB N x o = b := ⟨_, rfl⟩
  obtain ⟨b2, hb2⟩ : ∃ b, goodB N o v = b := ⟨_, rfl⟩
  rw [hb1] at KG1 a1
  rw [hb2] at KG2 a2
  replace KG1 := Aside0.mk KG1
  replace KG2 := Aside0.mk KG2
  have A1 := Aside0.mk (show b1 = false ∨ (¬ (y < o ∧ o ≤ t) ∧ ¬ (t < y ∧ o < y)) by cases b1; exact Or.inl rfl; exact Or.inr (a1 rfl))
  have A2 := Aside0.mk (show b2 = false ∨ (¬ (x < o ∧ o ≤ w) ∧ ¬ (w < x ∧ o < x)) by cases b2; exact Or.inl rfl; exact Or.inr (a2 rfl))
  clear e e2 f hN hn hb1 hb2 a1 a2
  go_enter Try.func5, Try.ntmps5
  go_wp2_with fail
  refine (KN.out _).mono ?_
  rintro e w1 ⟨rfl, hb⟩
  have B3 := Aside0.mk (blk_below (blk_new W (.cells #[.int .i64 h.minW, .int .i64 h.minH, .int .i64 h.maxW, .int .i64 h.maxH, .int .i64 h.baseW, .int .i64 h.baseH, .int .i64 h.incW, .int .i64 h.incH, .int .i64 h.lowX, .int .i64 h.lowY, .int .i64 h.highX, .int .i64 h.highY] 23 (0, 0))) hb)
  have HB := Aside0.mk (below_step (below_alloc (Below.refl W.heap.size W) (.cells #[.int .i64 h.minW, .int .i64 h.minH, .int .i64 h.maxW, .int .i64 h.maxH, .int .i64 h.baseW, .int .i64 h.baseH, .int .i64 h.incW, .int .i64 h.incH, .int .i64 h.lowX, .int .i64 h.lowY, .int .i64 h.highX, .int .i64 h.highY] 23 (0, 0))) hb)
  clear hb
  have p0 : ∀ o, (w1.alloc o).cell? ⟨W.heap.size, 0, none⟩ = some (.int .i64 h.minW) := fun o => (blk_cell (blk_alloc B3.out o) 0).trans rfl
  have p1 : ∀ o, (w1.alloc o).cell? ⟨W.heap.size, 1, none⟩ = some (.int .i64 h.minH) := fun o => (blk_cell (blk_alloc B3.out o) 1).trans rfl
  have p2 : ∀ o, (w1.alloc o).cell? ⟨W.heap.size, 2, none⟩ = some (.int .i64 h.maxW) := fun o => (blk_cell (blk_alloc B3.out o) 2).trans rfl
  have p3 : ∀ o, (w1.alloc o).cell? ⟨W.heap.size, 3, none⟩ = some (.int .i64 h.maxH) := fun o => (blk_cell (blk_alloc B3.out o) 3).trans rfl
  have p4 : ∀ o, (w1.alloc o).cell? ⟨W.heap.size, 4, none⟩ = some (.int .i64 h.baseW) := fun o => (blk_cell (blk_alloc B3.out o) 4).trans rfl
  have p5 : ∀ o, (w1.alloc o).cell? ⟨W.heap.size, 5, none⟩ = some (.int .i64 h.baseH) := fun o => (blk_cell (blk_alloc B3.out o) 5).trans rfl
  have p6 : ∀ o, (w1.alloc o).cell? ⟨W.heap.size, 6, none⟩ = some (.int .i64 h.incW) := fun o => (blk_cell (blk_alloc B3.out o) 6).trans rfl
  have p7 : ∀ o, (w1.alloc o).cell? ⟨W.heap.size, 7, none⟩ = some (.int .i64 h.incH) := fun o => (blk_cell (blk_alloc B3.out o) 7).trans rfl
  have p8 : ∀ o, (w1.alloc o).cell? ⟨W.heap.size, 8, none⟩ = some (.int .i64 h.lowX) := fun o => (blk_cell (blk_alloc B3.out o) 8).trans rfl
  have p9 : ∀ o, (w1.alloc o).cell? ⟨W.heap.size, 9, none⟩ = some (.int .i64 h.lowY) := fun o => (blk_cell (blk_alloc B3.out o) 9).trans rfl
  have p10 : ∀ o, (w1.alloc o).cell? ⟨W.heap.size, 10, none⟩ = some (.int .i64 h.highX) := fun o => (blk_cell (blk_alloc B3.out o) 10).trans rfl
  have p11 : ∀ o, (w1.alloc o).cell? ⟨W.heap.size, 11, none⟩ = some (.int .i64 h.highY) := fun o => (blk_cell (blk_alloc B3.out o) 11).trans rfl
  go_wp2_with fail
  refine (K1.out _).mono ?_
  rintro e w2 ⟨rfl, hb⟩
  clear p0 p1 p2 p3 p4 p5 p6 p7 p8 p9 p10 p11
  have B9 := Aside0.mk (blk_below (blk_new w1 (.cells #[.int .i64 N.minW, .int .i64 N.minH, .int .i64 N.maxW, .int .i64 N.maxH, .int .i64 N.baseW, .int .i64 N.baseH, .int .i64 N.incW, .int .i64 N.incH, .int .i64 N.lowX, .int .i64 N.lowY, .int .i64 N.highX, .int .i64 N.highY] 23 (0, 0))) hb)
  replace B3 := Aside0.mk (blk_below (blk_alloc B3.out (.cells #[.int .i64 N.minW, .int .i64 N.minH, .int .i64 N.maxW, .int .i64 N.maxH, .int .i64 N.baseW, .int .i64 N.baseH, .int .i64 N.incW, .int .i64 N.incH, .int .i64 N.lowX, .int .i64 N.lowY, .int .i64 N.highX, .int .i64 N.highY] 23 (0, 0))) hb)
  replace HB := Aside0.mk (below_step (below_alloc HB.out (.cells #[.int .i64 N.minW, .int .i64 N.minH, .int .i64 N.maxW, .int .i64 N.maxH, .int .i64 N.baseW, .int .i64 N.baseH, .int .i64 N.incW, .int .i64 N.incH, .int .i64 N.lowX, .int .i64 N.lowY, .int .i64 N.highX, .int .i64 N.highY] 23 (0, 0))) hb)
  clear hb
  go_upto_region 4 with fail
  go_cut [53] (fun v53 wx => v53 = .bool false ∧ Aside0 (wx.heap[W.heap.size]? = some (.cells #[.int .i64 h.minW, .int .i64 h.minH, .int .i64 h.maxW, .int .i64 h.maxH, .int .i64 h.baseW, .int .i64 h.baseH, .int .i64 h.incW, .int .i64 h.incH, .int .i64 h.lowX, .int .i64 h.lowY, .int .i64 h.highX, .int .i64 h.highY] 23 (0, 0))) ∧ Aside0 (wx.heap[w1.heap.size]? = some (.cells #[.int .i64 N.minW, .int .i64 N.minH, .int .i64 N.maxW, .int .i64 N.maxH, .int .i64 N.baseW, .int .i64 N.baseH, .int .i64 N.incW, .int .i64 N.incH, .int .i64 N.lowX, .int .i64 N.lowY, .int .i64 N.highX, .int .i64 N.highY] 23 (0, 0))) ∧ Aside0 (Below W.heap.size W wx))
  case first =>
    have s0 : w2.cell? ⟨w1.heap.size, 0, none⟩ = some (.int .i64 (N.minW)) := (blk_cell B9.out 0).trans rfl
    have s1 : w2.cell? ⟨w1.heap.size, 1, none⟩ = some (.int .i64 (N.minH)) := (blk_cell B9.out 1).trans rfl
    have s2 : w2.cell? ⟨w1.heap.size, 2, none⟩ = some (.int .i64 (N.maxW)) := (blk_cell B9.out 2).trans rfl
    have s3 : w2.cell? ⟨w1.heap.size, 3, none⟩ = some (.int .i64 (N.maxH)) := (blk_cell B9.out 3).trans rfl
    have s4 : w2.cell? ⟨w1.heap.size, 4, none⟩ = some (.int .i64 (N.baseW)) := (blk_cell B9.out 4).trans rfl
    have s5 : w2.cell? ⟨w1.heap.size, 5, none⟩ = some (.int .i64 (N.baseH)) := (blk_cell B9.out 5).trans rfl
    have s6 : w2.cell? ⟨w1.heap.size, 6, none⟩ = some (.int .i64 (N.incW)) := (blk_cell B9.out 6).trans rfl
    have s7 : w2.cell? ⟨w1.heap.size, 7, none⟩ = some (.int .i64 (N.incH)) := (blk_cell B9.out 7).trans rfl
    have s8 : w2.cell? ⟨w1.heap.size, 8, none⟩ = some (.int .i64 (N.lowX)) := (blk_cell B9.out 8).trans rfl
    have s9 : w2.cell? ⟨w1.heap.size, 9, none⟩ = some (.int .i64 (N.lowY)) := (blk_cell B9.out 9).trans rfl
    have s10 : w2.cell? ⟨w1.heap.size, 10, none⟩ = some (.int .i64 (N.highX)) := (blk_cell B9.out 10).trans rfl
    have s11 : w2.cell? ⟨w1.heap.size, 11, none⟩ = some (.int .i64 (N.highY)) := (blk_cell B9.out 11).trans rfl
    go_wp2_with fail
    refine (KG1.out _).mono ?_
    rintro e w3 ⟨rfl, hb⟩
    clear s0 s1 s2 s3 s4 s5 s6 s7 s8 s9 s10 s11
    replace B9 := Aside0.mk (blk_below B9.out hb)
    replace B3 := Aside0.mk (blk_below B3.out hb)
    replace HB := Aside0.mk (below_step HB.out hb)
    clear hb
    cases b1
    · go_wp2_with fail
      go_meet
      exact ⟨rfl, B3, B9, HB⟩
    · rcases A1.out with q | q
      · cases q
      · clear A1
        rcases (show (y < o ∧ t < o ∧ y ≤ t) ∨ (y < o ∧ t < o ∧ t < y ∧ y ≤ o) ∨ (o ≤ y ∧ y ≤ t) ∨ (o ≤ y ∧ t < y ∧ y ≤ o) by omega) with ⟨c1, c2, c3⟩ | ⟨c1, c2, c3, c4⟩ | ⟨c1, c2⟩ | ⟨c1, c2, c3⟩
        all_goals
          clear q
          go_wp2_with fail
          go_meet
          exact ⟨by first | rfl | (simp; omega), B3, B9, HB⟩
  case rest =>
    clear B3 B9 HB A1
    obtain ⟨rfl, B3, B9, HB⟩ := hcut
    rcases (show ((x < o ∧ o ≤ w) ∨ (o ≤ x ∧ w < x ∧ o < x)) ∨ ((x < o ∧ w < o ∧ x ≤ w) ∨ (x < o ∧ w < o ∧ w < x ∧ x ≤ o) ∨ (o ≤ x ∧ x ≤ w) ∨ (o ≤ x ∧ x ≤ o ∧ w < x)) by omega) with (d | d) | (⟨d1, d2, d3⟩ | ⟨d1, d2, d3, d4⟩ | ⟨d1, d2⟩ | ⟨d1, d2, d3⟩)
    · have B2 := Aside0.mk (show b2 = false by rcases A2.out with q | q; exact q; exact absurd d q.1)
      obtain ⟨d1, d2⟩ := d
      clear A2
      have p0 : wc.cell? ⟨W.heap.size, 0, none⟩ = some (.int .i64 (h.minW)) := (blk_cell B3.out 0).trans rfl
      have p1 : wc.cell? ⟨W.heap.size, 1, none⟩ = some (.int .i64 (h.minH)) := (blk_cell B3.out 1).trans rfl
      have p2 : wc.cell? ⟨W.heap.size, 2, none⟩ = some (.int .i64 (h.maxW)) := (blk_cell B3.out 2).trans rfl
      have p3 : wc.cell? ⟨W.heap.size, 3, none⟩ = some (.int .i64 (h.maxH)) := (blk_cell B3.out 3).trans rfl
      have p4 : wc.cell? ⟨W.heap.size, 4, none⟩ = some (.int .i64 (h.baseW)) := (blk_cell B3.out 4).trans rfl
      have p5 : wc.cell? ⟨W.heap.size, 5, none⟩ = some (.int .i64 (h.baseH)) := (blk_cell B3.out 5).trans rfl
      have p6 : wc.cell? ⟨W.heap.size, 6, none⟩ = some (.int .i64 (h.incW)) := (blk_cell B3.out 6).trans rfl
      have p7 : wc.cell? ⟨W.heap.size, 7, none⟩ = some (.int .i64 (h.incH)) := (blk_cell B3.out 7).trans rfl
      have p8 : wc.cell? ⟨W.heap.size, 8, none⟩ = some (.int .i64 (h.lowX)) := (blk_cell B3.out 8).trans rfl
      have p9 : wc.cell? ⟨W.heap.size, 9, none⟩ = some (.int .i64 (h.lowY)) := (blk_cell B3.out 9).trans rfl
      have p10 : wc.cell? ⟨W.heap.size, 10, none⟩ = some (.int .i64 (h.highX)) := (blk_cell B3.out 10).trans rfl
      have p11 : wc.cell? ⟨W.heap.size, 11, none⟩ = some (.int .i64 (h.highY)) := (blk_cell B3.out 11).trans rfl
      by_cases c : u = o
      · subst c
        have e := B2.out
        subst e
        have s0 : wc.cell? ⟨w1.heap.size, 0, none⟩ = some (.int .i64 (N.minW)) := (blk_cell B9.out 0).trans rfl
        have s1 : wc.cell? ⟨w1.heap.size, 1, none⟩ = some (.int .i64 (N.minH)) := (blk_cell B9.out 1).trans rfl
        have s2 : wc.cell? ⟨w1.heap.size, 2, none⟩ = some (.int .i64 (N.maxW)) := (blk_cell B9.out 2).trans rfl
        have s3 : wc.cell? ⟨w1.heap.size, 3, none⟩ = some (.int .i64 (N.maxH)) := (blk_cell B9.out 3).trans rfl
        have s4 : wc.cell? ⟨w1.heap.size, 4, none⟩ = some (.int .i64 (N.baseW)) := (blk_cell B9.out 4).trans rfl
        have s5 : wc.cell? ⟨w1.heap.size, 5, none⟩ = some (.int .i64 (N.baseH)) := (blk_cell B9.out 5).trans rfl
        have s6 : wc.cell? ⟨w1.heap.size, 6, none⟩ = some (.int .i64 (N.incW)) := (blk_cell B9.out 6).trans rfl
        have s7 : wc.cell? ⟨w1.heap.size, 7, none⟩ = some (.int .i64 (N.incH)) := (blk_cell B9.out 7).trans rfl
        have s8 : wc.cell? ⟨w1.heap.size, 8, none⟩ = some (.int .i64 (N.lowX)) := (blk_cell B9.out 8).trans rfl
        have s9 : wc.cell? ⟨w1.heap.size, 9, none⟩ = some (.int .i64 (N.lowY)) := (blk_cell B9.out 9).trans rfl
        have s10 : wc.cell? ⟨w1.heap.size, 10, none⟩ = some (.int .i64 (N.highX)) := (blk_cell B9.out 10).trans rfl
        have s11 : wc.cell? ⟨w1.heap.size, 11, none⟩ = some (.int .i64 (N.highY)) := (blk_cell B9.out 11).trans rfl
        go_wp2_with fail
        refine (K2.out _).mono ?_
        rintro e w4 ⟨rfl, hb⟩
        clear p0 p1 p2 p3 p4 p5 p6 p7 p8 p9 p10 p11
        clear s0 s1 s2 s3 s4 s5 s6 s7 s8 s9 s10 s11
        replace B9 := Aside0.mk (blk_below B9.out hb)
        replace HB := Aside0.mk (below_step HB.out hb)
        clear hb
        have s0 : w4.cell? ⟨w1.heap.size, 0, none⟩ = some (.int .i64 (N.minW)) := (blk_cell B9.out 0).trans rfl
        have s1 : w4.cell? ⟨w1.heap.size, 1, none⟩ = some (.int .i64 (N.minH)) := (blk_cell B9.out 1).trans rfl
        have s2 : w4.cell? ⟨w1.heap.size, 2, none⟩ = some (.int .i64 (N.maxW)) := (blk_cell B9.out 2).trans rfl
        have s3 : w4.cell? ⟨w1.heap.size, 3, none⟩ = some (.int .i64 (N.maxH)) := (blk_cell B9.out 3).trans rfl
        have s4 : w4.cell? ⟨w1.heap.size, 4, none⟩ = some (.int .i64 (N.baseW)) := (blk_cell B9.out 4).trans rfl
        have s5 : w4.cell? ⟨w1.heap.size, 5, none⟩ = some (.int .i64 (N.baseH)) := (blk_cell B9.out 5).trans rfl
        have s6 : w4.cell? ⟨w1.heap.size, 6, none⟩ = some (.int .i64 (N.incW)) := (blk_cell B9.out 6).trans rfl
        have s7 : w4.cell? ⟨w1.heap.size, 7, none⟩ = some (.int .i64 (N.incH)) := (blk_cell B9.out 7).trans rfl
        have s8 : w4.cell? ⟨w1.heap.size, 8, none⟩ = some (.int .i64 (N.lowX)) := (blk_cell B9.out 8).trans rfl
        have s9 : w4.cell? ⟨w1.heap.size, 9, none⟩ = some (.int .i64 (N.lowY)) := (blk_cell B9.out 9).trans rfl
        have s10 : w4.cell? ⟨w1.heap.size, 10, none⟩ = some (.int .i64 (N.highX)) := (blk_cell B9.out 10).trans rfl
        have s11 : w4.cell? ⟨w1.heap.size, 11, none⟩ = some (.int .i64 (N.highY)) := (blk_cell B9.out 11).trans rfl
        go_wp2_with fail
        refine (KG2.out _).mono ?_
        rintro e w6 ⟨rfl, hb⟩
        replace HB := Aside0.mk (below_step HB.out hb)
        clear hb
        go_wp2_with fail
        refine (c_awake _).mono ?_
        rintro e w5 ⟨rfl, hb⟩
        replace HB := Aside0.mk (below_step HB.out hb)
        clear hb
        go_wp2
        go_ret
        exact ⟨rfl, HB.out⟩
      · have c2 : (u != o) = true := by simp [c]
        have c3 : (u == o) = false := by simp [c]
        clear c
        go_wp2_with fail
        refine (K2.out _).mono ?_
        rintro e w4 ⟨rfl, hb⟩
        replace HB := Aside0.mk (below_step HB.out hb)
        clear hb
        go_wp2_with fail
        refine (c_awake _).mono ?_
        rintro e w5 ⟨rfl, hb⟩
        replace HB := Aside0.mk (below_step HB.out hb)
        clear hb
        go_wp2
        go_ret
        exact ⟨rfl, HB.out⟩
    · have B2 := Aside0.mk (show b2 = false by rcases A2.out with q | q; exact q; exact absurd d.2 q.2)
      obtain ⟨d1, d2, d3⟩ := d
      clear A2
      have p0 : wc.cell? ⟨W.heap.size, 0, none⟩ = some (.int .i64 (h.minW)) := (blk_cell B3.out 0).trans rfl
      have p1 : wc.cell? ⟨W.heap.size, 1, none⟩ = some (.int .i64 (h.minH)) := (blk_cell B3.out 1).trans rfl
      have p2 : wc.cell? ⟨W.heap.size, 2, none⟩ = some (.int .i64 (h.maxW)) := (blk_cell B3.out 2).trans rfl
      have p3 : wc.cell? ⟨W.heap.size, 3, none⟩ = some (.int .i64 (h.maxH)) := (blk_cell B3.out 3).trans rfl
      have p4 : wc.cell? ⟨W.heap.size, 4, none⟩ = some (.int .i64 (h.baseW)) := (blk_cell B3.out 4).trans rfl
      have p5 : wc.cell? ⟨W.heap.size, 5, none⟩ = some (.int .i64 (h.baseH)) := (blk_cell B3.out 5).trans rfl
      have p6 : wc.cell? ⟨W.heap.size, 6, none⟩ = some (.int .i64 (h.incW)) := (blk_cell B3.out 6).trans rfl
      have p7 : wc.cell? ⟨W.heap.size, 7, none⟩ = some (.int .i64 (h.incH)) := (blk_cell B3.out 7).trans rfl
      have p8 : wc.cell? ⟨W.heap.size, 8, none⟩ = some (.int .i64 (h.lowX)) := (blk_cell B3.out 8).trans rfl
      have p9 : wc.cell? ⟨W.heap.size, 9, none⟩ = some (.int .i64 (h.lowY)) := (blk_cell B3.out 9).trans rfl
      have p10 : wc.cell? ⟨W.heap.size, 10, none⟩ = some (.int .i64 (h.highX)) := (blk_cell B3.out 10).trans rfl
      have p11 : wc.cell? ⟨W.heap.size, 11, none⟩ = some (.int .i64 (h.highY)) := (blk_cell B3.out 11).trans rfl
      by_cases c : u = o
      · subst c
        have e := B2.out
        subst e
        have s0 : wc.cell? ⟨w1.heap.size, 0, none⟩ = some (.int .i64 (N.minW)) := (blk_cell B9.out 0).trans rfl
        have s1 : wc.cell? ⟨w1.heap.size, 1, none⟩ = some (.int .i64 (N.minH)) := (blk_cell B9.out 1).trans rfl
        have s2 : wc.cell? ⟨w1.heap.size, 2, none⟩ = some (.int .i64 (N.maxW)) := (blk_cell B9.out 2).trans rfl
        have s3 : wc.cell? ⟨w1.heap.size, 3, none⟩ = some (.int .i64 (N.maxH)) := (blk_cell B9.out 3).trans rfl
        have s4 : wc.cell? ⟨w1.heap.size, 4, none⟩ = some (.int .i64 (N.baseW)) := (blk_cell B9.out 4).trans rfl
        have s5 : wc.cell? ⟨w1.heap.size, 5, none⟩ = some (.int .i64 (N.baseH)) := (blk_cell B9.out 5).trans rfl
        have s6 : wc.cell? ⟨w1.heap.size, 6, none⟩ = some (.int .i64 (N.incW)) := (blk_cell B9.out 6).trans rfl
        have s7 : wc.cell? ⟨w1.heap.size, 7, none⟩ = some (.int .i64 (N.incH)) := (blk_cell B9.out 7).trans rfl
        have s8 : wc.cell? ⟨w1.heap.size, 8, none⟩ = some (.int .i64 (N.lowX)) := (blk_cell B9.out 8).trans rfl
        have s9 : wc.cell? ⟨w1.heap.size, 9, none⟩ = some (.int .i64 (N.lowY)) := (blk_cell B9.out 9).trans rfl
        have s10 : wc.cell? ⟨w1.heap.size, 10, none⟩ = some (.int .i64 (N.highX)) := (blk_cell B9.out 10).trans rfl
        have s11 : wc.cell? ⟨w1.heap.size, 11, none⟩ = some (.int .i64 (N.highY)) := (blk_cell B9.out 11).trans rfl
        go_wp2_with fail
        refine (K2.out _).mono ?_
        rintro e w4 ⟨rfl, hb⟩
        clear p0 p1 p2 p3 p4 p5 p6 p7 p8 p9 p10 p11
        clear s0 s1 s2 s3 s4 s5 s6 s7 s8 s9 s10 s11
        replace B9 := Aside0.mk (blk_below B9.out hb)
        replace HB := Aside0.mk (below_step HB.out hb)
        clear hb
        have s0 : w4.cell? ⟨w1.heap.size, 0, none⟩ = some (.int .i64 (N.minW)) := (blk_cell B9.out 0).trans rfl
        have s1 : w4.cell? ⟨w1.heap.size, 1, none⟩ = some (.int .i64 (N.minH)) := (blk_cell B9.out 1).trans rfl
        have s2 : w4.cell? ⟨w1.heap.size, 2, none⟩ = some (.int .i64 (N.maxW)) := (blk_cell B9.out 2).trans rfl
        have s3 : w4.cell? ⟨w1.heap.size, 3, none⟩ = some (.int .i64 (N.maxH)) := (blk_cell B9.out 3).trans rfl
        have s4 : w4.cell? ⟨w1.heap.size, 4, none⟩ = some (.int .i64 (N.baseW)) := (blk_cell B9.out 4).trans rfl
        have s5 : w4.cell? ⟨w1.heap.size, 5, none⟩ = some (.int .i64 (N.baseH)) := (blk_cell B9.out 5).trans rfl
        have s6 : w4.cell? ⟨w1.heap.size, 6, none⟩ = some (.int .i64 (N.incW)) := (blk_cell B9.out 6).trans rfl
        have s7 : w4.cell? ⟨w1.heap.size, 7, none⟩ = some (.int .i64 (N.incH)) := (blk_cell B9.out 7).trans rfl
        have s8 : w4.cell? ⟨w1.heap.size, 8, none⟩ = some (.int .i64 (N.lowX)) := (blk_cell B9.out 8).trans rfl
        have s9 : w4.cell? ⟨w1.heap.size, 9, none⟩ = some (.int .i64 (N.lowY)) := (blk_cell B9.out 9).trans rfl
        have s10 : w4.cell? ⟨w1.heap.size, 10, none⟩ = some (.int .i64 (N.highX)) := (blk_cell B9.out 10).trans rfl
        have s11 : w4.cell? ⟨w1.heap.size, 11, none⟩ = some (.int .i64 (N.highY)) := (blk_cell B9.out 11).trans rfl
        go_wp2_with fail
        refine (KG2.out _).mono ?_
        rintro e w6 ⟨rfl, hb⟩
        replace HB := Aside0.mk (below_step HB.out hb)
        clear hb
        go_wp2_with fail
        refine (c_awake _).mono ?_
        rintro e w5 ⟨rfl, hb⟩
        replace HB := Aside0.mk (below_step HB.out hb)
        clear hb
        go_wp2
        go_ret
        exact ⟨rfl, HB.out⟩
      · have c2 : (u != o) = true := by simp [c]
        have c3 : (u == o) = false := by simp [c]
        clear c
        go_wp2_with fail
        refine (K2.out _).mono ?_
        rintro e w4 ⟨rfl, hb⟩
        replace HB := Aside0.mk (below_step HB.out hb)
        clear hb
        go_wp2_with fail
        refine (c_awake _).mono ?_
        rintro e w5 ⟨rfl, hb⟩
        replace HB := Aside0.mk (below_step HB.out hb)
        clear hb
        go_wp2
        go_ret
        exact ⟨rfl, HB.out⟩
    all_goals
      go_wp2_with fail
      refine (c_awake _).mono ?_
      rintro e w5 ⟨rfl, hb⟩
      replace HB := Aside0.mk (below_step HB.out hb)
      clear hb
      go_wp2
      go_ret
      exact ⟨rfl, HB.out⟩
theorem u16_of {n : Int} (h : (Lit.int .u16 n).wf = true) : 0 ≤ n ∧ n ≤ 65535 := by
  have e1 : IntKind.u16.min = 0 := by rfl
  have e2 : IntKind.u16.max = 65535 := by rfl
  simp only [Lit.wf, e1, e2, Bool.and_eq_true, decide_eq_true_eq] at h
  exact h
theorem SizeStays_law (a0_0 : Int) (a0_1 : Int) (a0_2 : Int) (a0_3 : Int) (a0_4 : Int) (a0_5 : Int) (a0_6 : Int) (a0_7 : Int) (a0_8 : Int) (a0_9 : Int) (a0_10 : Int) (a0_11 : Int) (a1 : Int) (a2 : Int) (W : World) (w0_0 : (Lit.int .i64 a0_0).wf = true) (w0_1 : (Lit.int .i64 a0_1).wf = true) (w0_2 : (Lit.int .i64 a0_2).wf = true) (w0_3 : (Lit.int .i64 a0_3).wf = true) (w0_4 : (Lit.int .i64 a0_4).wf = true) (w0_5 : (Lit.int .i64 a0_5).wf = true) (w0_6 : (Lit.int .i64 a0_6).wf = true) (w0_7 : (Lit.int .i64 a0_7).wf = true) (w0_8 : (Lit.int .i64 a0_8).wf = true) (w0_9 : (Lit.int .i64 a0_9).wf = true) (w0_10 : (Lit.int .i64 a0_10).wf = true) (w0_11 : (Lit.int .i64 a0_11).wf = true) (w1 : (Lit.int .i64 a1).wf = true) (w2 : (Lit.int .i64 a2).wf = true) :
    Calls Try.prog 4 #[.agg #[.int .i64 a0_0, .int .i64 a0_1, .int .i64 a0_2, .int .i64 a0_3, .int .i64 a0_4, .int .i64 a0_5, .int .i64 a0_6, .int .i64 a0_7, .int .i64 a0_8, .int .i64 a0_9, .int .i64 a0_10, .int .i64 a0_11], .int .i64 a1, .int .i64 a2] W fun e w' => e = .returned (.bool true) ∧ Below W.heap.size W w' :=
  stays_any ⟨a0_0, a0_1, a0_2, a0_3, a0_4, a0_5, a0_6, a0_7, a0_8, a0_9, a0_10, a0_11⟩ a1 a2 W
theorem SizeNear_law (a0_0 : Int) (a0_1 : Int) (a0_2 : Int) (a0_3 : Int) (a0_4 : Int) (a0_5 : Int) (a0_6 : Int) (a0_7 : Int) (a0_8 : Int) (a0_9 : Int) (a0_10 : Int) (a0_11 : Int) (a1 : Int) (a2 : Int) (a3 : Int) (W : World) (w0_0 : (Lit.int .i64 a0_0).wf = true) (w0_1 : (Lit.int .i64 a0_1).wf = true) (w0_2 : (Lit.int .i64 a0_2).wf = true) (w0_3 : (Lit.int .i64 a0_3).wf = true) (w0_4 : (Lit.int .i64 a0_4).wf = true) (w0_5 : (Lit.int .i64 a0_5).wf = true) (w0_6 : (Lit.int .i64 a0_6).wf = true) (w0_7 : (Lit.int .i64 a0_7).wf = true) (w0_8 : (Lit.int .i64 a0_8).wf = true) (w0_9 : (Lit.int .i64 a0_9).wf = true) (w0_10 : (Lit.int .i64 a0_10).wf = true) (w0_11 : (Lit.int .i64 a0_11).wf = true) (w1 : (Lit.int .u16 a1).wf = true) (w2 : (Lit.int .u16 a2).wf = true) (w3 : (Lit.int .u16 a3).wf = true) :
    Calls Try.prog 5 #[.agg #[.int .i64 a0_0, .int .i64 a0_1, .int .i64 a0_2, .int .i64 a0_3, .int .i64 a0_4, .int .i64 a0_5, .int .i64 a0_6, .int .i64 a0_7, .int .i64 a0_8, .int .i64 a0_9, .int .i64 a0_10, .int .i64 a0_11], .int .u16 a1, .int .u16 a2, .int .u16 a3] W fun e w' => e = .returned (.bool true) ∧ Below W.heap.size W w' :=
  near_any ⟨a0_0, a0_1, a0_2, a0_3, a0_4, a0_5, a0_6, a0_7, a0_8, a0_9, a0_10, a0_11⟩ a1 a2 a3 W (u16_of w1).1 (u16_of w1).2 (u16_of w2).1 (u16_of w2).2 (u16_of w3).1 (u16_of w3).2
end Go.Proofs.Ytokgigkdnmfknaa.Sz
