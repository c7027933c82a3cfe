/- Clients that stand free: the contracts of the reference's Move and of what it calls; geom's Keep. -/
import Derived.Test.YtajpnmiblepmkaaFlG
import Derived.Test.YtajpnmiblepmkaaSzV

namespace Go.Proofs.Ytajpnmiblepmkaa.Fl
open Go.RowKit Go.Proofs.YtajpnmiblepmkaaW.PrintMore Go.Proofs.YtajpnmiblepmkaaW.PrintWords Go.Proofs.YtajpnmiblepmkaaW.PrintLast Go.Proofs.Ytajpnmiblepmkaa.Geo Go.Proofs.Ytajpnmiblepmkaa.Sz
set_option linter.unusedVariables false
set_option linter.unusedSimpArgs false
attribute [local go_sem] max2_int min2_int max_two min_two max_three min_three

theorem put4_cell {w : World} {g g' i : Nat} {v : Value} (hne : g' ≠ g) (h : w.cell? ⟨g', i, none⟩ = some v) (v0 v1 v2 v3 : Value) : (((((w).setCell ⟨g, 0, none⟩ v0).setCell ⟨g, 1, none⟩ v1).setCell ⟨g, 2, none⟩ v2).setCell ⟨g, 3, none⟩ v3).cell? ⟨g', i, none⟩ = some v := by
  have far : ∀ (u : World) (j : Nat) (x : Value), (u.setCell ⟨g, j, none⟩ x).cell? ⟨g', i, none⟩ = u.cell? ⟨g', i, none⟩ := fun u j x => cell_far (p := ⟨g, j, none⟩) hne x
  rw [far, far, far, far, h]
theorem c_least (p q : Int) (w : World) : Calls Try.prog 32 #[.int .i64 p, .int .i64 q] w fun e w' => e = .returned (.int .i64 (min p q)) ∧ w = w' := by
  by_cases c : p < q
  · rw [show min p q = p by omega]
    go_enter Try.func32, Try.ntmps32
    go_wp2
    go_ret
    exact ⟨rfl, rfl⟩
  · rw [show min p q = q by omega]
    go_enter Try.func32, Try.ntmps32
    go_wp2
    go_ret
    exact ⟨rfl, rfl⟩
theorem spanI_P (v l m : Int) : spanI v l m = spanP v l m := rfl
set_option maxHeartbeats 1000000 in
theorem c_held (p n i m : Int) (h : sideB p n = true) (h' : sideB i m = true) (w : World) : Calls Try.prog 39 #[.int .i64 p, .int .i64 n, .int .i64 i, .int .i64 m] w (RetI (gripP p n i m) w) := by
  unfold RetI
  obtain ⟨a1, a2, a3, a4⟩ := sideB_true.1 h
  obtain ⟨b1, b2, b3, b4⟩ := sideB_true.1 h'
  obtain ⟨g, hg⟩ : ∃ g, g = min 16 (min n m) := ⟨_, rfl⟩
  have g1 : 0 ≤ g := by omega
  have g2 : g ≤ 16 := by omega
  have K1 := Aside0.mk (c_least n m)
  have K2 := Aside0.mk (show ∀ w, Calls Try.prog 32 #[.int .i64 16, .int .i64 (min n m)] w fun e w' => e = .returned (.int .i64 g) ∧ w = w' by rw [hg]; exact c_least 16 (min n m))
  have K3 := Aside0.mk (show ∀ w, Calls Try.prog 42 #[.int .i64 p, .int .i64 (i - n + g), .int .i64 (i + m - g)] w fun e w' => e = .returned (.int .i64 (gripP p n i m)) ∧ w = w' by unfold gripP; rw [← hg]; exact c_rspan p _ _)
  obtain ⟨v, hv⟩ : ∃ v, v = gripP p n i m := ⟨_, rfl⟩
  rw [← hv] at K3 ⊢
  clear hg hv h h'
  go_enter Try.func39, Try.ntmps39
  go_wp2_with fail
  refine (K1.out _).mono ?_
  rintro e w1 ⟨rfl, rfl⟩
  go_wp2_with fail
  refine (K2.out _).mono ?_
  rintro e w1 ⟨rfl, rfl⟩
  go_wp2_with fail
  refine (K3.out _).mono ?_
  rintro e w1 ⟨rfl, rfl⟩
  go_wp2
  go_ret
  exact ⟨rfl, Below.refl _ _⟩
set_option maxHeartbeats 2000000 in
theorem c_rLaid (x y wd t : Int) (hx : -1000000 ≤ x ∧ x ≤ 1000000) (hy : -1000000 ≤ y ∧ y ≤ 1000000) (W : World) : Calls Try.prog 33 #[.int .i64 x, .int .i64 y, .int .i64 wd, .int .i64 t] W (RetR (laidP x y wd t) W) := by
  unfold RetR
  have K := c_rShift ⟨-32768, -32768, wd, t⟩ (x + 32768) (y + 32768) (by unfold I64; omega) (by unfold I64; omega)
  obtain ⟨L, hL⟩ : ∃ L, L = laidP x y wd t := ⟨_, rfl⟩
  rw [show shiftP ⟨-32768, -32768, wd, t⟩ (x + 32768) (y + 32768) = L from hL.symm] at K
  rw [← hL]
  replace K := Aside0.mk K
  obtain ⟨x1, x2⟩ := hx
  obtain ⟨y1, y2⟩ := hy
  clear hL
  go_enter Try.func33, Try.ntmps33
  go_wp2_with fail
  refine (K.out _).mono ?_
  rintro e w1 ⟨rfl, hb⟩
  have B8 := Aside0.mk (blk_below (blk_new W (.cells #[.int .i64 0, .int .i64 0, .int .i64 0, .int .i64 0] 23 (0, 0))) hb)
  have HB := Aside0.mk (below_step (below_alloc (Below.refl W.heap.size W) (.cells #[.int .i64 0, .int .i64 0, .int .i64 0, .int .i64 0] 23 (0, 0))) hb)
  clear hb
  have q0 : w1.cell? ⟨W.heap.size, 0, none⟩ = some (.int .i64 (0)) := (blk_cell B8.out 0).trans rfl
  have fq0 := blk_frozen B8.out 0
  have q1 : w1.cell? ⟨W.heap.size, 1, none⟩ = some (.int .i64 (0)) := (blk_cell B8.out 1).trans rfl
  have fq1 := blk_frozen B8.out 1
  have q2 : w1.cell? ⟨W.heap.size, 2, none⟩ = some (.int .i64 (0)) := (blk_cell B8.out 2).trans rfl
  have fq2 := blk_frozen B8.out 2
  have q3 : w1.cell? ⟨W.heap.size, 3, none⟩ = some (.int .i64 (0)) := (blk_cell B8.out 3).trans rfl
  have fq3 := blk_frozen B8.out 3
  go_wp2
  exact bodyPost_ret (v := .agg #[.int .i64 L.x, .int .i64 L.y, .int .i64 L.w, .int .i64 L.h]) (by simp [results, Try.results33, go_sem, q0, fq0, q1, fq1, q2, fq2, q3, fq3]) rfl ⟨rfl, by (repeat (refine below_set ?_ (Nat.le_refl _))); exact HB.out⟩
set_option maxHeartbeats 2000000 in
theorem c_rEmpty (a : Rc) (W : World) : Calls Try.prog 30 #[.agg #[.int .i64 a.x, .int .i64 a.y, .int .i64 a.w, .int .i64 a.h]] W (RetB (emptyB a) W) := by
  unfold RetB
  have HB := Aside0.mk (below_alloc (Below.refl W.heap.size W) (.cells #[.int .i64 a.x, .int .i64 a.y, .int .i64 a.w, .int .i64 a.h] 23 (0, 0)))
  by_cases h : rightB a = true
  · have e : emptyB a = (a.w == 0 || a.h == 0) := by unfold emptyB; rw [h]; rfl
    rw [e]
    have K := Aside0.mk (show ∀ w, Calls Try.prog 41 #[.agg #[.int .i64 a.x, .int .i64 a.y, .int .i64 a.w, .int .i64 a.h]] w (RetB true w) by intro w; rw [← h]; exact c_rRight a w)
    clear e h
    by_cases c1 : a.w = 0
    · have c2 : (a.w == 0) = true := by simp [c1]
      rw [c2]
      clear c1
      go_enter Try.func30, Try.ntmps30
      go_wp2_with fail
      refine (K.out _).mono ?_
      rintro e w1 ⟨rfl, hb⟩
      obtain ⟨hc, hf⟩ := bcell hb
      replace HB := Aside0.mk (below_step HB.out hb)
      clear hb
      go_wp2
      go_ret
      exact ⟨rfl, HB.out⟩
    · have c2 : (a.w == 0) = false := by simp [c1]
      rw [c2]
      clear c1
      go_enter Try.func30, Try.ntmps30
      go_wp2_with fail
      refine (K.out _).mono ?_
      rintro e w1 ⟨rfl, hb⟩
      obtain ⟨hc, hf⟩ := bcell hb
      replace HB := Aside0.mk (below_step HB.out hb)
      clear hb
      go_wp2
      go_ret
      exact ⟨rfl, HB.out⟩
  · simp only [Bool.not_eq_true] at h
    have e : emptyB a = true := by unfold emptyB; rw [h]; rfl
    rw [e]
    have K := Aside0.mk (show ∀ w, Calls Try.prog 41 #[.agg #[.int .i64 a.x, .int .i64 a.y, .int .i64 a.w, .int .i64 a.h]] w (RetB false w) by intro w; rw [← h]; exact c_rRight a w)
    clear e h
    · skip
      go_enter Try.func30, Try.ntmps30
      go_wp2_with fail
      refine (K.out _).mono ?_
      rintro e w1 ⟨rfl, hb⟩
      obtain ⟨hc, hf⟩ := bcell hb
      replace HB := Aside0.mk (below_step HB.out hb)
      clear hb
      go_wp2
      go_ret
      exact ⟨rfl, HB.out⟩
def FlMT.T4 : Bool × List (List Nat × List Nat) := (true, [([], []), ([0], [0]), ([], []), ([2], [2]), ([], []), ([4], [4]), ([], []), ([6], [6]), ([1, 3, 5, 7], [1, 3, 5, 7]), ([], []), ([9], [9]), ([], []), ([11], [11]), ([], []), ([13], [13]), ([], []), ([15], [15]), ([10, 12, 14, 16, 8], [10, 12, 14, 16]), ([], []), ([18], [18]), ([], []), ([20], [20]), ([8, 17, 19, 21, 17], [8, 17, 19, 21]), ([22, 22, 0, 1, 2, 3, 4, 5, 6, 7, 8, 9, 10, 11, 12, 13, 14, 15, 16, 17, 18, 19, 20, 21, 22], [22])])
def FlMT.B4 : List Nat := [0, 1, 0, 4, 0, 16, 0, 64, 255, 0, 512, 0, 2048, 0, 8192, 0, 32768, 131071, 0, 262144, 0, 1048576, 4194303, 8388607]
theorem FlMT.tab4 : rtab .any (opsOf Try.f13 4) = FlMT.T4 := by kernel_rfl
theorem FlMT.bits4 : waitsOk FlMT.T4.2 FlMT.B4 = true := by kernel_rfl

set_option maxHeartbeats 8000000 in
set_option maxRecDepth 100000 in
theorem c_rMove (r k : Rc) (dx dy : Int) (hx : I64 dx) (hy : I64 dy) (W : World) : Calls Try.prog 13 #[.agg #[.int .i64 r.x, .int .i64 r.y, .int .i64 r.w, .int .i64 r.h], .agg #[.int .i64 k.x, .int .i64 k.y, .int .i64 k.w, .int .i64 k.h], .int .i64 dx, .int .i64 dy] W (RetR (moveP r k dx dy) W) := by
  unfold RetR
  have K1 := c_rShift r dx dy hx hy
  obtain ⟨s, hs⟩ : ∃ s, s = shiftP r dx dy := ⟨_, rfl⟩
  have em : moveP r k dx dy = if emptyB s || emptyB k then s else laidP (gripP s.x s.w k.x k.w) (gripP s.y s.h k.y k.h) s.w s.h := by rw [hs]; rfl
  rw [← hs] at K1
  rw [em]
  replace K1 := Aside0.mk K1
  have K2 := c_rEmpty s
  have K3 := c_rEmpty k
  clear hs em
  by_cases h : emptyB s = true
  · rw [h]
    rw [h] at K2
    rw [show (if (true || emptyB k) = true then s else laidP (gripP s.x s.w k.x k.w) (gripP s.y s.h k.y k.h) s.w s.h) = s by rw [Bool.true_or, if_pos rfl]]
    replace K2 := Aside0.mk K2
    clear K3 h
    go_enter Try.func13, Try.ntmps13
    go_wp2_with fail
    refine (K1.out _).mono ?_
    rintro e w1 ⟨rfl, hb⟩
    have B5 := Aside0.mk (blk_below (g := W.heap.size + 1) (o := .cells #[.int .i64 k.x, .int .i64 k.y, .int .i64 k.w, .int .i64 k.h] 23 (0, 0)) (by (repeat (first | exact new_at (by simp only [World.size_alloc, World.size_drew]; done) | refine blk_drew ?_ | refine blk_alloc ?_ _))) hb)
    have B8 := Aside0.mk (blk_below (g := W.heap.size + 1 + 1) (o := .cells #[.int .i64 0, .int .i64 0, .int .i64 0, .int .i64 0] 23 (0, 0)) (by (repeat (first | exact new_at (by simp only [World.size_alloc, World.size_drew]; done) | refine blk_drew ?_ | refine blk_alloc ?_ _))) hb)
    have qB := below_step (w := W) (by (repeat (first | exact Below.refl _ _ | apply below_alloc))) hb
    have B9 := Aside0.mk (blk_new w1 (.cells #[.int .i64 s.x, .int .i64 s.y, .int .i64 s.w, .int .i64 s.h] 23 (0, 0)))
    replace B5 := Aside0.mk (blk_alloc B5.out (.cells #[.int .i64 s.x, .int .i64 s.y, .int .i64 s.w, .int .i64 s.h] 23 (0, 0)))
    replace B8 := Aside0.mk (blk_alloc B8.out (.cells #[.int .i64 s.x, .int .i64 s.y, .int .i64 s.w, .int .i64 s.h] 23 (0, 0)))
    have HS : W.heap.size + 1 + 1 < w1.heap.size := by have := hb.size; simp only [World.size_alloc] at this; omega
    replace qB := below_alloc qB (.cells #[.int .i64 s.x, .int .i64 s.y, .int .i64 s.w, .int .i64 s.h] 23 (0, 0))
    clear hb
    go_wp2_with fail
    generalize hw2 : w1.alloc (.cells #[.int .i64 s.x, .int .i64 s.y, .int .i64 s.w, .int .i64 s.h] 23 (0, 0)) = w2 at qB B5 B8 B9 ⊢
    clear hw2
    obtain ⟨g9, hg9⟩ : ∃ g, w1.heap.size = g := ⟨_, rfl⟩
    rw [hg9] at HS B9 ⊢
    clear hg9
    refine (K2.out _).mono ?_
    rintro e w3 ⟨rfl, hb⟩
    replace B5 := Aside0.mk (blk_below B5.out hb)
    replace B8 := Aside0.mk (blk_below B8.out hb)
    replace B9 := Aside0.mk (blk_below B9.out hb)
    replace qB := below_step (w := W) qB hb
    clear hb
    have p0 : w3.cell? ⟨g9, 0, none⟩ = some (.int .i64 (s.x)) := (blk_cell B9.out 0).trans rfl
    have fp0 := blk_frozen B9.out 0
    have p1 : w3.cell? ⟨g9, 1, none⟩ = some (.int .i64 (s.y)) := (blk_cell B9.out 1).trans rfl
    have fp1 := blk_frozen B9.out 1
    have p2 : w3.cell? ⟨g9, 2, none⟩ = some (.int .i64 (s.w)) := (blk_cell B9.out 2).trans rfl
    have fp2 := blk_frozen B9.out 2
    have p3 : w3.cell? ⟨g9, 3, none⟩ = some (.int .i64 (s.h)) := (blk_cell B9.out 3).trans rfl
    have fp3 := blk_frozen B9.out 3
    have q0 : w3.cell? ⟨W.heap.size + 1 + 1, 0, none⟩ = some (.int .i64 (0)) := (blk_cell B8.out 0).trans rfl
    have fq0 := blk_frozen B8.out 0
    have q1 : w3.cell? ⟨W.heap.size + 1 + 1, 1, none⟩ = some (.int .i64 (0)) := (blk_cell B8.out 1).trans rfl
    have fq1 := blk_frozen B8.out 1
    have q2 : w3.cell? ⟨W.heap.size + 1 + 1, 2, none⟩ = some (.int .i64 (0)) := (blk_cell B8.out 2).trans rfl
    have fq2 := blk_frozen B8.out 2
    have q3 : w3.cell? ⟨W.heap.size + 1 + 1, 3, none⟩ = some (.int .i64 (0)) := (blk_cell B8.out 3).trans rfl
    have fq3 := blk_frozen B8.out 3
    go_wp2
    exact bodyPost_ret (v := .agg #[.int .i64 s.x, .int .i64 s.y, .int .i64 s.w, .int .i64 s.h]) (by simp [results, Try.results13, go_sem, q0, fq0, q1, fq1, q2, fq2, q3, fq3]) rfl ⟨rfl, by (repeat (refine below_set ?_ (by omega))); exact qB⟩
  · simp only [Bool.not_eq_true] at h
    by_cases h' : emptyB k = true
    · rw [h, h']
      rw [h] at K2
      rw [h'] at K3
      rw [show (if (false || true) = true then s else laidP (gripP s.x s.w k.x k.w) (gripP s.y s.h k.y k.h) s.w s.h) = s from rfl]
      replace K2 := Aside0.mk K2
      replace K3 := Aside0.mk K3
      clear h h'
      go_enter Try.func13, Try.ntmps13
      go_wp2_with fail
      refine (K1.out _).mono ?_
      rintro e w1 ⟨rfl, hb⟩
      have B5 := Aside0.mk (blk_below (g := W.heap.size + 1) (o := .cells #[.int .i64 k.x, .int .i64 k.y, .int .i64 k.w, .int .i64 k.h] 23 (0, 0)) (by (repeat (first | exact new_at (by simp only [World.size_alloc, World.size_drew]; done) | refine blk_drew ?_ | refine blk_alloc ?_ _))) hb)
      have B8 := Aside0.mk (blk_below (g := W.heap.size + 1 + 1) (o := .cells #[.int .i64 0, .int .i64 0, .int .i64 0, .int .i64 0] 23 (0, 0)) (by (repeat (first | exact new_at (by simp only [World.size_alloc, World.size_drew]; done) | refine blk_drew ?_ | refine blk_alloc ?_ _))) hb)
      have qB := below_step (w := W) (by (repeat (first | exact Below.refl _ _ | apply below_alloc))) hb
      have B9 := Aside0.mk (blk_new w1 (.cells #[.int .i64 s.x, .int .i64 s.y, .int .i64 s.w, .int .i64 s.h] 23 (0, 0)))
      replace B5 := Aside0.mk (blk_alloc B5.out (.cells #[.int .i64 s.x, .int .i64 s.y, .int .i64 s.w, .int .i64 s.h] 23 (0, 0)))
      replace B8 := Aside0.mk (blk_alloc B8.out (.cells #[.int .i64 s.x, .int .i64 s.y, .int .i64 s.w, .int .i64 s.h] 23 (0, 0)))
      have HS : W.heap.size + 1 + 1 < w1.heap.size := by have := hb.size; simp only [World.size_alloc] at this; omega
      replace qB := below_alloc qB (.cells #[.int .i64 s.x, .int .i64 s.y, .int .i64 s.w, .int .i64 s.h] 23 (0, 0))
      clear hb
      go_wp2_with fail
      generalize hw2 : w1.alloc (.cells #[.int .i64 s.x, .int .i64 s.y, .int .i64 s.w, .int .i64 s.h] 23 (0, 0)) = w2 at qB B5 B8 B9 ⊢
      clear hw2
      obtain ⟨g9, hg9⟩ : ∃ g, w1.heap.size = g := ⟨_, rfl⟩
      rw [hg9] at HS B9 ⊢
      clear hg9
      refine (K2.out _).mono ?_
      rintro e w3 ⟨rfl, hb⟩
      replace B5 := Aside0.mk (blk_below B5.out hb)
      replace B8 := Aside0.mk (blk_below B8.out hb)
      replace B9 := Aside0.mk (blk_below B9.out hb)
      replace qB := below_step (w := W) qB hb
      clear hb
      have k0 : w3.cell? ⟨W.heap.size + 1, 0, none⟩ = some (.int .i64 (k.x)) := (blk_cell B5.out 0).trans rfl
      have fk0 := blk_frozen B5.out 0
      have k1 : w3.cell? ⟨W.heap.size + 1, 1, none⟩ = some (.int .i64 (k.y)) := (blk_cell B5.out 1).trans rfl
      have fk1 := blk_frozen B5.out 1
      have k2 : w3.cell? ⟨W.heap.size + 1, 2, none⟩ = some (.int .i64 (k.w)) := (blk_cell B5.out 2).trans rfl
      have fk2 := blk_frozen B5.out 2
      have k3 : w3.cell? ⟨W.heap.size + 1, 3, none⟩ = some (.int .i64 (k.h)) := (blk_cell B5.out 3).trans rfl
      have fk3 := blk_frozen B5.out 3
      go_wp2_with fail
      refine (K3.out _).mono ?_
      rintro e w4 ⟨rfl, hb⟩
      clear k0 fk0 k1 fk1 k2 fk2 k3 fk3
      replace B5 := Aside0.mk (blk_below B5.out hb)
      replace B8 := Aside0.mk (blk_below B8.out hb)
      replace B9 := Aside0.mk (blk_below B9.out hb)
      replace qB := below_step (w := W) qB hb
      clear hb
      have p0 : w4.cell? ⟨g9, 0, none⟩ = some (.int .i64 (s.x)) := (blk_cell B9.out 0).trans rfl
      have fp0 := blk_frozen B9.out 0
      have p1 : w4.cell? ⟨g9, 1, none⟩ = some (.int .i64 (s.y)) := (blk_cell B9.out 1).trans rfl
      have fp1 := blk_frozen B9.out 1
      have p2 : w4.cell? ⟨g9, 2, none⟩ = some (.int .i64 (s.w)) := (blk_cell B9.out 2).trans rfl
      have fp2 := blk_frozen B9.out 2
      have p3 : w4.cell? ⟨g9, 3, none⟩ = some (.int .i64 (s.h)) := (blk_cell B9.out 3).trans rfl
      have fp3 := blk_frozen B9.out 3
      have q0 : w4.cell? ⟨W.heap.size + 1 + 1, 0, none⟩ = some (.int .i64 (0)) := (blk_cell B8.out 0).trans rfl
      have fq0 := blk_frozen B8.out 0
      have q1 : w4.cell? ⟨W.heap.size + 1 + 1, 1, none⟩ = some (.int .i64 (0)) := (blk_cell B8.out 1).trans rfl
      have fq1 := blk_frozen B8.out 1
      have q2 : w4.cell? ⟨W.heap.size + 1 + 1, 2, none⟩ = some (.int .i64 (0)) := (blk_cell B8.out 2).trans rfl
      have fq2 := blk_frozen B8.out 2
      have q3 : w4.cell? ⟨W.heap.size + 1 + 1, 3, none⟩ = some (.int .i64 (0)) := (blk_cell B8.out 3).trans rfl
      have fq3 := blk_frozen B8.out 3
      go_wp2
      exact bodyPost_ret (v := .agg #[.int .i64 s.x, .int .i64 s.y, .int .i64 s.w, .int .i64 s.h]) (by simp [results, Try.results13, go_sem, q0, fq0, q1, fq1, q2, fq2, q3, fq3]) rfl ⟨rfl, by (repeat (refine below_set ?_ (by omega))); exact qB⟩
    · simp only [Bool.not_eq_true] at h'
      rw [h, h']
      have g1 : sideB s.x s.w = true ∧ sideB s.y s.h = true := by have := (emptyB_false.1 h).1; simpa [rightB] using this
      have g2 : sideB k.x k.w = true ∧ sideB k.y k.h = true := by have := (emptyB_false.1 h').1; simpa [rightB] using this
      rw [h] at K2
      rw [h'] at K3
      rw [show (if (false || false) = true then s else laidP (gripP s.x s.w k.x k.w) (gripP s.y s.h k.y k.h) s.w s.h) = laidP (gripP s.x s.w k.x k.w) (gripP s.y s.h k.y k.h) s.w s.h from rfl]
      have KA := c_held s.x s.w k.x k.w g1.1 g2.1
      have KB := c_held s.y s.h k.y k.h g1.2 g2.2
      have KL := c_rLaid (gripP s.x s.w k.x k.w) (gripP s.y s.h k.y k.h) s.w s.h (grip_bd g1.1 g2.1) (grip_bd g1.2 g2.2)
      obtain ⟨gx, hgx⟩ : ∃ g, g = gripP s.x s.w k.x k.w := ⟨_, rfl⟩
      obtain ⟨gy, hgy⟩ : ∃ g, g = gripP s.y s.h k.y k.h := ⟨_, rfl⟩
      rw [← hgx] at KA KL ⊢
      rw [← hgy] at KB KL ⊢
      obtain ⟨L, hL⟩ : ∃ L, L = laidP gx gy s.w s.h := ⟨_, rfl⟩
      rw [← hL] at KL ⊢
      replace K2 := Aside0.mk K2; replace K3 := Aside0.mk K3; replace KA := Aside0.mk KA; replace KB := Aside0.mk KB; replace KL := Aside0.mk KL
      clear h h' g1 g2 hgx hgy hL
      go_enter Try.func13, Try.ntmps13
      go_wp2_with fail
      refine (K1.out _).mono ?_
      rintro e w1 ⟨rfl, hb⟩
      have B5 := Aside0.mk (blk_below (g := W.heap.size + 1) (o := .cells #[.int .i64 k.x, .int .i64 k.y, .int .i64 k.w, .int .i64 k.h] 23 (0, 0)) (by (repeat (first | exact new_at (by simp only [World.size_alloc, World.size_drew]; done) | refine blk_drew ?_ | refine blk_alloc ?_ _))) hb)
      have B8 := Aside0.mk (blk_below (g := W.heap.size + 1 + 1) (o := .cells #[.int .i64 0, .int .i64 0, .int .i64 0, .int .i64 0] 23 (0, 0)) (by (repeat (first | exact new_at (by simp only [World.size_alloc, World.size_drew]; done) | refine blk_drew ?_ | refine blk_alloc ?_ _))) hb)
      have qB := below_step (w := W) (by (repeat (first | exact Below.refl _ _ | apply below_alloc))) hb
      have B9 := Aside0.mk (blk_new w1 (.cells #[.int .i64 s.x, .int .i64 s.y, .int .i64 s.w, .int .i64 s.h] 23 (0, 0)))
      replace B5 := Aside0.mk (blk_alloc B5.out (.cells #[.int .i64 s.x, .int .i64 s.y, .int .i64 s.w, .int .i64 s.h] 23 (0, 0)))
      replace B8 := Aside0.mk (blk_alloc B8.out (.cells #[.int .i64 s.x, .int .i64 s.y, .int .i64 s.w, .int .i64 s.h] 23 (0, 0)))
      have HS : W.heap.size + 1 + 1 < w1.heap.size := by have := hb.size; simp only [World.size_alloc] at this; omega
      replace qB := below_alloc qB (.cells #[.int .i64 s.x, .int .i64 s.y, .int .i64 s.w, .int .i64 s.h] 23 (0, 0))
      clear hb
      go_wp2_with fail
      generalize hw2 : w1.alloc (.cells #[.int .i64 s.x, .int .i64 s.y, .int .i64 s.w, .int .i64 s.h] 23 (0, 0)) = w2 at qB B5 B8 B9 ⊢
      clear hw2
      obtain ⟨g9, hg9⟩ : ∃ g, w1.heap.size = g := ⟨_, rfl⟩
      rw [hg9] at HS B9 ⊢
      clear hg9
      refine (K2.out _).mono ?_
      rintro e w3 ⟨rfl, hb⟩
      replace B5 := Aside0.mk (blk_below B5.out hb)
      replace B8 := Aside0.mk (blk_below B8.out hb)
      replace B9 := Aside0.mk (blk_below B9.out hb)
      replace qB := below_step (w := W) qB hb
      clear hb
      have k0 : w3.cell? ⟨W.heap.size + 1, 0, none⟩ = some (.int .i64 (k.x)) := (blk_cell B5.out 0).trans rfl
      have fk0 := blk_frozen B5.out 0
      have k1 : w3.cell? ⟨W.heap.size + 1, 1, none⟩ = some (.int .i64 (k.y)) := (blk_cell B5.out 1).trans rfl
      have fk1 := blk_frozen B5.out 1
      have k2 : w3.cell? ⟨W.heap.size + 1, 2, none⟩ = some (.int .i64 (k.w)) := (blk_cell B5.out 2).trans rfl
      have fk2 := blk_frozen B5.out 2
      have k3 : w3.cell? ⟨W.heap.size + 1, 3, none⟩ = some (.int .i64 (k.h)) := (blk_cell B5.out 3).trans rfl
      have fk3 := blk_frozen B5.out 3
      go_wp2_with fail
      refine (K3.out _).mono ?_
      rintro e w4 ⟨rfl, hb⟩
      clear k0 fk0 k1 fk1 k2 fk2 k3 fk3
      replace B5 := Aside0.mk (blk_below B5.out hb)
      replace B8 := Aside0.mk (blk_below B8.out hb)
      replace B9 := Aside0.mk (blk_below B9.out hb)
      replace qB := below_step (w := W) qB hb
      clear hb
      have p0 : w4.cell? ⟨g9, 0, none⟩ = some (.int .i64 (s.x)) := (blk_cell B9.out 0).trans rfl
      have fp0 := blk_frozen B9.out 0
      have p1 : w4.cell? ⟨g9, 1, none⟩ = some (.int .i64 (s.y)) := (blk_cell B9.out 1).trans rfl
      have fp1 := blk_frozen B9.out 1
      have p2 : w4.cell? ⟨g9, 2, none⟩ = some (.int .i64 (s.w)) := (blk_cell B9.out 2).trans rfl
      have fp2 := blk_frozen B9.out 2
      have p3 : w4.cell? ⟨g9, 3, none⟩ = some (.int .i64 (s.h)) := (blk_cell B9.out 3).trans rfl
      have fp3 := blk_frozen B9.out 3
      have k0 : w4.cell? ⟨W.heap.size + 1, 0, none⟩ = some (.int .i64 (k.x)) := (blk_cell B5.out 0).trans rfl
      have fk0 := blk_frozen B5.out 0
      have k1 : w4.cell? ⟨W.heap.size + 1, 1, none⟩ = some (.int .i64 (k.y)) := (blk_cell B5.out 1).trans rfl
      have fk1 := blk_frozen B5.out 1
      have k2 : w4.cell? ⟨W.heap.size + 1, 2, none⟩ = some (.int .i64 (k.w)) := (blk_cell B5.out 2).trans rfl
      have fk2 := blk_frozen B5.out 2
      have k3 : w4.cell? ⟨W.heap.size + 1, 3, none⟩ = some (.int .i64 (k.h)) := (blk_cell B5.out 3).trans rfl
      have fk3 := blk_frozen B5.out 3
      go_wp2_with fail
      refine start_ (n := 24) (S := fun w' => w'.cell? ⟨g9, 0, none⟩ = some (.int .i64 s.x) ∧ w'.cell? ⟨g9, 1, none⟩ = some (.int .i64 s.y) ∧ w'.cell? ⟨g9, 2, none⟩ = some (.int .i64 s.w) ∧ w'.cell? ⟨g9, 3, none⟩ = some (.int .i64 s.h) ∧ w'.cell? ⟨W.heap.size + 1, 0, none⟩ = some (.int .i64 k.x) ∧ w'.cell? ⟨W.heap.size + 1, 1, none⟩ = some (.int .i64 k.y) ∧ w'.cell? ⟨W.heap.size + 1, 2, none⟩ = some (.int .i64 k.w) ∧ w'.cell? ⟨W.heap.size + 1, 3, none⟩ = some (.int .i64 k.h)) (ds := []) #[false, false, false, false, false, false, false, false, false, false, false, false, false, false, false, false, false, false, false, false, false, false, false, false] (by kernel_rfl) rfl rfl ⟨p0, p1, p2, p3, k0, k1, k2, k3⟩ (fun hHeld => ?_)
      refine with_tabW FlMT.tab4 FlMT.bits4 (fun HT_ HW_ => ?_)
      have qB0 := below_drew qB
      clear qB
      have qB := qB0
      clear qB0
      replace B8 := Aside0.mk (blk_drew B8.out)
      generalize w4.drew = wr at qB hHeld B8 ⊢
      refine pure_ (i := 0) (N := some 21) (v := ?_) (a' := ?_) #[true, false, false, false, false, false, false, false, false, false, false, false, false, false, false, false, false, false, false, false, false, false, false, false] rfl rfl (any_of HT_.out (by kernel_rfl)) (fun _ _ _ h => h) (Or.inl ⟨by rfl, ?_⟩) ?_ ?_
      rotate_left
      · intro w'
        go_simp
        with_reducible rfl
      rotate_left
      · simp only [Act.put, List.setIfInBounds_toArray, List.set_cons_zero, List.set_cons_succ, i64_w, i32_w]
        rfl
      refine take_ (i := 1) (N := some 22) (v := ?_) (a' := ?_) #[true, true, false, false, false, false, false, false, false, false, false, false, false, false, false, false, false, false, false, false, false, false, false, false] rfl rfl (take_ofW HT_.out HW_.out (by kernel_rfl)) (fun _ _ _ h => h) (Or.inl ⟨by rfl, ?_⟩) hHeld ?_ ?_
      rotate_left
      · rintro w' ⟨s0, s1, s2, s3, s4, s5, s6, s7⟩
        go_simp
        with_reducible rfl
      rotate_left
      · simp only [Act.put, List.setIfInBounds_toArray, List.set_cons_zero, List.set_cons_succ, i64_w, i32_w]
        rfl
      refine pure_ (i := 2) (N := some 23) (v := ?_) (a' := ?_) #[true, true, true, false, false, false, false, false, false, false, false, false, false, false, false, false, false, false, false, false, false, false, false, false] rfl rfl (any_of HT_.out (by kernel_rfl)) (fun _ _ _ h => h) (Or.inl ⟨by rfl, ?_⟩) ?_ ?_
      rotate_left
      · intro w'
        go_simp
        with_reducible rfl
      rotate_left
      · simp only [Act.put, List.setIfInBounds_toArray, List.set_cons_zero, List.set_cons_succ, i64_w, i32_w]
        rfl
      refine take_ (i := 3) (N := some 24) (v := ?_) (a' := ?_) #[true, true, true, true, false, false, false, false, false, false, false, false, false, false, false, false, false, false, false, false, false, false, false, false] rfl rfl (take_ofW HT_.out HW_.out (by kernel_rfl)) (fun _ _ _ h => h) (Or.inl ⟨by rfl, ?_⟩) hHeld ?_ ?_
      rotate_left
      · rintro w' ⟨s0, s1, s2, s3, s4, s5, s6, s7⟩
        go_simp
        with_reducible rfl
      rotate_left
      · simp only [Act.put, List.setIfInBounds_toArray, List.set_cons_zero, List.set_cons_succ, i64_w, i32_w]
        rfl
      refine pure_ (i := 4) (N := some 25) (v := ?_) (a' := ?_) #[true, true, true, true, true, false, false, false, false, false, false, false, false, false, false, false, false, false, false, false, false, false, false, false] rfl rfl (any_of HT_.out (by kernel_rfl)) (fun _ _ _ h => h) (Or.inl ⟨by rfl, ?_⟩) ?_ ?_
      rotate_left
      · intro w'
        go_simp
        with_reducible rfl
      rotate_left
      · simp only [Act.put, List.setIfInBounds_toArray, List.set_cons_zero, List.set_cons_succ, i64_w, i32_w]
        rfl
      refine take_ (i := 5) (N := some 26) (v := ?_) (a' := ?_) #[true, true, true, true, true, true, false, false, false, false, false, false, false, false, false, false, false, false, false, false, false, false, false, false] rfl rfl (take_ofW HT_.out HW_.out (by kernel_rfl)) (fun _ _ _ h => h) (Or.inl ⟨by rfl, ?_⟩) hHeld ?_ ?_
      rotate_left
      · rintro w' ⟨s0, s1, s2, s3, s4, s5, s6, s7⟩
        go_simp
        with_reducible rfl
      rotate_left
      · simp only [Act.put, List.setIfInBounds_toArray, List.set_cons_zero, List.set_cons_succ, i64_w, i32_w]
        rfl
      refine pure_ (i := 6) (N := some 27) (v := ?_) (a' := ?_) #[true, true, true, true, true, true, true, false, false, false, false, false, false, false, false, false, false, false, false, false, false, false, false, false] rfl rfl (any_of HT_.out (by kernel_rfl)) (fun _ _ _ h => h) (Or.inl ⟨by rfl, ?_⟩) ?_ ?_
      rotate_left
      · intro w'
        go_simp
        with_reducible rfl
      rotate_left
      · simp only [Act.put, List.setIfInBounds_toArray, List.set_cons_zero, List.set_cons_succ, i64_w, i32_w]
        rfl
      refine take_ (i := 7) (N := some 28) (v := ?_) (a' := ?_) #[true, true, true, true, true, true, true, true, false, false, false, false, false, false, false, false, false, false, false, false, false, false, false, false] rfl rfl (take_ofW HT_.out HW_.out (by kernel_rfl)) (fun _ _ _ h => h) (Or.inl ⟨by rfl, ?_⟩) hHeld ?_ ?_
      rotate_left
      · rintro w' ⟨s0, s1, s2, s3, s4, s5, s6, s7⟩
        go_simp
        with_reducible rfl
      rotate_left
      · simp only [Act.put, List.setIfInBounds_toArray, List.set_cons_zero, List.set_cons_succ, i64_w, i32_w]
        rfl
      refine pure_ (i := 9) (N := some 30) (v := ?_) (a' := ?_) #[true, true, true, true, true, true, true, true, false, true, false, false, false, false, false, false, false, false, false, false, false, false, false, false] rfl rfl (any_of HT_.out (by kernel_rfl)) (fun _ _ _ h => h) (Or.inl ⟨by rfl, ?_⟩) ?_ ?_
      rotate_left
      · intro w'
        go_simp
        with_reducible rfl
      rotate_left
      · simp only [Act.put, List.setIfInBounds_toArray, List.set_cons_zero, List.set_cons_succ, i64_w, i32_w]
        rfl
      refine take_ (i := 10) (N := some 31) (v := ?_) (a' := ?_) #[true, true, true, true, true, true, true, true, false, true, true, false, false, false, false, false, false, false, false, false, false, false, false, false] rfl rfl (take_ofW HT_.out HW_.out (by kernel_rfl)) (fun _ _ _ h => h) (Or.inl ⟨by rfl, ?_⟩) hHeld ?_ ?_
      rotate_left
      · rintro w' ⟨s0, s1, s2, s3, s4, s5, s6, s7⟩
        go_simp
        with_reducible rfl
      rotate_left
      · simp only [Act.put, List.setIfInBounds_toArray, List.set_cons_zero, List.set_cons_succ, i64_w, i32_w]
        rfl
      refine pure_ (i := 11) (N := some 32) (v := ?_) (a' := ?_) #[true, true, true, true, true, true, true, true, false, true, true, true, false, false, false, false, false, false, false, false, false, false, false, false] rfl rfl (any_of HT_.out (by kernel_rfl)) (fun _ _ _ h => h) (Or.inl ⟨by rfl, ?_⟩) ?_ ?_
      rotate_left
      · intro w'
        go_simp
        with_reducible rfl
      rotate_left
      · simp only [Act.put, List.setIfInBounds_toArray, List.set_cons_zero, List.set_cons_succ, i64_w, i32_w]
        rfl
      refine take_ (i := 12) (N := some 33) (v := ?_) (a' := ?_) #[true, true, true, true, true, true, true, true, false, true, true, true, true, false, false, false, false, false, false, false, false, false, false, false] rfl rfl (take_ofW HT_.out HW_.out (by kernel_rfl)) (fun _ _ _ h => h) (Or.inl ⟨by rfl, ?_⟩) hHeld ?_ ?_
      rotate_left
      · rintro w' ⟨s0, s1, s2, s3, s4, s5, s6, s7⟩
        go_simp
        with_reducible rfl
      rotate_left
      · simp only [Act.put, List.setIfInBounds_toArray, List.set_cons_zero, List.set_cons_succ, i64_w, i32_w]
        rfl
      refine pure_ (i := 13) (N := some 34) (v := ?_) (a' := ?_) #[true, true, true, true, true, true, true, true, false, true, true, true, true, true, false, false, false, false, false, false, false, false, false, false] rfl rfl (any_of HT_.out (by kernel_rfl)) (fun _ _ _ h => h) (Or.inl ⟨by rfl, ?_⟩) ?_ ?_
      rotate_left
      · intro w'
        go_simp
        with_reducible rfl
      rotate_left
      · simp only [Act.put, List.setIfInBounds_toArray, List.set_cons_zero, List.set_cons_succ, i64_w, i32_w]
        rfl
      refine take_ (i := 14) (N := some 35) (v := ?_) (a' := ?_) #[true, true, true, true, true, true, true, true, false, true, true, true, true, true, true, false, false, false, false, false, false, false, false, false] rfl rfl (take_ofW HT_.out HW_.out (by kernel_rfl)) (fun _ _ _ h => h) (Or.inl ⟨by rfl, ?_⟩) hHeld ?_ ?_
      rotate_left
      · rintro w' ⟨s0, s1, s2, s3, s4, s5, s6, s7⟩
        go_simp
        with_reducible rfl
      rotate_left
      · simp only [Act.put, List.setIfInBounds_toArray, List.set_cons_zero, List.set_cons_succ, i64_w, i32_w]
        rfl
      refine pure_ (i := 15) (N := some 36) (v := ?_) (a' := ?_) #[true, true, true, true, true, true, true, true, false, true, true, true, true, true, true, true, false, false, false, false, false, false, false, false] rfl rfl (any_of HT_.out (by kernel_rfl)) (fun _ _ _ h => h) (Or.inl ⟨by rfl, ?_⟩) ?_ ?_
      rotate_left
      · intro w'
        go_simp
        with_reducible rfl
      rotate_left
      · simp only [Act.put, List.setIfInBounds_toArray, List.set_cons_zero, List.set_cons_succ, i64_w, i32_w]
        rfl
      refine take_ (i := 16) (N := some 37) (v := ?_) (a' := ?_) #[true, true, true, true, true, true, true, true, false, true, true, true, true, true, true, true, true, false, false, false, false, false, false, false] rfl rfl (take_ofW HT_.out HW_.out (by kernel_rfl)) (fun _ _ _ h => h) (Or.inl ⟨by rfl, ?_⟩) hHeld ?_ ?_
      rotate_left
      · rintro w' ⟨s0, s1, s2, s3, s4, s5, s6, s7⟩
        go_simp
        with_reducible rfl
      rotate_left
      · simp only [Act.put, List.setIfInBounds_toArray, List.set_cons_zero, List.set_cons_succ, i64_w, i32_w]
        rfl
      refine pure_ (i := 18) (N := some 39) (v := ?_) (a' := ?_) #[true, true, true, true, true, true, true, true, false, true, true, true, true, true, true, true, true, false, true, false, false, false, false, false] rfl rfl (any_of HT_.out (by kernel_rfl)) (fun _ _ _ h => h) (Or.inl ⟨by rfl, ?_⟩) ?_ ?_
      rotate_left
      · intro w'
        go_simp
        with_reducible rfl
      rotate_left
      · simp only [Act.put, List.setIfInBounds_toArray, List.set_cons_zero, List.set_cons_succ, i64_w, i32_w]
        rfl
      refine take_ (i := 19) (N := some 40) (v := ?_) (a' := ?_) #[true, true, true, true, true, true, true, true, false, true, true, true, true, true, true, true, true, false, true, true, false, false, false, false] rfl rfl (take_ofW HT_.out HW_.out (by kernel_rfl)) (fun _ _ _ h => h) (Or.inl ⟨by rfl, ?_⟩) hHeld ?_ ?_
      rotate_left
      · rintro w' ⟨s0, s1, s2, s3, s4, s5, s6, s7⟩
        go_simp
        with_reducible rfl
      rotate_left
      · simp only [Act.put, List.setIfInBounds_toArray, List.set_cons_zero, List.set_cons_succ, i64_w, i32_w]
        rfl
      refine pure_ (i := 20) (N := some 41) (v := ?_) (a' := ?_) #[true, true, true, true, true, true, true, true, false, true, true, true, true, true, true, true, true, false, true, true, true, false, false, false] rfl rfl (any_of HT_.out (by kernel_rfl)) (fun _ _ _ h => h) (Or.inl ⟨by rfl, ?_⟩) ?_ ?_
      rotate_left
      · intro w'
        go_simp
        with_reducible rfl
      rotate_left
      · simp only [Act.put, List.setIfInBounds_toArray, List.set_cons_zero, List.set_cons_succ, i64_w, i32_w]
        rfl
      refine take_ (i := 21) (N := some 42) (v := ?_) (a' := ?_) #[true, true, true, true, true, true, true, true, false, true, true, true, true, true, true, true, true, false, true, true, true, true, false, false] rfl rfl (take_ofW HT_.out HW_.out (by kernel_rfl)) (fun _ _ _ h => h) (Or.inl ⟨by rfl, ?_⟩) hHeld ?_ ?_
      rotate_left
      · rintro w' ⟨s0, s1, s2, s3, s4, s5, s6, s7⟩
        go_simp
        with_reducible rfl
      rotate_left
      · simp only [Act.put, List.setIfInBounds_toArray, List.set_cons_zero, List.set_cons_succ, i64_w, i32_w]
        rfl
      refine one_ (i := 8) (N := some 29) #[true, true, true, true, true, true, true, true, true, true, true, true, true, true, true, true, true, false, true, true, true, true, false, false] rfl rfl (one_of HT_.out (by kernel_rfl)) (by decide) (fun K hK => ?_)
      refine goes_ Try.func39 (by kernel_rfl) rfl #[.int .i64 s.x, .int .i64 s.w, .int .i64 k.x, .int .i64 k.w] (by rfl) rfl rfl (by (try simp only [List.map_toArray, List.map_cons, List.map_nil]); first | done | rfl) ?_
      refine (KA.out _).mono ?_
      rintro e wn ⟨rfl, hb⟩
      refine ⟨_, rfl, ?_⟩
      obtain ⟨s0, s1, s2, s3, s4, s5, s6, s7⟩ := hHeld
      replace s0 := cell_held hb s0
      replace s1 := cell_held hb s1
      replace s2 := cell_held hb s2
      replace s3 := cell_held hb s3
      replace s4 := cell_held hb s4
      replace s5 := cell_held hb s5
      replace s6 := cell_held hb s6
      replace s7 := cell_held hb s7
      replace qB := below_step (w := W) qB hb
      replace B8 := Aside0.mk (blk_below B8.out hb)
      clear hb
      refine hK.out _ _ ⟨s0, s1, s2, s3, s4, s5, s6, s7⟩ (fun hHeld => ?_)
      clear hK K s0 s1 s2 s3 s4 s5 s6 s7
      refine norm_ (a' := ?_) ?_ ?_
      rotate_left
      · show Act.put _ (some 29) _ = _
        simp only [Act.put, List.setIfInBounds_toArray, List.set_cons_zero, List.set_cons_succ, i64_w, i32_w]
        rfl
      refine one_ (i := 17) (N := some 38) #[true, true, true, true, true, true, true, true, true, true, true, true, true, true, true, true, true, true, true, true, true, true, false, false] rfl rfl (one_of HT_.out (by kernel_rfl)) (by decide) (fun K hK => ?_)
      refine goes_ Try.func39 (by kernel_rfl) rfl #[.int .i64 s.y, .int .i64 s.h, .int .i64 k.y, .int .i64 k.h] (by rfl) rfl rfl (by (try simp only [List.map_toArray, List.map_cons, List.map_nil]); first | done | rfl) ?_
      refine (KB.out _).mono ?_
      rintro e wn ⟨rfl, hb⟩
      refine ⟨_, rfl, ?_⟩
      obtain ⟨s0, s1, s2, s3, s4, s5, s6, s7⟩ := hHeld
      replace s0 := cell_held hb s0
      replace s1 := cell_held hb s1
      replace s2 := cell_held hb s2
      replace s3 := cell_held hb s3
      replace s4 := cell_held hb s4
      replace s5 := cell_held hb s5
      replace s6 := cell_held hb s6
      replace s7 := cell_held hb s7
      replace qB := below_step (w := W) qB hb
      replace B8 := Aside0.mk (blk_below B8.out hb)
      clear hb
      refine hK.out _ _ ⟨s0, s1, s2, s3, s4, s5, s6, s7⟩ (fun hHeld => ?_)
      clear hK K s0 s1 s2 s3 s4 s5 s6 s7
      refine norm_ (a' := ?_) ?_ ?_
      rotate_left
      · show Act.put _ (some 38) _ = _
        simp only [Act.put, List.setIfInBounds_toArray, List.set_cons_zero, List.set_cons_succ, i64_w, i32_w]
        rfl
      refine one_ (i := 22) (N := some 43) #[true, true, true, true, true, true, true, true, true, true, true, true, true, true, true, true, true, true, true, true, true, true, true, false] rfl rfl (one_of HT_.out (by kernel_rfl)) (by decide) (fun K hK => ?_)
      refine goes_ Try.func33 (by kernel_rfl) rfl #[.int .i64 gx, .int .i64 gy, .int .i64 s.w, .int .i64 s.h] (by rfl) rfl rfl (by (try simp only [List.map_toArray, List.map_cons, List.map_nil]); first | done | rfl) ?_
      refine (KL.out _).mono ?_
      rintro e wn ⟨rfl, hb⟩
      refine ⟨_, rfl, ?_⟩
      obtain ⟨s0, s1, s2, s3, s4, s5, s6, s7⟩ := hHeld
      replace s0 := cell_held hb s0
      replace s1 := cell_held hb s1
      replace s2 := cell_held hb s2
      replace s3 := cell_held hb s3
      replace s4 := cell_held hb s4
      replace s5 := cell_held hb s5
      replace s6 := cell_held hb s6
      replace s7 := cell_held hb s7
      replace qB := below_step (w := W) qB hb
      replace B8 := Aside0.mk (blk_below B8.out hb)
      clear hb
      refine hK.out _ _ ⟨s0, s1, s2, s3, s4, s5, s6, s7⟩ (fun hHeld => ?_)
      clear hK K s0 s1 s2 s3 s4 s5 s6 s7
      refine norm_ (a' := ?_) ?_ ?_
      rotate_left
      · show Act.put _ (some 43) _ = _
        simp only [Act.put, List.setIfInBounds_toArray, List.set_cons_zero, List.set_cons_succ, i64_w, i32_w]
        rfl
      refine one_ (i := 23) (N := none) #[true, true, true, true, true, true, true, true, true, true, true, true, true, true, true, true, true, true, true, true, true, true, true, true] rfl rfl (one_of HT_.out (by kernel_rfl)) (by decide) (fun K hK => ?_)
      obtain ⟨s0, s1, s2, s3, s4, s5, s6, s7⟩ := hHeld
      have t0 : wn.cell? ⟨W.heap.size + 1 + 1, 0, none⟩ = some (.int .i64 0) := (blk_cell B8.out 0).trans rfl
      have ft0 := blk_frozen B8.out 0
      have t1 : wn.cell? ⟨W.heap.size + 1 + 1, 1, none⟩ = some (.int .i64 0) := (blk_cell B8.out 1).trans rfl
      have ft1 := blk_frozen B8.out 1
      have t2 : wn.cell? ⟨W.heap.size + 1 + 1, 2, none⟩ = some (.int .i64 0) := (blk_cell B8.out 2).trans rfl
      have ft2 := blk_frozen B8.out 2
      have t3 : wn.cell? ⟨W.heap.size + 1 + 1, 3, none⟩ = some (.int .i64 0) := (blk_cell B8.out 3).trans rfl
      have ft3 := blk_frozen B8.out 3
      refine skip_ (w1 := ?_) (by rfl) rfl ?_ ?_
      rotate_left
      · go_simp
        rfl
      refine hK.out _ _ ⟨put4_cell (g := W.heap.size + 1 + 1) (by omega) s0 _ _ _ _, put4_cell (g := W.heap.size + 1 + 1) (by omega) s1 _ _ _ _, put4_cell (g := W.heap.size + 1 + 1) (by omega) s2 _ _ _ _, put4_cell (g := W.heap.size + 1 + 1) (by omega) s3 _ _ _ _, put4_cell (g := W.heap.size + 1 + 1) (by omega) s4 _ _ _ _, put4_cell (g := W.heap.size + 1 + 1) (by omega) s5 _ _ _ _, put4_cell (g := W.heap.size + 1 + 1) (by omega) s6 _ _ _ _, put4_cell (g := W.heap.size + 1 + 1) (by omega) s7 _ _ _ _⟩ (fun hHeld => ?_)
      clear hK K
      refine done_ (done_of HT_.out (by kernel_rfl)) ?_
      go_wp2
      exact bodyPost_ret (v := .agg #[.int .i64 L.x, .int .i64 L.y, .int .i64 L.w, .int .i64 L.h]) (by simp [results, Try.results13, go_sem, t0, ft0, t1, ft1, t2, ft2, t3, ft3]) rfl ⟨rfl, by (repeat (refine below_set ?_ (by omega))); exact qB⟩
end Go.Proofs.Ytajpnmiblepmkaa.Fl
