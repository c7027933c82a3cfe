/- Clients in their frames: the contracts of Inner; FloatFrames. -/
import Derived.Test.YtajpnmiblepmkaaFlF

namespace Go.Proofs.Ytajpnmiblepmkaa.Fl
open Go.RowKit Go.Proofs.YtajpnmiblepmkaaW.PrintMore Go.Proofs.YtajpnmiblepmkaaW.PrintWords Go.Proofs.YtajpnmiblepmkaaW.PrintLast Go.Proofs.Ytajpnmiblepmkaa.Geo Go.Proofs.Ytajpnmiblepmkaa.Sz Go.Proofs.Ytajpnmiblepmkaa.Fl
set_option linter.unusedVariables false
set_option linter.unusedSimpArgs false
attribute [local go_sem] max2_int min2_int max_two min_two max_three min_three
attribute [local go_sem high] eqR
set_option maxHeartbeats 8000000 in
set_option maxRecDepth 100000 in
theorem c_inner (r : Rc) (g b t : Int) (W : World) : Calls Try.prog 24 #[.agg #[.int .i64 r.x, .int .i64 r.y, .int .i64 r.w, .int .i64 r.h], .agg #[.int .i64 g, .int .i64 b, .int .i64 t]] W (RetR (innerP r g b t) W) := by
  unfold RetR
  obtain ⟨L, hL⟩ : ∃ L, L = innerP r g b t := ⟨_, rfl⟩
  rw [← hL]
  have K2 := c_check g b t
  by_cases s : styleB g b t = true
  · rw [show chkI g b t = 0 by unfold chkI; rw [if_pos s]] at K2
    obtain ⟨⟨s1, s2⟩, ⟨s3, s4⟩, s5, s6⟩ := style_true.1 s
    have K3 := c_gInset r b (b + t) b b
    rw [show insetP r b (b + t) b b = L by rw [hL]; unfold innerP; rw [if_pos s]] at K3
    replace K2 := Aside0.mk K2; replace K3 := Aside0.mk K3
    clear hL s
    go_enter Try.func24, Try.ntmps24
    go_wp2_with fail
    refine (K2.out _).mono ?_
    rintro e w1 ⟨rfl, hb⟩
    have B2 := Aside0.mk (blk_below (g := W.heap.size) (o := .cells #[.int .i64 r.x, .int .i64 r.y, .int .i64 r.w, .int .i64 r.h] 23 (0, 0)) (by (repeat (first | exact new_at (by simp only [World.size_alloc, World.size_drew]; done) | refine blk_drew ?_ | refine blk_alloc ?_ _))) hb)
    have B3 := Aside0.mk (blk_below (g := W.heap.size + 1) (o := .cells #[.int .i64 g, .int .i64 b, .int .i64 t] 39 (0, 0)) (by (repeat (first | exact new_at (by simp only [World.size_alloc, World.size_drew]; done) | refine blk_drew ?_ | refine blk_alloc ?_ _))) hb)
    have B4 := Aside0.mk (blk_below (g := W.heap.size + 1 + 1) (o := .cells #[.int .i64 0, .int .i64 0, .int .i64 0, .int .i64 0] 23 (0, 0)) (by (repeat (first | exact new_at (by simp only [World.size_alloc, World.size_drew]; done) | refine blk_drew ?_ | refine blk_alloc ?_ _))) hb)
    have QB := Aside0.mk (below_step (w := W) (by (repeat (first | exact Below.refl _ _ | apply below_alloc))) hb)
    clear hb
    have p0 : w1.cell? ⟨W.heap.size, 0, none⟩ = some (.int .i64 (r.x)) := (blk_cell B2.out 0).trans rfl
    have p1 : w1.cell? ⟨W.heap.size, 1, none⟩ = some (.int .i64 (r.y)) := (blk_cell B2.out 1).trans rfl
    have p2 : w1.cell? ⟨W.heap.size, 2, none⟩ = some (.int .i64 (r.w)) := (blk_cell B2.out 2).trans rfl
    have p3 : w1.cell? ⟨W.heap.size, 3, none⟩ = some (.int .i64 (r.h)) := (blk_cell B2.out 3).trans rfl
    have v0 : w1.cell? ⟨W.heap.size + 1, 0, none⟩ = some (.int .i64 (g)) := (blk_cell B3.out 0).trans rfl
    have v1 : w1.cell? ⟨W.heap.size + 1, 1, none⟩ = some (.int .i64 (b)) := (blk_cell B3.out 1).trans rfl
    have v2 : w1.cell? ⟨W.heap.size + 1, 2, none⟩ = some (.int .i64 (t)) := (blk_cell B3.out 2).trans rfl
    go_wp2_with fail
    refine (K3.out _).mono ?_
    rintro e w2 ⟨rfl, hb⟩
    clear p0 p1 p2 p3 v0 v1 v2
    replace B4 := Aside0.mk (blk_below B4.out hb)
    replace QB := Aside0.mk (below_step (w := W) QB.out hb)
    clear hb
    have q0 : w2.cell? ⟨W.heap.size + 1 + 1, 0, none⟩ = some (.int .i64 (0)) := (blk_cell B4.out 0).trans rfl
    have fq0 := blk_frozen B4.out 0
    have q1 : w2.cell? ⟨W.heap.size + 1 + 1, 1, none⟩ = some (.int .i64 (0)) := (blk_cell B4.out 1).trans rfl
    have fq1 := blk_frozen B4.out 1
    have q2 : w2.cell? ⟨W.heap.size + 1 + 1, 2, none⟩ = some (.int .i64 (0)) := (blk_cell B4.out 2).trans rfl
    have fq2 := blk_frozen B4.out 2
    have q3 : w2.cell? ⟨W.heap.size + 1 + 1, 3, none⟩ = some (.int .i64 (0)) := (blk_cell B4.out 3).trans rfl
    have fq3 := blk_frozen B4.out 3
    go_wp2
    exact bodyPost_ret (v := .agg #[.int .i64 L.x, .int .i64 L.y, .int .i64 L.w, .int .i64 L.h]) (by simp [results, Try.results24, go_sem, q0, fq0, q1, fq1, q2, fq2, q3, fq3]) rfl ⟨rfl, by (repeat (refine below_set ?_ (by omega))); exact QB.out⟩
  · simp only [Bool.not_eq_true] at s
    rw [show chkI g b t = 1 by unfold chkI; rw [if_neg (by rw [s]; decide)]] at K2
    have eL : L = z4 := by rw [hL]; unfold innerP; rw [s]; rfl
    subst eL
    replace K2 := Aside0.mk K2
    clear hL s
    go_enter Try.func24, Try.ntmps24
    go_wp2_with fail
    refine (K2.out _).mono ?_
    rintro e w1 ⟨rfl, hb⟩
    have B2 := Aside0.mk (blk_below (g := W.heap.size) (o := .cells #[.int .i64 r.x, .int .i64 r.y, .int .i64 r.w, .int .i64 r.h] 23 (0, 0)) (by (repeat (first | exact new_at (by simp only [World.size_alloc, World.size_drew]; done) | refine blk_drew ?_ | refine blk_alloc ?_ _))) hb)
    have B3 := Aside0.mk (blk_below (g := W.heap.size + 1) (o := .cells #[.int .i64 g, .int .i64 b, .int .i64 t] 39 (0, 0)) (by (repeat (first | exact new_at (by simp only [World.size_alloc, World.size_drew]; done) | refine blk_drew ?_ | refine blk_alloc ?_ _))) hb)
    have B4 := Aside0.mk (blk_below (g := W.heap.size + 1 + 1) (o := .cells #[.int .i64 0, .int .i64 0, .int .i64 0, .int .i64 0] 23 (0, 0)) (by (repeat (first | exact new_at (by simp only [World.size_alloc, World.size_drew]; done) | refine blk_drew ?_ | refine blk_alloc ?_ _))) hb)
    have QB := Aside0.mk (below_step (w := W) (by (repeat (first | exact Below.refl _ _ | apply below_alloc))) hb)
    clear hb
    have q0 : w1.cell? ⟨W.heap.size + 1 + 1, 0, none⟩ = some (.int .i64 (0)) := (blk_cell B4.out 0).trans rfl
    have fq0 := blk_frozen B4.out 0
    have q1 : w1.cell? ⟨W.heap.size + 1 + 1, 1, none⟩ = some (.int .i64 (0)) := (blk_cell B4.out 1).trans rfl
    have fq1 := blk_frozen B4.out 1
    have q2 : w1.cell? ⟨W.heap.size + 1 + 1, 2, none⟩ = some (.int .i64 (0)) := (blk_cell B4.out 2).trans rfl
    have fq2 := blk_frozen B4.out 2
    have q3 : w1.cell? ⟨W.heap.size + 1 + 1, 3, none⟩ = some (.int .i64 (0)) := (blk_cell B4.out 3).trans rfl
    have fq3 := blk_frozen B4.out 3
    go_wp2
    exact bodyPost_ret (v := .agg #[.int .i64 0, .int .i64 0, .int .i64 0, .int .i64 0]) (by simp [results, Try.results24, go_sem, q0, fq0, q1, fq1, q2, fq2, q3, fq3]) rfl ⟨rfl, by (repeat (refine below_set ?_ (by omega))); exact QB.out⟩
set_option maxHeartbeats 8000000 in
set_option maxRecDepth 100000 in
theorem c_rinner (r : Rc) (g b t : Int) (W : World) : Calls Try.prog 25 #[.agg #[.int .i64 r.x, .int .i64 r.y, .int .i64 r.w, .int .i64 r.h], .agg #[.int .i64 g, .int .i64 b, .int .i64 t]] W (RetR (innerP r g b t) W) := by
  unfold RetR
  obtain ⟨L, hL⟩ : ∃ L, L = innerP r g b t := ⟨_, rfl⟩
  rw [← hL]
  have K2 := c_rcheck g b t
  by_cases s : styleB g b t = true
  · rw [show chkI g b t = 0 by unfold chkI; rw [if_pos s]] at K2
    obtain ⟨⟨s1, s2⟩, ⟨s3, s4⟩, s5, s6⟩ := style_true.1 s
    have K3 := c_rInset r b (b + t) b b
    rw [show insetP r b (b + t) b b = L by rw [hL]; unfold innerP; rw [if_pos s]] at K3
    replace K2 := Aside0.mk K2; replace K3 := Aside0.mk K3
    clear hL s
    go_enter Try.func25, Try.ntmps25
    go_wp2_with fail
    refine (K2.out _).mono ?_
    rintro e w1 ⟨rfl, hb⟩
    have B2 := Aside0.mk (blk_below (g := W.heap.size) (o := .cells #[.int .i64 r.x, .int .i64 r.y, .int .i64 r.w, .int .i64 r.h] 23 (0, 0)) (by (repeat (first | exact new_at (by simp only [World.size_alloc, World.size_drew]; done) | refine blk_drew ?_ | refine blk_alloc ?_ _))) hb)
    have B3 := Aside0.mk (blk_below (g := W.heap.size + 1) (o := .cells #[.int .i64 g, .int .i64 b, .int .i64 t] 39 (0, 0)) (by (repeat (first | exact new_at (by simp only [World.size_alloc, World.size_drew]; done) | refine blk_drew ?_ | refine blk_alloc ?_ _))) hb)
    have B4 := Aside0.mk (blk_below (g := W.heap.size + 1 + 1) (o := .cells #[.int .i64 0, .int .i64 0, .int .i64 0, .int .i64 0] 23 (0, 0)) (by (repeat (first | exact new_at (by simp only [World.size_alloc, World.size_drew]; done) | refine blk_drew ?_ | refine blk_alloc ?_ _))) hb)
    have QB := Aside0.mk (below_step (w := W) (by (repeat (first | exact Below.refl _ _ | apply below_alloc))) hb)
    clear hb
    have p0 : w1.cell? ⟨W.heap.size, 0, none⟩ = some (.int .i64 (r.x)) := (blk_cell B2.out 0).trans rfl
    have p1 : w1.cell? ⟨W.heap.size, 1, none⟩ = some (.int .i64 (r.y)) := (blk_cell B2.out 1).trans rfl
    have p2 : w1.cell? ⟨W.heap.size, 2, none⟩ = some (.int .i64 (r.w)) := (blk_cell B2.out 2).trans rfl
    have p3 : w1.cell? ⟨W.heap.size, 3, none⟩ = some (.int .i64 (r.h)) := (blk_cell B2.out 3).trans rfl
    have v0 : w1.cell? ⟨W.heap.size + 1, 0, none⟩ = some (.int .i64 (g)) := (blk_cell B3.out 0).trans rfl
    have v1 : w1.cell? ⟨W.heap.size + 1, 1, none⟩ = some (.int .i64 (b)) := (blk_cell B3.out 1).trans rfl
    have v2 : w1.cell? ⟨W.heap.size + 1, 2, none⟩ = some (.int .i64 (t)) := (blk_cell B3.out 2).trans rfl
    go_wp2_with fail
    refine (K3.out _).mono ?_
    rintro e w2 ⟨rfl, hb⟩
    clear p0 p1 p2 p3 v0 v1 v2
    replace B4 := Aside0.mk (blk_below B4.out hb)
    replace QB := Aside0.mk (below_step (w := W) QB.out hb)
    clear hb
    have q0 : w2.cell? ⟨W.heap.size + 1 + 1, 0, none⟩ = some (.int .i64 (0)) := (blk_cell B4.out 0).trans rfl
    have fq0 := blk_frozen B4.out 0
    have q1 : w2.cell? ⟨W.heap.size + 1 + 1, 1, none⟩ = some (.int .i64 (0)) := (blk_cell B4.out 1).trans rfl
    have fq1 := blk_frozen B4.out 1
    have q2 : w2.cell? ⟨W.heap.size + 1 + 1, 2, none⟩ = some (.int .i64 (0)) := (blk_cell B4.out 2).trans rfl
    have fq2 := blk_frozen B4.out 2
    have q3 : w2.cell? ⟨W.heap.size + 1 + 1, 3, none⟩ = some (.int .i64 (0)) := (blk_cell B4.out 3).trans rfl
    have fq3 := blk_frozen B4.out 3
    go_wp2
    exact bodyPost_ret (v := .agg #[.int .i64 L.x, .int .i64 L.y, .int .i64 L.w, .int .i64 L.h]) (by simp [results, Try.results25, go_sem, q0, fq0, q1, fq1, q2, fq2, q3, fq3]) rfl ⟨rfl, by (repeat (refine below_set ?_ (by omega))); exact QB.out⟩
  · simp only [Bool.not_eq_true] at s
    rw [show chkI g b t = 1 by unfold chkI; rw [if_neg (by rw [s]; decide)]] at K2
    have eL : L = z4 := by rw [hL]; unfold innerP; rw [s]; rfl
    subst eL
    replace K2 := Aside0.mk K2
    clear hL s
    go_enter Try.func25, Try.ntmps25
    go_wp2_with fail
    refine (K2.out _).mono ?_
    rintro e w1 ⟨rfl, hb⟩
    have B2 := Aside0.mk (blk_below (g := W.heap.size) (o := .cells #[.int .i64 r.x, .int .i64 r.y, .int .i64 r.w, .int .i64 r.h] 23 (0, 0)) (by (repeat (first | exact new_at (by simp only [World.size_alloc, World.size_drew]; done) | refine blk_drew ?_ | refine blk_alloc ?_ _))) hb)
    have B3 := Aside0.mk (blk_below (g := W.heap.size + 1) (o := .cells #[.int .i64 g, .int .i64 b, .int .i64 t] 39 (0, 0)) (by (repeat (first | exact new_at (by simp only [World.size_alloc, World.size_drew]; done) | refine blk_drew ?_ | refine blk_alloc ?_ _))) hb)
    have B4 := Aside0.mk (blk_below (g := W.heap.size + 1 + 1) (o := .cells #[.int .i64 0, .int .i64 0, .int .i64 0, .int .i64 0] 23 (0, 0)) (by (repeat (first | exact new_at (by simp only [World.size_alloc, World.size_drew]; done) | refine blk_drew ?_ | refine blk_alloc ?_ _))) hb)
    have QB := Aside0.mk (below_step (w := W) (by (repeat (first | exact Below.refl _ _ | apply below_alloc))) hb)
    clear hb
    have q0 : w1.cell? ⟨W.heap.size + 1 + 1, 0, none⟩ = some (.int .i64 (0)) := (blk_cell B4.out 0).trans rfl
    have fq0 := blk_frozen B4.out 0
    have q1 : w1.cell? ⟨W.heap.size + 1 + 1, 1, none⟩ = some (.int .i64 (0)) := (blk_cell B4.out 1).trans rfl
    have fq1 := blk_frozen B4.out 1
    have q2 : w1.cell? ⟨W.heap.size + 1 + 1, 2, none⟩ = some (.int .i64 (0)) := (blk_cell B4.out 2).trans rfl
    have fq2 := blk_frozen B4.out 2
    have q3 : w1.cell? ⟨W.heap.size + 1 + 1, 3, none⟩ = some (.int .i64 (0)) := (blk_cell B4.out 3).trans rfl
    have fq3 := blk_frozen B4.out 3
    go_wp2
    exact bodyPost_ret (v := .agg #[.int .i64 0, .int .i64 0, .int .i64 0, .int .i64 0]) (by simp [results, Try.results25, go_sem, q0, fq0, q1, fq1, q2, fq2, q3, fq3]) rfl ⟨rfl, by (repeat (refine below_set ?_ (by omega))); exact QB.out⟩
def FlNa.T3 : Bool × List (List Nat × List Nat) := (true, [([], []), ([], []), ([0, 1], [0, 1]), ([2], [2]), ([3], [3]), ([3], [3]), ([4, 5, 3], [3, 4, 5]), ([3, 6], [3, 6]), ([7, 3], [7]), ([8], [8]), ([8], [8]), ([9, 10, 8, 8], [8, 9, 10]), ([8], [8]), ([8], [8]), ([12, 13, 11, 8], [8, 12, 13]), ([11, 14, 8], [8, 11, 14]), ([8, 15], [8, 15])])
def FlNa.B3 : List Nat := [0, 0, 3, 7, 15, 15, 63, 127, 255, 511, 511, 2047, 511, 511, 16383, 32767, 65535]
theorem FlNa.tab3 : rtab .any (opsOf Try.f8 3) = FlNa.T3 := by kernel_rfl
theorem FlNa.bits3 : waitsOk FlNa.T3.2 FlNa.B3 = true := by kernel_rfl
def FlNb.T5 : Bool × List (List Nat × List Nat) := (true, [([], []), ([0], [0]), ([1], [1]), ([2], [2]), ([2], [2]), ([3, 4, 2, 2], [2, 3, 4]), ([2], [2]), ([5, 6, 2], [2, 5, 6]), ([2, 7], [2, 7]), ([8, 5], [8]), ([9, 9], [9]), ([9, 10], [9, 10]), ([11, 10, 0, 1, 2, 3, 4, 5, 6, 7, 8, 9, 10, 11], [11])])
def FlNb.B5 : List Nat := [0, 1, 3, 7, 7, 31, 7, 127, 255, 511, 1023, 2047, 4095]
theorem FlNb.tab5 : rtab .any (opsOf Try.f8 5) = FlNb.T5 := by kernel_rfl
theorem FlNb.bits5 : waitsOk FlNb.T5.2 FlNb.B5 = true := by kernel_rfl
set_option maxHeartbeats 16000000 in
set_option maxRecDepth 100000 in
theorem frames_any (r : Rc) (g b t : Int) (W : World) : Calls Try.prog 8 #[.agg #[.int .i64 r.x, .int .i64 r.y, .int .i64 r.w, .int .i64 r.h], .agg #[.int .i64 g, .int .i64 b, .int .i64 t]] W fun e w' => e = .returned (.bool true) ∧ Below W.heap.size W w' := by
  have K1 := c_frame r g b t
  have K2 := c_rframe r g b t
  have KI := c_inner r g b t
  have KJ := c_rinner r g b t
  have KA := c_inner (frameP r g b t) g b t
  have fb := frame_back (r := r) (g := g) (b := b) (t := t)
  obtain ⟨A, hA⟩ : ∃ A, A = frameP r g b t := ⟨_, rfl⟩
  obtain ⟨ok, hok⟩ : ∃ ok, ok = frameB r g b t := ⟨_, rfl⟩
  obtain ⟨J, hJ⟩ : ∃ J, J = innerP r g b t := ⟨_, rfl⟩
  rw [← hA, ← hok] at K1 K2
  rw [← hA] at KA fb
  rw [← hok] at fb
  rw [← hJ] at KI KJ
  replace K1 := Aside0.mk K1; replace K2 := Aside0.mk K2; replace KI := Aside0.mk KI; replace KJ := Aside0.mk KJ
  clear hA hok hJ
  cases ok
  · replace KA := Aside0.mk KA
    clear fb
    go_enter Try.func8, Try.ntmps8
    go_wp2_with fail
    refine (K1.out _).mono ?_
    rintro e w1 ⟨rfl, hb⟩
    have B2 := Aside0.mk (blk_below (g := W.heap.size) (o := .cells #[.int .i64 r.x, .int .i64 r.y, .int .i64 r.w, .int .i64 r.h] 23 (0, 0)) (by (repeat (first | exact new_at (by simp only [World.size_alloc, World.size_drew]; done) | refine blk_drew ?_ | refine blk_alloc ?_ _))) hb)
    have B3 := Aside0.mk (blk_below (g := W.heap.size + 1) (o := .cells #[.int .i64 g, .int .i64 b, .int .i64 t] 39 (0, 0)) (by (repeat (first | exact new_at (by simp only [World.size_alloc, World.size_drew]; done) | refine blk_drew ?_ | refine blk_alloc ?_ _))) hb)
    have qB := below_step (w := W) (by (repeat (first | exact Below.refl _ _ | apply below_alloc))) hb
    clear hb
    obtain ⟨g5, hg5⟩ : ∃ g, w1.heap.size = g := ⟨_, rfl⟩
    have B5 := Aside0.mk (show (w1.alloc (.cells #[.int .i64 A.x, .int .i64 A.y, .int .i64 A.w, .int .i64 A.h] 23 (0, 0))).heap[g5]? = some (.cells #[.int .i64 A.x, .int .i64 A.y, .int .i64 A.w, .int .i64 A.h] 23 (0, 0)) by rw [← hg5]; exact blk_new w1 _)
    replace B2 := Aside0.mk (blk_alloc B2.out (.cells #[.int .i64 A.x, .int .i64 A.y, .int .i64 A.w, .int .i64 A.h] 23 (0, 0))); replace B3 := Aside0.mk (blk_alloc B3.out (.cells #[.int .i64 A.x, .int .i64 A.y, .int .i64 A.w, .int .i64 A.h] 23 (0, 0)))
    replace qB := below_alloc qB (.cells #[.int .i64 A.x, .int .i64 A.y, .int .i64 A.w, .int .i64 A.h] 23 (0, 0))
    have k0 : (w1.alloc (.cells #[.int .i64 A.x, .int .i64 A.y, .int .i64 A.w, .int .i64 A.h] 23 (0, 0))).cell? ⟨W.heap.size, 0, none⟩ = some (.int .i64 (r.x)) := (blk_cell B2.out 0).trans rfl
    have k1 : (w1.alloc (.cells #[.int .i64 A.x, .int .i64 A.y, .int .i64 A.w, .int .i64 A.h] 23 (0, 0))).cell? ⟨W.heap.size, 1, none⟩ = some (.int .i64 (r.y)) := (blk_cell B2.out 1).trans rfl
    have k2 : (w1.alloc (.cells #[.int .i64 A.x, .int .i64 A.y, .int .i64 A.w, .int .i64 A.h] 23 (0, 0))).cell? ⟨W.heap.size, 2, none⟩ = some (.int .i64 (r.w)) := (blk_cell B2.out 2).trans rfl
    have k3 : (w1.alloc (.cells #[.int .i64 A.x, .int .i64 A.y, .int .i64 A.w, .int .i64 A.h] 23 (0, 0))).cell? ⟨W.heap.size, 3, none⟩ = some (.int .i64 (r.h)) := (blk_cell B2.out 3).trans rfl
    have v0 : (w1.alloc (.cells #[.int .i64 A.x, .int .i64 A.y, .int .i64 A.w, .int .i64 A.h] 23 (0, 0))).cell? ⟨W.heap.size + 1, 0, none⟩ = some (.int .i64 (g)) := (blk_cell B3.out 0).trans rfl
    have v1 : (w1.alloc (.cells #[.int .i64 A.x, .int .i64 A.y, .int .i64 A.w, .int .i64 A.h] 23 (0, 0))).cell? ⟨W.heap.size + 1, 1, none⟩ = some (.int .i64 (b)) := (blk_cell B3.out 1).trans rfl
    have v2 : (w1.alloc (.cells #[.int .i64 A.x, .int .i64 A.y, .int .i64 A.w, .int .i64 A.h] 23 (0, 0))).cell? ⟨W.heap.size + 1, 2, none⟩ = some (.int .i64 (t)) := (blk_cell B3.out 2).trans rfl
    go_wp2_with fail
    refine (K2.out _).mono ?_
    rintro e w3 ⟨rfl, hb⟩
    clear k0 k1 k2 k3 v0 v1 v2
    replace B2 := Aside0.mk (blk_below B2.out hb)
    replace B3 := Aside0.mk (blk_below B3.out hb)
    replace B5 := Aside0.mk (blk_below B5.out hb)
    replace qB := below_step (w := W) qB hb
    clear hb hg5
    obtain ⟨g7, hg7⟩ : ∃ g, w3.heap.size = g := ⟨_, rfl⟩
    have B7 := Aside0.mk (show (w3.alloc (.cells #[.int .i64 A.x, .int .i64 A.y, .int .i64 A.w, .int .i64 A.h] 23 (0, 0))).heap[g7]? = some (.cells #[.int .i64 A.x, .int .i64 A.y, .int .i64 A.w, .int .i64 A.h] 23 (0, 0)) by rw [← hg7]; exact blk_new w3 _)
    replace B2 := Aside0.mk (blk_alloc B2.out (.cells #[.int .i64 A.x, .int .i64 A.y, .int .i64 A.w, .int .i64 A.h] 23 (0, 0))); replace B3 := Aside0.mk (blk_alloc B3.out (.cells #[.int .i64 A.x, .int .i64 A.y, .int .i64 A.w, .int .i64 A.h] 23 (0, 0))); replace B5 := Aside0.mk (blk_alloc B5.out (.cells #[.int .i64 A.x, .int .i64 A.y, .int .i64 A.w, .int .i64 A.h] 23 (0, 0)))
    replace qB := below_alloc qB (.cells #[.int .i64 A.x, .int .i64 A.y, .int .i64 A.w, .int .i64 A.h] 23 (0, 0))
    go_wp2_with fail
    (try rw [hg7])
    generalize hw5 : w3.alloc (.cells #[.int .i64 A.x, .int .i64 A.y, .int .i64 A.w, .int .i64 A.h] 23 (0, 0)) = w5 at qB B2 B3 B5 B7 ⊢
    clear hw5 hg7
    have p0 : w5.cell? ⟨g5, 0, none⟩ = some (.int .i64 (A.x)) := (blk_cell B5.out 0).trans rfl
    have p1 : w5.cell? ⟨g5, 1, none⟩ = some (.int .i64 (A.y)) := (blk_cell B5.out 1).trans rfl
    have p2 : w5.cell? ⟨g5, 2, none⟩ = some (.int .i64 (A.w)) := (blk_cell B5.out 2).trans rfl
    have p3 : w5.cell? ⟨g5, 3, none⟩ = some (.int .i64 (A.h)) := (blk_cell B5.out 3).trans rfl
    have q0 : w5.cell? ⟨g7, 0, none⟩ = some (.int .i64 (A.x)) := (blk_cell B7.out 0).trans rfl
    have q1 : w5.cell? ⟨g7, 1, none⟩ = some (.int .i64 (A.y)) := (blk_cell B7.out 1).trans rfl
    have q2 : w5.cell? ⟨g7, 2, none⟩ = some (.int .i64 (A.w)) := (blk_cell B7.out 2).trans rfl
    have q3 : w5.cell? ⟨g7, 3, none⟩ = some (.int .i64 (A.h)) := (blk_cell B7.out 3).trans rfl
    have k0 : w5.cell? ⟨W.heap.size, 0, none⟩ = some (.int .i64 (r.x)) := (blk_cell B2.out 0).trans rfl
    have k1 : w5.cell? ⟨W.heap.size, 1, none⟩ = some (.int .i64 (r.y)) := (blk_cell B2.out 1).trans rfl
    have k2 : w5.cell? ⟨W.heap.size, 2, none⟩ = some (.int .i64 (r.w)) := (blk_cell B2.out 2).trans rfl
    have k3 : w5.cell? ⟨W.heap.size, 3, none⟩ = some (.int .i64 (r.h)) := (blk_cell B2.out 3).trans rfl
    have v0 : w5.cell? ⟨W.heap.size + 1, 0, none⟩ = some (.int .i64 (g)) := (blk_cell B3.out 0).trans rfl
    have v1 : w5.cell? ⟨W.heap.size + 1, 1, none⟩ = some (.int .i64 (b)) := (blk_cell B3.out 1).trans rfl
    have v2 : w5.cell? ⟨W.heap.size + 1, 2, none⟩ = some (.int .i64 (t)) := (blk_cell B3.out 2).trans rfl
    clear B2 B3 B5 B7
    refine start_ (n := 17) (S := fun w' => w'.cell? ⟨g5, 0, none⟩ = some (.int .i64 A.x) ∧ w'.cell? ⟨g5, 1, none⟩ = some (.int .i64 A.y) ∧ w'.cell? ⟨g5, 2, none⟩ = some (.int .i64 A.w) ∧ w'.cell? ⟨g5, 3, none⟩ = some (.int .i64 A.h) ∧ w'.cell? ⟨g7, 0, none⟩ = some (.int .i64 A.x) ∧ w'.cell? ⟨g7, 1, none⟩ = some (.int .i64 A.y) ∧ w'.cell? ⟨g7, 2, none⟩ = some (.int .i64 A.w) ∧ w'.cell? ⟨g7, 3, none⟩ = some (.int .i64 A.h) ∧ w'.cell? ⟨W.heap.size, 0, none⟩ = some (.int .i64 r.x) ∧ w'.cell? ⟨W.heap.size, 1, none⟩ = some (.int .i64 r.y) ∧ w'.cell? ⟨W.heap.size, 2, none⟩ = some (.int .i64 r.w) ∧ w'.cell? ⟨W.heap.size, 3, none⟩ = some (.int .i64 r.h) ∧ w'.cell? ⟨W.heap.size + 1, 0, none⟩ = some (.int .i64 g) ∧ w'.cell? ⟨W.heap.size + 1, 1, none⟩ = some (.int .i64 b) ∧ w'.cell? ⟨W.heap.size + 1, 2, none⟩ = some (.int .i64 t)) (ds := []) #[false, false, false, false, false, false, false, false, false, false, false, false, false, false, false, false, false] (by kernel_rfl) rfl rfl ⟨p0, p1, p2, p3, q0, q1, q2, q3, k0, k1, k2, k3, v0, v1, v2⟩ (fun hHeld => ?_)
    refine with_tabW FlNa.tab3 FlNa.bits3 (fun HT_ HW_ => ?_)
    have qB0 := below_drew qB
    clear qB
    have qB := qB0
    clear qB0
    generalize w5.drew = wr at qB hHeld ⊢
    refine take_ (i := 0) (N := some 21) (v := ?_) (a' := ?_) #[true, false, false, false, false, false, false, false, false, false, false, false, false, false, false, false, false] rfl rfl (take_ofW HT_.out HW_.out (by kernel_rfl)) (fun _ _ _ h => h) (Or.inl ⟨by rfl, ?_⟩) hHeld ?_ ?_
    rotate_left
    · rintro w' ⟨s0, s1, s2, s3, s4, s5, s6, s7, s8, s9, s10, s11, s12, s13, s14⟩
      go_simp
      with_reducible rfl
    rotate_left
    · simp only [Act.put, List.setIfInBounds_toArray, List.set_cons_zero, List.set_cons_succ, i64_w, i32_w]
      rfl
    refine take_ (i := 1) (N := some 22) (v := ?_) (a' := ?_) #[true, true, false, false, false, false, false, false, false, false, false, false, false, false, false, false, false] rfl rfl (take_ofW HT_.out HW_.out (by kernel_rfl)) (fun _ _ _ h => h) (Or.inl ⟨by rfl, ?_⟩) hHeld ?_ ?_
    rotate_left
    · rintro w' ⟨s0, s1, s2, s3, s4, s5, s6, s7, s8, s9, s10, s11, s12, s13, s14⟩
      go_simp
      with_reducible rfl
    rotate_left
    · simp only [Act.put, List.setIfInBounds_toArray, List.set_cons_zero, List.set_cons_succ, i64_w, i32_w]
      rfl
    refine pure_ (i := 2) (N := some 23) (v := ?_) (a' := ?_) #[true, true, true, false, false, false, false, false, false, false, false, false, false, false, false, false, false] rfl rfl (any_of HT_.out (by kernel_rfl)) (fun _ _ _ h => h) (Or.inl ⟨by rfl, ?_⟩) ?_ ?_
    rotate_left
    · intro w'
      go_simp
      with_reducible rfl
    rotate_left
    · simp only [Act.put, List.setIfInBounds_toArray, List.set_cons_zero, List.set_cons_succ, i64_w, i32_w]
      rfl
    refine pure_ (i := 3) (N := some 24) (v := ?_) (a' := ?_) #[true, true, true, true, false, false, false, false, false, false, false, false, false, false, false, false, false] rfl rfl (any_of HT_.out (by kernel_rfl)) (fun _ _ _ h => h) (Or.inl ⟨by rfl, ?_⟩) ?_ ?_
    rotate_left
    · intro w'
      go_simp
      with_reducible rfl
    rotate_left
    · simp only [Act.put, List.setIfInBounds_toArray, List.set_cons_zero, List.set_cons_succ, i64_w, i32_w]
      rfl
    refine pure_ (i := 4) (N := some 25) (v := ?_) (a' := ?_) #[true, true, true, true, true, false, false, false, false, false, false, false, false, false, false, false, false] rfl rfl (any_of HT_.out (by kernel_rfl)) (fun _ _ _ h => h) (Or.inl ⟨by rfl, ?_⟩) ?_ ?_
    rotate_left
    · intro w'
      go_simp
      with_reducible rfl
    rotate_left
    · simp only [Act.put, List.setIfInBounds_toArray, List.set_cons_zero, List.set_cons_succ, i64_w, i32_w]
      rfl
    refine pure_ (i := 5) (N := some 26) (v := ?_) (a' := ?_) #[true, true, true, true, true, true, false, false, false, false, false, false, false, false, false, false, false] rfl rfl (any_of HT_.out (by kernel_rfl)) (fun _ _ _ h => h) (Or.inl ⟨by rfl, ?_⟩) ?_ ?_
    rotate_left
    · intro w'
      go_simp
      with_reducible rfl
    rotate_left
    · simp only [Act.put, List.setIfInBounds_toArray, List.set_cons_zero, List.set_cons_succ, i64_w, i32_w]
      rfl
    refine pure_ (i := 6) (N := some 27) (v := ?_) (a' := ?_) #[true, true, true, true, true, true, true, false, false, false, false, false, false, false, false, false, false] rfl rfl (any_of HT_.out (by kernel_rfl)) (fun _ _ _ h => h) (Or.inl ⟨by rfl, ?_⟩) ?_ ?_
    rotate_left
    · intro w'
      go_simp
      with_reducible rfl
    rotate_left
    · simp only [Act.put, List.setIfInBounds_toArray, List.set_cons_zero, List.set_cons_succ, i64_w, i32_w]
      rfl
    refine pure_ (i := 7) (N := some 28) (v := ?_) (a' := ?_) #[true, true, true, true, true, true, true, true, false, false, false, false, false, false, false, false, false] rfl rfl (any_of HT_.out (by kernel_rfl)) (fun _ _ _ h => h) (Or.inl ⟨by rfl, ?_⟩) ?_ ?_
    rotate_left
    · intro w'
      go_simp
      with_reducible rfl
    rotate_left
    · simp only [Act.put, List.setIfInBounds_toArray, List.set_cons_zero, List.set_cons_succ, i64_w, i32_w]
      rfl
    refine pure_ (i := 8) (N := some 29) (v := ?_) (a' := ?_) #[true, true, true, true, true, true, true, true, true, false, false, false, false, false, false, false, false] rfl rfl (any_of HT_.out (by kernel_rfl)) (fun _ _ _ h => h) (Or.inl ⟨by rfl, ?_⟩) ?_ ?_
    rotate_left
    · intro w'
      go_simp
      with_reducible rfl
    rotate_left
    · simp only [Act.put, List.setIfInBounds_toArray, List.set_cons_zero, List.set_cons_succ, i64_w, i32_w]
      rfl
    refine take_ (i := 9) (N := some 30) (v := ?_) (a' := ?_) #[true, true, true, true, true, true, true, true, true, true, false, false, false, false, false, false, false] rfl rfl (take_ofW HT_.out HW_.out (by kernel_rfl)) (fun _ _ _ h => h) (Or.inl ⟨by rfl, ?_⟩) hHeld ?_ ?_
    rotate_left
    · rintro w' ⟨s0, s1, s2, s3, s4, s5, s6, s7, s8, s9, s10, s11, s12, s13, s14⟩
      go_simp
      with_reducible rfl
    rotate_left
    · simp only [Act.put, List.setIfInBounds_toArray, List.set_cons_zero, List.set_cons_succ, i64_w, i32_w]
      rfl
    refine take_ (i := 10) (N := some 31) (v := ?_) (a' := ?_) #[true, true, true, true, true, true, true, true, true, true, true, false, false, false, false, false, false] rfl rfl (take_ofW HT_.out HW_.out (by kernel_rfl)) (fun _ _ _ h => h) (Or.inl ⟨by rfl, ?_⟩) hHeld ?_ ?_
    rotate_left
    · rintro w' ⟨s0, s1, s2, s3, s4, s5, s6, s7, s8, s9, s10, s11, s12, s13, s14⟩
      go_simp
      with_reducible rfl
    rotate_left
    · simp only [Act.put, List.setIfInBounds_toArray, List.set_cons_zero, List.set_cons_succ, i64_w, i32_w]
      rfl
    refine take_ (i := 12) (N := some 33) (v := ?_) (a' := ?_) #[true, true, true, true, true, true, true, true, true, true, true, false, true, false, false, false, false] rfl rfl (take_ofW HT_.out HW_.out (by kernel_rfl)) (fun _ _ _ h => h) (Or.inl ⟨by rfl, ?_⟩) hHeld ?_ ?_
    rotate_left
    · rintro w' ⟨s0, s1, s2, s3, s4, s5, s6, s7, s8, s9, s10, s11, s12, s13, s14⟩
      go_simp
      with_reducible rfl
    rotate_left
    · simp only [Act.put, List.setIfInBounds_toArray, List.set_cons_zero, List.set_cons_succ, i64_w, i32_w]
      rfl
    refine take_ (i := 13) (N := some 34) (v := ?_) (a' := ?_) #[true, true, true, true, true, true, true, true, true, true, true, false, true, true, false, false, false] rfl rfl (take_ofW HT_.out HW_.out (by kernel_rfl)) (fun _ _ _ h => h) (Or.inl ⟨by rfl, ?_⟩) hHeld ?_ ?_
    rotate_left
    · rintro w' ⟨s0, s1, s2, s3, s4, s5, s6, s7, s8, s9, s10, s11, s12, s13, s14⟩
      go_simp
      with_reducible rfl
    rotate_left
    · simp only [Act.put, List.setIfInBounds_toArray, List.set_cons_zero, List.set_cons_succ, i64_w, i32_w]
      rfl
    refine one_ (i := 11) (N := some 32) #[true, true, true, true, true, true, true, true, true, true, true, true, true, true, false, false, false] rfl rfl (one_of HT_.out (by kernel_rfl)) (by decide) (fun K hK => ?_)
    refine goes_ Try.func24 (by kernel_rfl) rfl #[.agg #[.int .i64 r.x, .int .i64 r.y, .int .i64 r.w, .int .i64 r.h], .agg #[.int .i64 g, .int .i64 b, .int .i64 t]] (by rfl) rfl rfl (by (try simp only [List.map_toArray, List.map_cons, List.map_nil]); first | done | rfl) ?_
    refine (KI.out _).mono ?_
    rintro e wn ⟨rfl, hb⟩
    refine ⟨_, rfl, ?_⟩
    obtain ⟨s0, s1, s2, s3, s4, s5, s6, s7, s8, s9, s10, s11, s12, s13, s14⟩ := hHeld
    replace s0 := cell_held hb s0
    replace s1 := cell_held hb s1
    replace s2 := cell_held hb s2
    replace s3 := cell_held hb s3
    replace s4 := cell_held hb s4
    replace s5 := cell_held hb s5
    replace s6 := cell_held hb s6
    replace s7 := cell_held hb s7
    replace s8 := cell_held hb s8
    replace s9 := cell_held hb s9
    replace s10 := cell_held hb s10
    replace s11 := cell_held hb s11
    replace s12 := cell_held hb s12
    replace s13 := cell_held hb s13
    replace s14 := cell_held hb s14
    replace qB := below_step (w := W) qB hb
    clear hb
    refine hK.out _ _ ⟨s0, s1, s2, s3, s4, s5, s6, s7, s8, s9, s10, s11, s12, s13, s14⟩ (fun hHeld => ?_)
    clear hK K s0 s1 s2 s3 s4 s5 s6 s7 s8 s9 s10 s11 s12 s13 s14
    refine norm_ (a' := ?_) ?_ ?_
    rotate_left
    · show Act.put _ (some 32) _ = _
      simp only [Act.put, List.setIfInBounds_toArray, List.set_cons_zero, List.set_cons_succ, i64_w, i32_w]
      rfl
    refine one_ (i := 14) (N := some 35) #[true, true, true, true, true, true, true, true, true, true, true, true, true, true, true, false, false] rfl rfl (one_of HT_.out (by kernel_rfl)) (by decide) (fun K hK => ?_)
    refine goes_ Try.func25 (by kernel_rfl) rfl #[.agg #[.int .i64 r.x, .int .i64 r.y, .int .i64 r.w, .int .i64 r.h], .agg #[.int .i64 g, .int .i64 b, .int .i64 t]] (by rfl) rfl rfl (by (try simp only [List.map_toArray, List.map_cons, List.map_nil]); first | done | rfl) ?_
    refine (KJ.out _).mono ?_
    rintro e wn ⟨rfl, hb⟩
    refine ⟨_, rfl, ?_⟩
    obtain ⟨s0, s1, s2, s3, s4, s5, s6, s7, s8, s9, s10, s11, s12, s13, s14⟩ := hHeld
    replace s0 := cell_held hb s0
    replace s1 := cell_held hb s1
    replace s2 := cell_held hb s2
    replace s3 := cell_held hb s3
    replace s4 := cell_held hb s4
    replace s5 := cell_held hb s5
    replace s6 := cell_held hb s6
    replace s7 := cell_held hb s7
    replace s8 := cell_held hb s8
    replace s9 := cell_held hb s9
    replace s10 := cell_held hb s10
    replace s11 := cell_held hb s11
    replace s12 := cell_held hb s12
    replace s13 := cell_held hb s13
    replace s14 := cell_held hb s14
    replace qB := below_step (w := W) qB hb
    clear hb
    refine hK.out _ _ ⟨s0, s1, s2, s3, s4, s5, s6, s7, s8, s9, s10, s11, s12, s13, s14⟩ (fun hHeld => ?_)
    clear hK K s0 s1 s2 s3 s4 s5 s6 s7 s8 s9 s10 s11 s12 s13 s14
    refine norm_ (a' := ?_) ?_ ?_
    rotate_left
    · show Act.put _ (some 35) _ = _
      simp only [Act.put, List.setIfInBounds_toArray, List.set_cons_zero, List.set_cons_succ, i64_w, i32_w]
      rfl
    refine pure_ (i := 15) (N := some 36) (v := ?_) (a' := ?_) #[true, true, true, true, true, true, true, true, true, true, true, true, true, true, true, true, false] rfl rfl (any_of HT_.out (by kernel_rfl)) (fun _ _ _ h => h) (Or.inl ⟨by rfl, ?_⟩) ?_ ?_
    rotate_left
    · intro w'
      go_simp
      with_reducible rfl
    rotate_left
    · simp only [Act.put, List.setIfInBounds_toArray, List.set_cons_zero, List.set_cons_succ, i64_w, i32_w]
      rfl
    refine pure_ (i := 16) (N := some 37) (v := ?_) (a' := ?_) #[true, true, true, true, true, true, true, true, true, true, true, true, true, true, true, true, true] rfl rfl (any_of HT_.out (by kernel_rfl)) (fun _ _ _ h => h) (Or.inl ⟨by rfl, ?_⟩) ?_ ?_
    rotate_left
    · intro w'
      go_simp
      with_reducible rfl
    rotate_left
    · simp only [Act.put, List.setIfInBounds_toArray, List.set_cons_zero, List.set_cons_succ, i64_w, i32_w]
      rfl
    refine done_ (done_of HT_.out (by kernel_rfl)) ?_
    obtain ⟨n0, n1, n2, n3, n4, n5, n6, n7, n8, n9, n10, n11, n12, n13, n14⟩ := hHeld
    go_wp2_with fail
    refine start_ (n := 13) (S := fun w' => w'.cell? ⟨g5, 0, none⟩ = some (.int .i64 A.x) ∧ w'.cell? ⟨g5, 1, none⟩ = some (.int .i64 A.y) ∧ w'.cell? ⟨g5, 2, none⟩ = some (.int .i64 A.w) ∧ w'.cell? ⟨g5, 3, none⟩ = some (.int .i64 A.h) ∧ w'.cell? ⟨g7, 0, none⟩ = some (.int .i64 A.x) ∧ w'.cell? ⟨g7, 1, none⟩ = some (.int .i64 A.y) ∧ w'.cell? ⟨g7, 2, none⟩ = some (.int .i64 A.w) ∧ w'.cell? ⟨g7, 3, none⟩ = some (.int .i64 A.h) ∧ w'.cell? ⟨W.heap.size, 0, none⟩ = some (.int .i64 r.x) ∧ w'.cell? ⟨W.heap.size, 1, none⟩ = some (.int .i64 r.y) ∧ w'.cell? ⟨W.heap.size, 2, none⟩ = some (.int .i64 r.w) ∧ w'.cell? ⟨W.heap.size, 3, none⟩ = some (.int .i64 r.h) ∧ w'.cell? ⟨W.heap.size + 1, 0, none⟩ = some (.int .i64 g) ∧ w'.cell? ⟨W.heap.size + 1, 1, none⟩ = some (.int .i64 b) ∧ w'.cell? ⟨W.heap.size + 1, 2, none⟩ = some (.int .i64 t)) (ds := []) #[false, false, false, false, false, false, false, false, false, false, false, false, false] (by kernel_rfl) rfl rfl ⟨n0, n1, n2, n3, n4, n5, n6, n7, n8, n9, n10, n11, n12, n13, n14⟩ (fun hHeld => ?_)
    refine with_tabW FlNb.tab5 FlNb.bits5 (fun HT_ HW_ => ?_)
    have qB0 := below_drew qB
    clear qB
    have qB := qB0
    clear qB0
    generalize wn.drew = wr at qB hHeld ⊢
    refine pure_ (i := 0) (N := some 38) (v := ?_) (a' := ?_) #[true, false, false, false, false, false, false, false, false, false, false, false, false] rfl rfl (any_of HT_.out (by kernel_rfl)) (fun _ _ _ h => h) (Or.inl ⟨by rfl, ?_⟩) ?_ ?_
    rotate_left
    · intro w'
      go_simp
      with_reducible rfl
    rotate_left
    · simp only [Act.put, List.setIfInBounds_toArray, List.set_cons_zero, List.set_cons_succ, i64_w, i32_w]
      rfl
    refine pure_ (i := 1) (N := some 39) (v := ?_) (a' := ?_) #[true, true, false, false, false, false, false, false, false, false, false, false, false] rfl rfl (any_of HT_.out (by kernel_rfl)) (fun _ _ _ h => h) (Or.inl ⟨by rfl, ?_⟩) ?_ ?_
    rotate_left
    · intro w'
      go_simp
      with_reducible rfl
    rotate_left
    · simp only [Act.put, List.setIfInBounds_toArray, List.set_cons_zero, List.set_cons_succ, i64_w, i32_w]
      rfl
    refine pure_ (i := 2) (N := some 40) (v := ?_) (a' := ?_) #[true, true, true, false, false, false, false, false, false, false, false, false, false] rfl rfl (any_of HT_.out (by kernel_rfl)) (fun _ _ _ h => h) (Or.inl ⟨by rfl, ?_⟩) ?_ ?_
    rotate_left
    · intro w'
      go_simp
      with_reducible rfl
    rotate_left
    · simp only [Act.put, List.setIfInBounds_toArray, List.set_cons_zero, List.set_cons_succ, i64_w, i32_w]
      rfl
    refine pure_ (i := 3) (N := some 41) (v := undef) (a' := ?_) #[true, true, true, true, false, false, false, false, false, false, false, false, false] rfl rfl (any_of HT_.out (by kernel_rfl)) (fun _ _ _ h => h) (Or.inr ⟨by rfl, rfl⟩) ?_ ?_
    rotate_left
    · simp only [Act.put, List.setIfInBounds_toArray, List.set_cons_zero, List.set_cons_succ, i64_w, i32_w]
      rfl
    refine pure_ (i := 4) (N := some 42) (v := undef) (a' := ?_) #[true, true, true, true, true, false, false, false, false, false, false, false, false] rfl rfl (any_of HT_.out (by kernel_rfl)) (fun _ _ _ h => h) (Or.inr ⟨by rfl, rfl⟩) ?_ ?_
    rotate_left
    · simp only [Act.put, List.setIfInBounds_toArray, List.set_cons_zero, List.set_cons_succ, i64_w, i32_w]
      rfl
    refine pure_ (i := 5) (N := some 43) (v := undef) (a' := ?_) #[true, true, true, true, true, true, false, false, false, false, false, false, false] rfl rfl (any_of HT_.out (by kernel_rfl)) (fun _ _ _ h => h) (Or.inr ⟨by rfl, rfl⟩) ?_ ?_
    rotate_left
    · simp only [Act.put, List.setIfInBounds_toArray, List.set_cons_zero, List.set_cons_succ, i64_w, i32_w]
      rfl
    refine pure_ (i := 6) (N := some 44) (v := undef) (a' := ?_) #[true, true, true, true, true, true, true, false, false, false, false, false, false] rfl rfl (any_of HT_.out (by kernel_rfl)) (fun _ _ _ h => h) (Or.inr ⟨by rfl, rfl⟩) ?_ ?_
    rotate_left
    · simp only [Act.put, List.setIfInBounds_toArray, List.set_cons_zero, List.set_cons_succ, i64_w, i32_w]
      rfl
    refine pure_ (i := 7) (N := some 45) (v := undef) (a' := ?_) #[true, true, true, true, true, true, true, true, false, false, false, false, false] rfl rfl (any_of HT_.out (by kernel_rfl)) (fun _ _ _ h => h) (Or.inr ⟨by rfl, rfl⟩) ?_ ?_
    rotate_left
    · simp only [Act.put, List.setIfInBounds_toArray, List.set_cons_zero, List.set_cons_succ, i64_w, i32_w]
      rfl
    refine pure_ (i := 8) (N := some 46) (v := ?_) (a' := ?_) #[true, true, true, true, true, true, true, true, true, false, false, false, false] rfl rfl (any_of HT_.out (by kernel_rfl)) (fun _ _ _ h => h) (Or.inl ⟨by rfl, ?_⟩) ?_ ?_
    rotate_left
    · intro w'
      go_simp
      with_reducible rfl
    rotate_left
    · simp only [Act.put, List.setIfInBounds_toArray, List.set_cons_zero, List.set_cons_succ, i64_w, i32_w]
      rfl
    refine pure_ (i := 9) (N := some 47) (v := ?_) (a' := ?_) #[true, true, true, true, true, true, true, true, true, true, false, false, false] rfl rfl (any_of HT_.out (by kernel_rfl)) (fun _ _ _ h => h) (Or.inl ⟨by rfl, ?_⟩) ?_ ?_
    rotate_left
    · intro w'
      go_simp
      with_reducible rfl
    rotate_left
    · simp only [Act.put, List.setIfInBounds_toArray, List.set_cons_zero, List.set_cons_succ, i64_w, i32_w]
      rfl
    refine one_ (i := 10) (N := some 48) #[true, true, true, true, true, true, true, true, true, true, true, false, false] rfl rfl (one_of HT_.out (by kernel_rfl)) (by decide) (fun K hK => ?_)
    refine goes_ Try.func11 (by kernel_rfl) rfl #[] (by rfl) rfl rfl (by (try simp only [List.map_toArray, List.map_cons, List.map_nil]); first | done | rfl) ?_
    refine (c_awake _).mono ?_
    rintro e wn ⟨rfl, hb⟩
    refine ⟨_, rfl, ?_⟩
    obtain ⟨s0, s1, s2, s3, s4, s5, s6, s7, s8, s9, s10, s11, s12, s13, s14⟩ := hHeld
    replace s0 := cell_held hb s0
    replace s1 := cell_held hb s1
    replace s2 := cell_held hb s2
    replace s3 := cell_held hb s3
    replace s4 := cell_held hb s4
    replace s5 := cell_held hb s5
    replace s6 := cell_held hb s6
    replace s7 := cell_held hb s7
    replace s8 := cell_held hb s8
    replace s9 := cell_held hb s9
    replace s10 := cell_held hb s10
    replace s11 := cell_held hb s11
    replace s12 := cell_held hb s12
    replace s13 := cell_held hb s13
    replace s14 := cell_held hb s14
    replace qB := below_step (w := W) qB hb
    clear hb
    refine hK.out _ _ ⟨s0, s1, s2, s3, s4, s5, s6, s7, s8, s9, s10, s11, s12, s13, s14⟩ (fun hHeld => ?_)
    clear hK K s0 s1 s2 s3 s4 s5 s6 s7 s8 s9 s10 s11 s12 s13 s14
    refine norm_ (a' := ?_) ?_ ?_
    rotate_left
    · show Act.put _ (some 48) _ = _
      simp only [Act.put, List.setIfInBounds_toArray, List.set_cons_zero, List.set_cons_succ, i64_w, i32_w]
      rfl
    refine pure_ (i := 11) (N := some 49) (v := ?_) (a' := ?_) #[true, true, true, true, true, true, true, true, true, true, true, true, false] rfl rfl (any_of HT_.out (by kernel_rfl)) (fun _ _ _ h => h) (Or.inl ⟨by rfl, ?_⟩) ?_ ?_
    rotate_left
    · intro w'
      go_simp
      with_reducible rfl
    rotate_left
    · simp only [Act.put, List.setIfInBounds_toArray, List.set_cons_zero, List.set_cons_succ, i64_w, i32_w]
      rfl
    refine pure_ (i := 12) (N := some 4) (v := ?_) (a' := ?_) #[true, true, true, true, true, true, true, true, true, true, true, true, true] rfl rfl (any_of HT_.out (by kernel_rfl)) (fun _ _ _ h => h) (Or.inl ⟨by rfl, ?_⟩) ?_ ?_
    rotate_left
    · intro w'
      go_simp
      with_reducible rfl
    rotate_left
    · simp only [Act.put, List.setIfInBounds_toArray, List.set_cons_zero, List.set_cons_succ, i64_w, i32_w]
      rfl
    refine done_ (done_of HT_.out (by kernel_rfl)) ?_
    go_wp2
    go_ret
    exact ⟨rfl, qB⟩
  · rw [fb rfl] at KA
    replace KA := Aside0.mk KA
    clear fb
    go_enter Try.func8, Try.ntmps8
    go_wp2_with fail
    refine (K1.out _).mono ?_
    rintro e w1 ⟨rfl, hb⟩
    have B2 := Aside0.mk (blk_below (g := W.heap.size) (o := .cells #[.int .i64 r.x, .int .i64 r.y, .int .i64 r.w, .int .i64 r.h] 23 (0, 0)) (by (repeat (first | exact new_at (by simp only [World.size_alloc, World.size_drew]; done) | refine blk_drew ?_ | refine blk_alloc ?_ _))) hb)
    have B3 := Aside0.mk (blk_below (g := W.heap.size + 1) (o := .cells #[.int .i64 g, .int .i64 b, .int .i64 t] 39 (0, 0)) (by (repeat (first | exact new_at (by simp only [World.size_alloc, World.size_drew]; done) | refine blk_drew ?_ | refine blk_alloc ?_ _))) hb)
    have qB := below_step (w := W) (by (repeat (first | exact Below.refl _ _ | apply below_alloc))) hb
    clear hb
    obtain ⟨g5, hg5⟩ : ∃ g, w1.heap.size = g := ⟨_, rfl⟩
    have B5 := Aside0.mk (show (w1.alloc (.cells #[.int .i64 A.x, .int .i64 A.y, .int .i64 A.w, .int .i64 A.h] 23 (0, 0))).heap[g5]? = some (.cells #[.int .i64 A.x, .int .i64 A.y, .int .i64 A.w, .int .i64 A.h] 23 (0, 0)) by rw [← hg5]; exact blk_new w1 _)
    replace B2 := Aside0.mk (blk_alloc B2.out (.cells #[.int .i64 A.x, .int .i64 A.y, .int .i64 A.w, .int .i64 A.h] 23 (0, 0))); replace B3 := Aside0.mk (blk_alloc B3.out (.cells #[.int .i64 A.x, .int .i64 A.y, .int .i64 A.w, .int .i64 A.h] 23 (0, 0)))
    replace qB := below_alloc qB (.cells #[.int .i64 A.x, .int .i64 A.y, .int .i64 A.w, .int .i64 A.h] 23 (0, 0))
    have k0 : (w1.alloc (.cells #[.int .i64 A.x, .int .i64 A.y, .int .i64 A.w, .int .i64 A.h] 23 (0, 0))).cell? ⟨W.heap.size, 0, none⟩ = some (.int .i64 (r.x)) := (blk_cell B2.out 0).trans rfl
    have k1 : (w1.alloc (.cells #[.int .i64 A.x, .int .i64 A.y, .int .i64 A.w, .int .i64 A.h] 23 (0, 0))).cell? ⟨W.heap.size, 1, none⟩ = some (.int .i64 (r.y)) := (blk_cell B2.out 1).trans rfl
    have k2 : (w1.alloc (.cells #[.int .i64 A.x, .int .i64 A.y, .int .i64 A.w, .int .i64 A.h] 23 (0, 0))).cell? ⟨W.heap.size, 2, none⟩ = some (.int .i64 (r.w)) := (blk_cell B2.out 2).trans rfl
    have k3 : (w1.alloc (.cells #[.int .i64 A.x, .int .i64 A.y, .int .i64 A.w, .int .i64 A.h] 23 (0, 0))).cell? ⟨W.heap.size, 3, none⟩ = some (.int .i64 (r.h)) := (blk_cell B2.out 3).trans rfl
    have v0 : (w1.alloc (.cells #[.int .i64 A.x, .int .i64 A.y, .int .i64 A.w, .int .i64 A.h] 23 (0, 0))).cell? ⟨W.heap.size + 1, 0, none⟩ = some (.int .i64 (g)) := (blk_cell B3.out 0).trans rfl
    have v1 : (w1.alloc (.cells #[.int .i64 A.x, .int .i64 A.y, .int .i64 A.w, .int .i64 A.h] 23 (0, 0))).cell? ⟨W.heap.size + 1, 1, none⟩ = some (.int .i64 (b)) := (blk_cell B3.out 1).trans rfl
    have v2 : (w1.alloc (.cells #[.int .i64 A.x, .int .i64 A.y, .int .i64 A.w, .int .i64 A.h] 23 (0, 0))).cell? ⟨W.heap.size + 1, 2, none⟩ = some (.int .i64 (t)) := (blk_cell B3.out 2).trans rfl
    go_wp2_with fail
    refine (K2.out _).mono ?_
    rintro e w3 ⟨rfl, hb⟩
    clear k0 k1 k2 k3 v0 v1 v2
    replace B2 := Aside0.mk (blk_below B2.out hb)
    replace B3 := Aside0.mk (blk_below B3.out hb)
    replace B5 := Aside0.mk (blk_below B5.out hb)
    replace qB := below_step (w := W) qB hb
    clear hb hg5
    obtain ⟨g7, hg7⟩ : ∃ g, w3.heap.size = g := ⟨_, rfl⟩
    have B7 := Aside0.mk (show (w3.alloc (.cells #[.int .i64 A.x, .int .i64 A.y, .int .i64 A.w, .int .i64 A.h] 23 (0, 0))).heap[g7]? = some (.cells #[.int .i64 A.x, .int .i64 A.y, .int .i64 A.w, .int .i64 A.h] 23 (0, 0)) by rw [← hg7]; exact blk_new w3 _)
    replace B2 := Aside0.mk (blk_alloc B2.out (.cells #[.int .i64 A.x, .int .i64 A.y, .int .i64 A.w, .int .i64 A.h] 23 (0, 0))); replace B3 := Aside0.mk (blk_alloc B3.out (.cells #[.int .i64 A.x, .int .i64 A.y, .int .i64 A.w, .int .i64 A.h] 23 (0, 0))); replace B5 := Aside0.mk (blk_alloc B5.out (.cells #[.int .i64 A.x, .int .i64 A.y, .int .i64 A.w, .int .i64 A.h] 23 (0, 0)))
    replace qB := below_alloc qB (.cells #[.int .i64 A.x, .int .i64 A.y, .int .i64 A.w, .int .i64 A.h] 23 (0, 0))
    go_wp2_with fail
    (try rw [hg7])
    generalize hw5 : w3.alloc (.cells #[.int .i64 A.x, .int .i64 A.y, .int .i64 A.w, .int .i64 A.h] 23 (0, 0)) = w5 at qB B2 B3 B5 B7 ⊢
    clear hw5 hg7
    have p0 : w5.cell? ⟨g5, 0, none⟩ = some (.int .i64 (A.x)) := (blk_cell B5.out 0).trans rfl
    have p1 : w5.cell? ⟨g5, 1, none⟩ = some (.int .i64 (A.y)) := (blk_cell B5.out 1).trans rfl
    have p2 : w5.cell? ⟨g5, 2, none⟩ = some (.int .i64 (A.w)) := (blk_cell B5.out 2).trans rfl
    have p3 : w5.cell? ⟨g5, 3, none⟩ = some (.int .i64 (A.h)) := (blk_cell B5.out 3).trans rfl
    have q0 : w5.cell? ⟨g7, 0, none⟩ = some (.int .i64 (A.x)) := (blk_cell B7.out 0).trans rfl
    have q1 : w5.cell? ⟨g7, 1, none⟩ = some (.int .i64 (A.y)) := (blk_cell B7.out 1).trans rfl
    have q2 : w5.cell? ⟨g7, 2, none⟩ = some (.int .i64 (A.w)) := (blk_cell B7.out 2).trans rfl
    have q3 : w5.cell? ⟨g7, 3, none⟩ = some (.int .i64 (A.h)) := (blk_cell B7.out 3).trans rfl
    have k0 : w5.cell? ⟨W.heap.size, 0, none⟩ = some (.int .i64 (r.x)) := (blk_cell B2.out 0).trans rfl
    have k1 : w5.cell? ⟨W.heap.size, 1, none⟩ = some (.int .i64 (r.y)) := (blk_cell B2.out 1).trans rfl
    have k2 : w5.cell? ⟨W.heap.size, 2, none⟩ = some (.int .i64 (r.w)) := (blk_cell B2.out 2).trans rfl
    have k3 : w5.cell? ⟨W.heap.size, 3, none⟩ = some (.int .i64 (r.h)) := (blk_cell B2.out 3).trans rfl
    have v0 : w5.cell? ⟨W.heap.size + 1, 0, none⟩ = some (.int .i64 (g)) := (blk_cell B3.out 0).trans rfl
    have v1 : w5.cell? ⟨W.heap.size + 1, 1, none⟩ = some (.int .i64 (b)) := (blk_cell B3.out 1).trans rfl
    have v2 : w5.cell? ⟨W.heap.size + 1, 2, none⟩ = some (.int .i64 (t)) := (blk_cell B3.out 2).trans rfl
    clear B2 B3 B5 B7
    refine start_ (n := 17) (S := fun w' => w'.cell? ⟨g5, 0, none⟩ = some (.int .i64 A.x) ∧ w'.cell? ⟨g5, 1, none⟩ = some (.int .i64 A.y) ∧ w'.cell? ⟨g5, 2, none⟩ = some (.int .i64 A.w) ∧ w'.cell? ⟨g5, 3, none⟩ = some (.int .i64 A.h) ∧ w'.cell? ⟨g7, 0, none⟩ = some (.int .i64 A.x) ∧ w'.cell? ⟨g7, 1, none⟩ = some (.int .i64 A.y) ∧ w'.cell? ⟨g7, 2, none⟩ = some (.int .i64 A.w) ∧ w'.cell? ⟨g7, 3, none⟩ = some (.int .i64 A.h) ∧ w'.cell? ⟨W.heap.size, 0, none⟩ = some (.int .i64 r.x) ∧ w'.cell? ⟨W.heap.size, 1, none⟩ = some (.int .i64 r.y) ∧ w'.cell? ⟨W.heap.size, 2, none⟩ = some (.int .i64 r.w) ∧ w'.cell? ⟨W.heap.size, 3, none⟩ = some (.int .i64 r.h) ∧ w'.cell? ⟨W.heap.size + 1, 0, none⟩ = some (.int .i64 g) ∧ w'.cell? ⟨W.heap.size + 1, 1, none⟩ = some (.int .i64 b) ∧ w'.cell? ⟨W.heap.size + 1, 2, none⟩ = some (.int .i64 t)) (ds := []) #[false, false, false, false, false, false, false, false, false, false, false, false, false, false, false, false, false] (by kernel_rfl) rfl rfl ⟨p0, p1, p2, p3, q0, q1, q2, q3, k0, k1, k2, k3, v0, v1, v2⟩ (fun hHeld => ?_)
    refine with_tabW FlNa.tab3 FlNa.bits3 (fun HT_ HW_ => ?_)
    have qB0 := below_drew qB
    clear qB
    have qB := qB0
    clear qB0
    generalize w5.drew = wr at qB hHeld ⊢
    refine take_ (i := 0) (N := some 21) (v := ?_) (a' := ?_) #[true, false, false, false, false, false, false, false, false, false, false, false, false, false, false, false, false] rfl rfl (take_ofW HT_.out HW_.out (by kernel_rfl)) (fun _ _ _ h => h) (Or.inl ⟨by rfl, ?_⟩) hHeld ?_ ?_
    rotate_left
    · rintro w' ⟨s0, s1, s2, s3, s4, s5, s6, s7, s8, s9, s10, s11, s12, s13, s14⟩
      go_simp
      with_reducible rfl
    rotate_left
    · simp only [Act.put, List.setIfInBounds_toArray, List.set_cons_zero, List.set_cons_succ, i64_w, i32_w]
      rfl
    refine take_ (i := 1) (N := some 22) (v := ?_) (a' := ?_) #[true, true, false, false, false, false, false, false, false, false, false, false, false, false, false, false, false] rfl rfl (take_ofW HT_.out HW_.out (by kernel_rfl)) (fun _ _ _ h => h) (Or.inl ⟨by rfl, ?_⟩) hHeld ?_ ?_
    rotate_left
    · rintro w' ⟨s0, s1, s2, s3, s4, s5, s6, s7, s8, s9, s10, s11, s12, s13, s14⟩
      go_simp
      with_reducible rfl
    rotate_left
    · simp only [Act.put, List.setIfInBounds_toArray, List.set_cons_zero, List.set_cons_succ, i64_w, i32_w]
      rfl
    refine pure_ (i := 2) (N := some 23) (v := ?_) (a' := ?_) #[true, true, true, false, false, false, false, false, false, false, false, false, false, false, false, false, false] rfl rfl (any_of HT_.out (by kernel_rfl)) (fun _ _ _ h => h) (Or.inl ⟨by rfl, ?_⟩) ?_ ?_
    rotate_left
    · intro w'
      go_simp
      with_reducible rfl
    rotate_left
    · simp only [Act.put, List.setIfInBounds_toArray, List.set_cons_zero, List.set_cons_succ, i64_w, i32_w]
      rfl
    refine pure_ (i := 3) (N := some 24) (v := ?_) (a' := ?_) #[true, true, true, true, false, false, false, false, false, false, false, false, false, false, false, false, false] rfl rfl (any_of HT_.out (by kernel_rfl)) (fun _ _ _ h => h) (Or.inl ⟨by rfl, ?_⟩) ?_ ?_
    rotate_left
    · intro w'
      go_simp
      with_reducible rfl
    rotate_left
    · simp only [Act.put, List.setIfInBounds_toArray, List.set_cons_zero, List.set_cons_succ, i64_w, i32_w]
      rfl
    refine pure_ (i := 4) (N := some 25) (v := ?_) (a' := ?_) #[true, true, true, true, true, false, false, false, false, false, false, false, false, false, false, false, false] rfl rfl (any_of HT_.out (by kernel_rfl)) (fun _ _ _ h => h) (Or.inl ⟨by rfl, ?_⟩) ?_ ?_
    rotate_left
    · intro w'
      go_simp
      with_reducible rfl
    rotate_left
    · simp only [Act.put, List.setIfInBounds_toArray, List.set_cons_zero, List.set_cons_succ, i64_w, i32_w]
      rfl
    refine pure_ (i := 5) (N := some 26) (v := ?_) (a' := ?_) #[true, true, true, true, true, true, false, false, false, false, false, false, false, false, false, false, false] rfl rfl (any_of HT_.out (by kernel_rfl)) (fun _ _ _ h => h) (Or.inl ⟨by rfl, ?_⟩) ?_ ?_
    rotate_left
    · intro w'
      go_simp
      with_reducible rfl
    rotate_left
    · simp only [Act.put, List.setIfInBounds_toArray, List.set_cons_zero, List.set_cons_succ, i64_w, i32_w]
      rfl
    refine pure_ (i := 6) (N := some 27) (v := ?_) (a' := ?_) #[true, true, true, true, true, true, true, false, false, false, false, false, false, false, false, false, false] rfl rfl (any_of HT_.out (by kernel_rfl)) (fun _ _ _ h => h) (Or.inl ⟨by rfl, ?_⟩) ?_ ?_
    rotate_left
    · intro w'
      go_simp
      with_reducible rfl
    rotate_left
    · simp only [Act.put, List.setIfInBounds_toArray, List.set_cons_zero, List.set_cons_succ, i64_w, i32_w]
      rfl
    refine pure_ (i := 7) (N := some 28) (v := ?_) (a' := ?_) #[true, true, true, true, true, true, true, true, false, false, false, false, false, false, false, false, false] rfl rfl (any_of HT_.out (by kernel_rfl)) (fun _ _ _ h => h) (Or.inl ⟨by rfl, ?_⟩) ?_ ?_
    rotate_left
    · intro w'
      go_simp
      with_reducible rfl
    rotate_left
    · simp only [Act.put, List.setIfInBounds_toArray, List.set_cons_zero, List.set_cons_succ, i64_w, i32_w]
      rfl
    refine pure_ (i := 8) (N := some 29) (v := ?_) (a' := ?_) #[true, true, true, true, true, true, true, true, true, false, false, false, false, false, false, false, false] rfl rfl (any_of HT_.out (by kernel_rfl)) (fun _ _ _ h => h) (Or.inl ⟨by rfl, ?_⟩) ?_ ?_
    rotate_left
    · intro w'
      go_simp
      with_reducible rfl
    rotate_left
    · simp only [Act.put, List.setIfInBounds_toArray, List.set_cons_zero, List.set_cons_succ, i64_w, i32_w]
      rfl
    refine take_ (i := 9) (N := some 30) (v := ?_) (a' := ?_) #[true, true, true, true, true, true, true, true, true, true, false, false, false, false, false, false, false] rfl rfl (take_ofW HT_.out HW_.out (by kernel_rfl)) (fun _ _ _ h => h) (Or.inl ⟨by rfl, ?_⟩) hHeld ?_ ?_
    rotate_left
    · rintro w' ⟨s0, s1, s2, s3, s4, s5, s6, s7, s8, s9, s10, s11, s12, s13, s14⟩
      go_simp
      with_reducible rfl
    rotate_left
    · simp only [Act.put, List.setIfInBounds_toArray, List.set_cons_zero, List.set_cons_succ, i64_w, i32_w]
      rfl
    refine take_ (i := 10) (N := some 31) (v := ?_) (a' := ?_) #[true, true, true, true, true, true, true, true, true, true, true, false, false, false, false, false, false] rfl rfl (take_ofW HT_.out HW_.out (by kernel_rfl)) (fun _ _ _ h => h) (Or.inl ⟨by rfl, ?_⟩) hHeld ?_ ?_
    rotate_left
    · rintro w' ⟨s0, s1, s2, s3, s4, s5, s6, s7, s8, s9, s10, s11, s12, s13, s14⟩
      go_simp
      with_reducible rfl
    rotate_left
    · simp only [Act.put, List.setIfInBounds_toArray, List.set_cons_zero, List.set_cons_succ, i64_w, i32_w]
      rfl
    refine take_ (i := 12) (N := some 33) (v := ?_) (a' := ?_) #[true, true, true, true, true, true, true, true, true, true, true, false, true, false, false, false, false] rfl rfl (take_ofW HT_.out HW_.out (by kernel_rfl)) (fun _ _ _ h => h) (Or.inl ⟨by rfl, ?_⟩) hHeld ?_ ?_
    rotate_left
    · rintro w' ⟨s0, s1, s2, s3, s4, s5, s6, s7, s8, s9, s10, s11, s12, s13, s14⟩
      go_simp
      with_reducible rfl
    rotate_left
    · simp only [Act.put, List.setIfInBounds_toArray, List.set_cons_zero, List.set_cons_succ, i64_w, i32_w]
      rfl
    refine take_ (i := 13) (N := some 34) (v := ?_) (a' := ?_) #[true, true, true, true, true, true, true, true, true, true, true, false, true, true, false, false, false] rfl rfl (take_ofW HT_.out HW_.out (by kernel_rfl)) (fun _ _ _ h => h) (Or.inl ⟨by rfl, ?_⟩) hHeld ?_ ?_
    rotate_left
    · rintro w' ⟨s0, s1, s2, s3, s4, s5, s6, s7, s8, s9, s10, s11, s12, s13, s14⟩
      go_simp
      with_reducible rfl
    rotate_left
    · simp only [Act.put, List.setIfInBounds_toArray, List.set_cons_zero, List.set_cons_succ, i64_w, i32_w]
      rfl
    refine one_ (i := 11) (N := some 32) #[true, true, true, true, true, true, true, true, true, true, true, true, true, true, false, false, false] rfl rfl (one_of HT_.out (by kernel_rfl)) (by decide) (fun K hK => ?_)
    refine goes_ Try.func24 (by kernel_rfl) rfl #[.agg #[.int .i64 r.x, .int .i64 r.y, .int .i64 r.w, .int .i64 r.h], .agg #[.int .i64 g, .int .i64 b, .int .i64 t]] (by rfl) rfl rfl (by (try simp only [List.map_toArray, List.map_cons, List.map_nil]); first | done | rfl) ?_
    refine (KI.out _).mono ?_
    rintro e wn ⟨rfl, hb⟩
    refine ⟨_, rfl, ?_⟩
    obtain ⟨s0, s1, s2, s3, s4, s5, s6, s7, s8, s9, s10, s11, s12, s13, s14⟩ := hHeld
    replace s0 := cell_held hb s0
    replace s1 := cell_held hb s1
    replace s2 := cell_held hb s2
    replace s3 := cell_held hb s3
    replace s4 := cell_held hb s4
    replace s5 := cell_held hb s5
    replace s6 := cell_held hb s6
    replace s7 := cell_held hb s7
    replace s8 := cell_held hb s8
    replace s9 := cell_held hb s9
    replace s10 := cell_held hb s10
    replace s11 := cell_held hb s11
    replace s12 := cell_held hb s12
    replace s13 := cell_held hb s13
    replace s14 := cell_held hb s14
    replace qB := below_step (w := W) qB hb
    clear hb
    refine hK.out _ _ ⟨s0, s1, s2, s3, s4, s5, s6, s7, s8, s9, s10, s11, s12, s13, s14⟩ (fun hHeld => ?_)
    clear hK K s0 s1 s2 s3 s4 s5 s6 s7 s8 s9 s10 s11 s12 s13 s14
    refine norm_ (a' := ?_) ?_ ?_
    rotate_left
    · show Act.put _ (some 32) _ = _
      simp only [Act.put, List.setIfInBounds_toArray, List.set_cons_zero, List.set_cons_succ, i64_w, i32_w]
      rfl
    refine one_ (i := 14) (N := some 35) #[true, true, true, true, true, true, true, true, true, true, true, true, true, true, true, false, false] rfl rfl (one_of HT_.out (by kernel_rfl)) (by decide) (fun K hK => ?_)
    refine goes_ Try.func25 (by kernel_rfl) rfl #[.agg #[.int .i64 r.x, .int .i64 r.y, .int .i64 r.w, .int .i64 r.h], .agg #[.int .i64 g, .int .i64 b, .int .i64 t]] (by rfl) rfl rfl (by (try simp only [List.map_toArray, List.map_cons, List.map_nil]); first | done | rfl) ?_
    refine (KJ.out _).mono ?_
    rintro e wn ⟨rfl, hb⟩
    refine ⟨_, rfl, ?_⟩
    obtain ⟨s0, s1, s2, s3, s4, s5, s6, s7, s8, s9, s10, s11, s12, s13, s14⟩ := hHeld
    replace s0 := cell_held hb s0
    replace s1 := cell_held hb s1
    replace s2 := cell_held hb s2
    replace s3 := cell_held hb s3
    replace s4 := cell_held hb s4
    replace s5 := cell_held hb s5
    replace s6 := cell_held hb s6
    replace s7 := cell_held hb s7
    replace s8 := cell_held hb s8
    replace s9 := cell_held hb s9
    replace s10 := cell_held hb s10
    replace s11 := cell_held hb s11
    replace s12 := cell_held hb s12
    replace s13 := cell_held hb s13
    replace s14 := cell_held hb s14
    replace qB := below_step (w := W) qB hb
    clear hb
    refine hK.out _ _ ⟨s0, s1, s2, s3, s4, s5, s6, s7, s8, s9, s10, s11, s12, s13, s14⟩ (fun hHeld => ?_)
    clear hK K s0 s1 s2 s3 s4 s5 s6 s7 s8 s9 s10 s11 s12 s13 s14
    refine norm_ (a' := ?_) ?_ ?_
    rotate_left
    · show Act.put _ (some 35) _ = _
      simp only [Act.put, List.setIfInBounds_toArray, List.set_cons_zero, List.set_cons_succ, i64_w, i32_w]
      rfl
    refine pure_ (i := 15) (N := some 36) (v := ?_) (a' := ?_) #[true, true, true, true, true, true, true, true, true, true, true, true, true, true, true, true, false] rfl rfl (any_of HT_.out (by kernel_rfl)) (fun _ _ _ h => h) (Or.inl ⟨by rfl, ?_⟩) ?_ ?_
    rotate_left
    · intro w'
      go_simp
      with_reducible rfl
    rotate_left
    · simp only [Act.put, List.setIfInBounds_toArray, List.set_cons_zero, List.set_cons_succ, i64_w, i32_w]
      rfl
    refine pure_ (i := 16) (N := some 37) (v := ?_) (a' := ?_) #[true, true, true, true, true, true, true, true, true, true, true, true, true, true, true, true, true] rfl rfl (any_of HT_.out (by kernel_rfl)) (fun _ _ _ h => h) (Or.inl ⟨by rfl, ?_⟩) ?_ ?_
    rotate_left
    · intro w'
      go_simp
      with_reducible rfl
    rotate_left
    · simp only [Act.put, List.setIfInBounds_toArray, List.set_cons_zero, List.set_cons_succ, i64_w, i32_w]
      rfl
    refine done_ (done_of HT_.out (by kernel_rfl)) ?_
    obtain ⟨n0, n1, n2, n3, n4, n5, n6, n7, n8, n9, n10, n11, n12, n13, n14⟩ := hHeld
    go_wp2_with fail
    refine start_ (n := 13) (S := fun w' => w'.cell? ⟨g5, 0, none⟩ = some (.int .i64 A.x) ∧ w'.cell? ⟨g5, 1, none⟩ = some (.int .i64 A.y) ∧ w'.cell? ⟨g5, 2, none⟩ = some (.int .i64 A.w) ∧ w'.cell? ⟨g5, 3, none⟩ = some (.int .i64 A.h) ∧ w'.cell? ⟨g7, 0, none⟩ = some (.int .i64 A.x) ∧ w'.cell? ⟨g7, 1, none⟩ = some (.int .i64 A.y) ∧ w'.cell? ⟨g7, 2, none⟩ = some (.int .i64 A.w) ∧ w'.cell? ⟨g7, 3, none⟩ = some (.int .i64 A.h) ∧ w'.cell? ⟨W.heap.size, 0, none⟩ = some (.int .i64 r.x) ∧ w'.cell? ⟨W.heap.size, 1, none⟩ = some (.int .i64 r.y) ∧ w'.cell? ⟨W.heap.size, 2, none⟩ = some (.int .i64 r.w) ∧ w'.cell? ⟨W.heap.size, 3, none⟩ = some (.int .i64 r.h) ∧ w'.cell? ⟨W.heap.size + 1, 0, none⟩ = some (.int .i64 g) ∧ w'.cell? ⟨W.heap.size + 1, 1, none⟩ = some (.int .i64 b) ∧ w'.cell? ⟨W.heap.size + 1, 2, none⟩ = some (.int .i64 t)) (ds := []) #[false, false, false, false, false, false, false, false, false, false, false, false, false] (by kernel_rfl) rfl rfl ⟨n0, n1, n2, n3, n4, n5, n6, n7, n8, n9, n10, n11, n12, n13, n14⟩ (fun hHeld => ?_)
    refine with_tabW FlNb.tab5 FlNb.bits5 (fun HT_ HW_ => ?_)
    have qB0 := below_drew qB
    clear qB
    have qB := qB0
    clear qB0
    generalize wn.drew = wr at qB hHeld ⊢
    refine pure_ (i := 0) (N := some 38) (v := ?_) (a' := ?_) #[true, false, false, false, false, false, false, false, false, false, false, false, false] rfl rfl (any_of HT_.out (by kernel_rfl)) (fun _ _ _ h => h) (Or.inl ⟨by rfl, ?_⟩) ?_ ?_
    rotate_left
    · intro w'
      go_simp
      with_reducible rfl
    rotate_left
    · simp only [Act.put, List.setIfInBounds_toArray, List.set_cons_zero, List.set_cons_succ, i64_w, i32_w]
      rfl
    refine pure_ (i := 1) (N := some 39) (v := ?_) (a' := ?_) #[true, true, false, false, false, false, false, false, false, false, false, false, false] rfl rfl (any_of HT_.out (by kernel_rfl)) (fun _ _ _ h => h) (Or.inl ⟨by rfl, ?_⟩) ?_ ?_
    rotate_left
    · intro w'
      go_simp
      with_reducible rfl
    rotate_left
    · simp only [Act.put, List.setIfInBounds_toArray, List.set_cons_zero, List.set_cons_succ, i64_w, i32_w]
      rfl
    refine pure_ (i := 2) (N := some 40) (v := ?_) (a' := ?_) #[true, true, true, false, false, false, false, false, false, false, false, false, false] rfl rfl (any_of HT_.out (by kernel_rfl)) (fun _ _ _ h => h) (Or.inl ⟨by rfl, ?_⟩) ?_ ?_
    rotate_left
    · intro w'
      go_simp
      with_reducible rfl
    rotate_left
    · simp only [Act.put, List.setIfInBounds_toArray, List.set_cons_zero, List.set_cons_succ, i64_w, i32_w]
      rfl
    refine take_ (i := 3) (N := some 41) (v := ?_) (a' := ?_) #[true, true, true, true, false, false, false, false, false, false, false, false, false] rfl rfl (take_ofW HT_.out HW_.out (by kernel_rfl)) (fun _ _ _ h => h) (Or.inl ⟨by rfl, ?_⟩) hHeld ?_ ?_
    rotate_left
    · rintro w' ⟨s0, s1, s2, s3, s4, s5, s6, s7, s8, s9, s10, s11, s12, s13, s14⟩
      go_simp
      with_reducible rfl
    rotate_left
    · simp only [Act.put, List.setIfInBounds_toArray, List.set_cons_zero, List.set_cons_succ, i64_w, i32_w]
      rfl
    refine take_ (i := 4) (N := some 42) (v := ?_) (a' := ?_) #[true, true, true, true, true, false, false, false, false, false, false, false, false] rfl rfl (take_ofW HT_.out HW_.out (by kernel_rfl)) (fun _ _ _ h => h) (Or.inl ⟨by rfl, ?_⟩) hHeld ?_ ?_
    rotate_left
    · rintro w' ⟨s0, s1, s2, s3, s4, s5, s6, s7, s8, s9, s10, s11, s12, s13, s14⟩
      go_simp
      with_reducible rfl
    rotate_left
    · simp only [Act.put, List.setIfInBounds_toArray, List.set_cons_zero, List.set_cons_succ, i64_w, i32_w]
      rfl
    refine take_ (i := 6) (N := some 44) (v := ?_) (a' := ?_) #[true, true, true, true, true, false, true, false, false, false, false, false, false] rfl rfl (take_ofW HT_.out HW_.out (by kernel_rfl)) (fun _ _ _ h => h) (Or.inl ⟨by rfl, ?_⟩) hHeld ?_ ?_
    rotate_left
    · rintro w' ⟨s0, s1, s2, s3, s4, s5, s6, s7, s8, s9, s10, s11, s12, s13, s14⟩
      go_simp
      with_reducible rfl
    rotate_left
    · simp only [Act.put, List.setIfInBounds_toArray, List.set_cons_zero, List.set_cons_succ, i64_w, i32_w]
      rfl
    refine one_ (i := 5) (N := some 43) #[true, true, true, true, true, true, true, false, false, false, false, false, false] rfl rfl (one_of HT_.out (by kernel_rfl)) (by decide) (fun K hK => ?_)
    refine goes_ Try.func24 (by kernel_rfl) rfl #[.agg #[.int .i64 A.x, .int .i64 A.y, .int .i64 A.w, .int .i64 A.h], .agg #[.int .i64 g, .int .i64 b, .int .i64 t]] (by rfl) rfl rfl (by (try simp only [List.map_toArray, List.map_cons, List.map_nil]); first | done | rfl) ?_
    refine (KA.out _).mono ?_
    rintro e wn ⟨rfl, hb⟩
    refine ⟨_, rfl, ?_⟩
    obtain ⟨s0, s1, s2, s3, s4, s5, s6, s7, s8, s9, s10, s11, s12, s13, s14⟩ := hHeld
    replace s0 := cell_held hb s0
    replace s1 := cell_held hb s1
    replace s2 := cell_held hb s2
    replace s3 := cell_held hb s3
    replace s4 := cell_held hb s4
    replace s5 := cell_held hb s5
    replace s6 := cell_held hb s6
    replace s7 := cell_held hb s7
    replace s8 := cell_held hb s8
    replace s9 := cell_held hb s9
    replace s10 := cell_held hb s10
    replace s11 := cell_held hb s11
    replace s12 := cell_held hb s12
    replace s13 := cell_held hb s13
    replace s14 := cell_held hb s14
    replace qB := below_step (w := W) qB hb
    clear hb
    refine hK.out _ _ ⟨s0, s1, s2, s3, s4, s5, s6, s7, s8, s9, s10, s11, s12, s13, s14⟩ (fun hHeld => ?_)
    clear hK K s0 s1 s2 s3 s4 s5 s6 s7 s8 s9 s10 s11 s12 s13 s14
    refine norm_ (a' := ?_) ?_ ?_
    rotate_left
    · show Act.put _ (some 43) _ = _
      simp only [Act.put, List.setIfInBounds_toArray, List.set_cons_zero, List.set_cons_succ, i64_w, i32_w]
      rfl
    refine pure_ (i := 7) (N := some 45) (v := ?_) (a' := ?_) #[true, true, true, true, true, true, true, true, false, false, false, false, false] rfl rfl (any_of HT_.out (by kernel_rfl)) (fun _ _ _ h => h) (Or.inl ⟨by rfl, ?_⟩) ?_ ?_
    rotate_left
    · intro w'
      go_simp
      with_reducible rfl
    rotate_left
    · simp only [Act.put, List.setIfInBounds_toArray, List.set_cons_zero, List.set_cons_succ, i64_w, i32_w]
      rfl
    refine pure_ (i := 8) (N := some 46) (v := ?_) (a' := ?_) #[true, true, true, true, true, true, true, true, true, false, false, false, false] rfl rfl (any_of HT_.out (by kernel_rfl)) (fun _ _ _ h => h) (Or.inl ⟨by rfl, ?_⟩) ?_ ?_
    rotate_left
    · intro w'
      go_simp
      with_reducible rfl
    rotate_left
    · simp only [Act.put, List.setIfInBounds_toArray, List.set_cons_zero, List.set_cons_succ, i64_w, i32_w]
      rfl
    refine pure_ (i := 9) (N := some 47) (v := ?_) (a' := ?_) #[true, true, true, true, true, true, true, true, true, true, false, false, false] rfl rfl (any_of HT_.out (by kernel_rfl)) (fun _ _ _ h => h) (Or.inl ⟨by rfl, ?_⟩) ?_ ?_
    rotate_left
    · intro w'
      go_simp
      with_reducible rfl
    rotate_left
    · simp only [Act.put, List.setIfInBounds_toArray, List.set_cons_zero, List.set_cons_succ, i64_w, i32_w]
      rfl
    refine one_ (i := 10) (N := some 48) #[true, true, true, true, true, true, true, true, true, true, true, false, false] rfl rfl (one_of HT_.out (by kernel_rfl)) (by decide) (fun K hK => ?_)
    refine goes_ Try.func11 (by kernel_rfl) rfl #[] (by rfl) rfl rfl (by (try simp only [List.map_toArray, List.map_cons, List.map_nil]); first | done | rfl) ?_
    refine (c_awake _).mono ?_
    rintro e wn ⟨rfl, hb⟩
    refine ⟨_, rfl, ?_⟩
    obtain ⟨s0, s1, s2, s3, s4, s5, s6, s7, s8, s9, s10, s11, s12, s13, s14⟩ := hHeld
    replace s0 := cell_held hb s0
    replace s1 := cell_held hb s1
    replace s2 := cell_held hb s2
    replace s3 := cell_held hb s3
    replace s4 := cell_held hb s4
    replace s5 := cell_held hb s5
    replace s6 := cell_held hb s6
    replace s7 := cell_held hb s7
    replace s8 := cell_held hb s8
    replace s9 := cell_held hb s9
    replace s10 := cell_held hb s10
    replace s11 := cell_held hb s11
    replace s12 := cell_held hb s12
    replace s13 := cell_held hb s13
    replace s14 := cell_held hb s14
    replace qB := below_step (w := W) qB hb
    clear hb
    refine hK.out _ _ ⟨s0, s1, s2, s3, s4, s5, s6, s7, s8, s9, s10, s11, s12, s13, s14⟩ (fun hHeld => ?_)
    clear hK K s0 s1 s2 s3 s4 s5 s6 s7 s8 s9 s10 s11 s12 s13 s14
    refine norm_ (a' := ?_) ?_ ?_
    rotate_left
    · show Act.put _ (some 48) _ = _
      simp only [Act.put, List.setIfInBounds_toArray, List.set_cons_zero, List.set_cons_succ, i64_w, i32_w]
      rfl
    refine pure_ (i := 11) (N := some 49) (v := ?_) (a' := ?_) #[true, true, true, true, true, true, true, true, true, true, true, true, false] rfl rfl (any_of HT_.out (by kernel_rfl)) (fun _ _ _ h => h) (Or.inl ⟨by rfl, ?_⟩) ?_ ?_
    rotate_left
    · intro w'
      go_simp
      with_reducible rfl
    rotate_left
    · simp only [Act.put, List.setIfInBounds_toArray, List.set_cons_zero, List.set_cons_succ, i64_w, i32_w]
      rfl
    refine pure_ (i := 12) (N := some 4) (v := ?_) (a' := ?_) #[true, true, true, true, true, true, true, true, true, true, true, true, true] rfl rfl (any_of HT_.out (by kernel_rfl)) (fun _ _ _ h => h) (Or.inl ⟨by rfl, ?_⟩) ?_ ?_
    rotate_left
    · intro w'
      go_simp
      with_reducible rfl
    rotate_left
    · simp only [Act.put, List.setIfInBounds_toArray, List.set_cons_zero, List.set_cons_succ, i64_w, i32_w]
      rfl
    refine done_ (done_of HT_.out (by kernel_rfl)) ?_
    go_wp2
    go_ret
    exact ⟨rfl, qB⟩
theorem FloatFrames_law (a0_0 : Int) (a0_1 : Int) (a0_2 : Int) (a0_3 : Int) (a1_0 : Int) (a1_1 : Int) (a1_2 : Int) (W : World) (w0_0 : (Lit.int .i64 a0_0).wf = true) (w0_1 : (Lit.int .i64 a0_1).wf = true) (w0_2 : (Lit.int .i64 a0_2).wf = true) (w0_3 : (Lit.int .i64 a0_3).wf = true) (w1_0 : (Lit.int .i64 a1_0).wf = true) (w1_1 : (Lit.int .i64 a1_1).wf = true) (w1_2 : (Lit.int .i64 a1_2).wf = true) :
    Calls Try.prog 8 #[.agg #[.int .i64 a0_0, .int .i64 a0_1, .int .i64 a0_2, .int .i64 a0_3], .agg #[.int .i64 a1_0, .int .i64 a1_1, .int .i64 a1_2]] W fun e w' => e = .returned (.bool true) ∧ Below W.heap.size W w' :=
  frames_any ⟨a0_0, a0_1, a0_2, a0_3⟩ a1_0 a1_1 a1_2 W
end Go.Proofs.Ytajpnmiblepmkaa.Fl
