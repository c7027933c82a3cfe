/- Clients that stand free: the contract of the reference's Start; FloatStarts. -/
import Derived.Test.YtajpnmiblepmkaaFlL
import Derived.Test.YtajpnmiblepmkaaFlK

namespace Go.Proofs.Ytajpnmiblepmkaa.Fl
open Go.RowKit Go.Proofs.YtajpnmiblepmkaaW.PrintMore Go.Proofs.YtajpnmiblepmkaaW.PrintWords Go.Proofs.YtajpnmiblepmkaaW.PrintLast Go.Proofs.Ytajpnmiblepmkaa.Geo Go.Proofs.Ytajpnmiblepmkaa.Sz
set_option linter.unusedVariables false
set_option linter.unusedSimpArgs false
attribute [local go_sem] max2_int min2_int max_two min_two max_three min_three
attribute [local go_sem high] eqR

set_option maxHeartbeats 1000000 in
theorem c_half (n : Int) (h1 : -1000000 ≤ n) (h2 : n ≤ 1000000) (w : World) : Calls Try.prog 34 #[.int .i64 n] w (RetI (n / 2) w) := by
  unfold RetI
  by_cases c : n < 0
  · by_cases d : n.tmod 2 = 0
    · have e : n.tdiv 2 = n / 2 := by
        have := Int.mul_tdiv_add_tmod n 2
        omega
      have d1 : (n.tmod 2 != 0) = false := by simp [d]
      have d2 : (n.tmod 2 == 0) = true := by simp [d]
      clear d
      go_enter Try.func34, Try.ntmps34
      go_wp2
      go_ret
      exact ⟨rfl, Below.refl _ _⟩
    · have e : n.tdiv 2 - 1 = n / 2 := by
        have := Int.mul_tdiv_add_tmod n 2
        have b1 : -2 < n.tmod 2 := Int.lt_tmod_of_pos n (by decide)
        have b2 : n.tmod 2 ≤ 0 := by
          have q := Int.neg_tmod n 2
          rw [Int.tmod_eq_emod_of_nonneg (by omega)] at q
          omega
        omega
      have d1 : (n.tmod 2 != 0) = true := by simp [d]
      have d2 : (n.tmod 2 == 0) = false := by simp [d]
      have b1 : -1000000 ≤ n.tdiv 2 := by omega
      have b2 : n.tdiv 2 ≤ 1000000 := by omega
      clear d
      go_enter Try.func34, Try.ntmps34
      go_wp2
      go_ret
      exact ⟨by rw [← e]; rfl, Below.refl _ _⟩
  · by_cases d : n % 2 = 0
    · have d1 : (n % 2 != 0) = false := by simp [d]
      have d2 : (n % 2 == 0) = true := by simp [d]
      clear d
      go_enter Try.func34, Try.ntmps34
      go_wp2
      go_ret
      exact ⟨rfl, Below.refl _ _⟩
    · have d1 : (n % 2 != 0) = true := by simp [d]
      have d2 : (n % 2 == 0) = false := by simp [d]
      clear d
      go_enter Try.func34, Try.ntmps34
      go_wp2
      go_ret
      exact ⟨rfl, Below.refl _ _⟩
theorem c_leastB (p q : Int) (w : World) : Calls Try.prog 32 #[.int .i64 p, .int .i64 q] w (RetI (min p q) w) := (c_least p q w).mono fun e w' h => ⟨h.1, h.2 ▸ Below.refl _ _⟩
def FlTa.T3 : Bool × List (List Nat × List Nat) := (true, [([], []), ([], []), ([], []), ([2], [2]), ([1, 3], [1, 3]), ([], []), ([], []), ([6], [6]), ([5, 7, 4], [5, 7]), ([0, 4, 8, 8], [0, 4, 8]), ([9], [9]), ([10], [10]), ([10], [10]), ([11, 9, 0, 1, 2, 3, 4, 5, 6, 7, 8, 9, 10, 11], [11]), ([12, 13, 0, 1, 2, 3, 4, 5, 6, 7, 8, 9, 10, 11, 12, 13], [12])])
def FlTa.B3 : List Nat := [0, 0, 0, 4, 14, 0, 0, 64, 254, 511, 1023, 2047, 2047, 4095, 16383]
theorem FlTa.tab3 : rtab .any (opsOf Try.f10 3) = FlTa.T3 := by kernel_rfl
theorem FlTa.bits3 : waitsOk FlTa.T3.2 FlTa.B3 = true := by kernel_rfl
def FlTb.T7 : Bool × List (List Nat × List Nat) := (true, [([], []), ([0], [0]), ([], []), ([2], [2]), ([], []), ([3, 4], [3, 4]), ([5], [5]), ([1, 6], [1, 6]), ([], []), ([8], [8]), ([], []), ([10], [10]), ([], []), ([11, 12], [11, 12]), ([13, 6], [13]), ([9, 14], [9, 14]), ([], []), ([], []), ([7, 15, 16, 17, 14], [7, 15, 16, 17]), ([], []), ([19, 18, 18, 0, 1, 2, 3, 4, 5, 6, 7, 8, 9, 10, 11, 12, 13, 14, 15, 16, 17, 18, 19], [18, 19])])
def FlTb.B7 : List Nat := [0, 1, 0, 4, 0, 28, 60, 127, 0, 256, 0, 1024, 0, 7168, 15484, 32636, 0, 0, 262143, 0, 1048575]
theorem FlTb.tab7 : rtab .any (opsOf Try.f10 7) = FlTb.T7 := by kernel_rfl
theorem FlTb.bits7 : waitsOk FlTb.T7.2 FlTb.B7 = true := by kernel_rfl
set_option maxHeartbeats 16000000 in
set_option maxRecDepth 100000 in
theorem c_rstart (o k : Rc) (h : Hn) (w t : Int) (W : World) : Calls Try.prog 10 #[.agg #[.int .i64 o.x, .int .i64 o.y, .int .i64 o.w, .int .i64 o.h], .agg #[.int .i64 k.x, .int .i64 k.y, .int .i64 k.w, .int .i64 k.h], .agg #[.int .i64 h.minW, .int .i64 h.minH, .int .i64 h.maxW, .int .i64 h.maxH, .int .i64 h.baseW, .int .i64 h.baseH, .int .i64 h.incW, .int .i64 h.incH, .int .i64 h.lowX, .int .i64 h.lowY, .int .i64 h.highX, .int .i64 h.highY], .int .i64 w, .int .i64 t] W (RetR (startP o k h w t) W) := by
  unfold RetR
  have K1 := c_rEmpty k
  have K2 := c_rEmpty o
  obtain ⟨n, hn⟩ : ∃ n, n = workP k := ⟨_, rfl⟩
  obtain ⟨i, hi⟩ : ∃ i, i = inP o n := ⟨_, rfl⟩
  obtain ⟨x, y, g, e⟩ := fit_good h (min w n.w) (min t n.h)
  have hnr : rightB n = true := hn ▸ workP_rightB k
  have hir : rightB i = true := by
    rw [hi]; unfold inP
    by_cases c : emptyB o = true
    · rw [if_pos c]; exact hnr
    · rw [if_neg c]; exact (emptyB_false.1 (by simpa using c)).1
  obtain ⟨L, hL⟩ : ∃ L, L = laidP (midP i.x i.w x) (midP i.y i.h y) x y := ⟨_, rfl⟩
  obtain ⟨R, hR⟩ : ∃ R, R = keepP L n := ⟨_, rfl⟩
  have eR : startP o k h w t = R := by
    unfold startP
    rw [← hn, ← hi, e, hR, hL]
  rw [eR]
  have bx := in_bd hir
  obtain ⟨g1, g2, g3, g4, _⟩ := g
  have KF := Aside0.mk (c_rfit e)
  have KA := c_half (i.w - x) (by omega) (by omega)
  have KB := c_half (i.h - y) (by omega) (by omega)
  have KL := c_rLaid (midP i.x i.w x) (midP i.y i.h y) x y (by unfold midP; omega) (by unfold midP; omega)
  rw [← hL] at KL
  have KK := c_rKeep L n
  rw [← hR] at KK
  unfold midP at KL
  rw [← wrap64_i (n := i.x + (i.w - x) / 2) (by omega) (by omega), ← wrap64_i (n := i.y + (i.h - y) / 2) (by omega) (by omega)] at KL
  rw [← wrap64_i (n := i.w - x) (by omega) (by omega)] at KA
  rw [← wrap64_i (n := i.h - y) (by omega) (by omega)] at KB
  have ew1 : wrap64 (i.w - x) / 2 = (i.w - x) / 2 := by rw [wrap64_i (by omega) (by omega)]
  have ew2 : wrap64 (i.h - y) / 2 = (i.h - y) / 2 := by rw [wrap64_i (by omega) (by omega)]
  rw [ew1] at KA
  rw [ew2] at KB
  obtain ⟨mx, hmx⟩ : ∃ m, m = (i.w - x) / 2 := ⟨_, rfl⟩
  obtain ⟨my, hmy⟩ : ∃ m, m = (i.h - y) / 2 := ⟨_, rfl⟩
  rw [← hmx] at KA KL
  rw [← hmy] at KB KL
  clear ew1 ew2
  obtain ⟨m1, hm1⟩ : ∃ m, m = min w n.w := ⟨_, rfl⟩
  obtain ⟨m2, hm2⟩ : ∃ m, m = min t n.h := ⟨_, rfl⟩
  have j1 := c_leastB w n.w
  have j2 := c_leastB t n.h
  rw [← hm1] at j1
  rw [← hm2] at j2
  rw [← hm1, ← hm2] at KF
  replace K1 := Aside0.mk K1; replace K2 := Aside0.mk K2; replace KA := Aside0.mk KA; replace KB := Aside0.mk KB; replace KL := Aside0.mk KL; replace KK := Aside0.mk KK
  have HI := Aside0.mk hi
  have HNN := Aside0.mk hn
  have J1 := Aside0.mk j1
  have J2 := Aside0.mk j2
  clear hn hi g1 g2 g3 g4 e hnr hir hL hR eR bx hmx hmy hm1 hm2 j1 j2
  go_enter Try.func10, Try.ntmps10
  go_wp2_with fail
  obtain ⟨be, hbe⟩ : ∃ b, emptyB k = b := ⟨_, rfl⟩
  rw [hbe] at K1
  have HBE := Aside0.mk hbe
  clear hbe
  refine (K1.out _).mono ?_
  rintro e w1 ⟨rfl, hb⟩
  have B5 := Aside0.mk (blk_below (g := W.heap.size) (o := .cells #[.int .i64 o.x, .int .i64 o.y, .int .i64 o.w, .int .i64 o.h] 23 (0, 0)) (by (repeat (first | exact new_at (by simp only [World.size_alloc, World.size_drew]; done) | refine blk_drew ?_ | refine blk_alloc ?_ _))) hb)
  have B6 := Aside0.mk (blk_below (g := W.heap.size + 1) (o := .cells #[.int .i64 k.x, .int .i64 k.y, .int .i64 k.w, .int .i64 k.h] 23 (0, 0)) (by (repeat (first | exact new_at (by simp only [World.size_alloc, World.size_drew]; done) | refine blk_drew ?_ | refine blk_alloc ?_ _))) hb)
  have B7 := Aside0.mk (blk_below (g := W.heap.size + 1 + 1) (o := .cells #[.int .i64 h.minW, .int .i64 h.minH, .int .i64 h.maxW, .int .i64 h.maxH, .int .i64 h.baseW, .int .i64 h.baseH, .int .i64 h.incW, .int .i64 h.incH, .int .i64 h.lowX, .int .i64 h.lowY, .int .i64 h.highX, .int .i64 h.highY] 25 (0, 0)) (by (repeat (first | exact new_at (by simp only [World.size_alloc, World.size_drew]; done) | refine blk_drew ?_ | refine blk_alloc ?_ _))) hb)
  have B10 := Aside0.mk (blk_below (g := W.heap.size + 1 + 1 + 1) (o := .cells #[.int .i64 0, .int .i64 0, .int .i64 0, .int .i64 0] 23 (0, 0)) (by (repeat (first | exact new_at (by simp only [World.size_alloc, World.size_drew]; done) | refine blk_drew ?_ | refine blk_alloc ?_ _))) hb)
  have HB := Aside0.mk (below_step (w := W) (by (repeat (first | exact Below.refl _ _ | apply below_alloc))) hb)
  have HZ := Aside0.mk (show W.heap.size + 1 + 1 + 1 < w1.heap.size by have := hb.size; simp only [World.size_alloc] at this; omega)
  clear hb K1
  have p0 : w1.cell? ⟨W.heap.size + 1, 0, none⟩ = some (.int .i64 (k.x)) := (blk_cell B6.out 0).trans rfl
  have fp0 := blk_frozen B6.out 0
  have p1 : w1.cell? ⟨W.heap.size + 1, 1, none⟩ = some (.int .i64 (k.y)) := (blk_cell B6.out 1).trans rfl
  have fp1 := blk_frozen B6.out 1
  have p2 : w1.cell? ⟨W.heap.size + 1, 2, none⟩ = some (.int .i64 (k.w)) := (blk_cell B6.out 2).trans rfl
  have fp2 := blk_frozen B6.out 2
  have p3 : w1.cell? ⟨W.heap.size + 1, 3, none⟩ = some (.int .i64 (k.h)) := (blk_cell B6.out 3).trans rfl
  have fp3 := blk_frozen B6.out 3
  go_upto_if 16 with fail
  go_cut [] (fun wx => Aside0 (wx.heap[W.heap.size]? = some (.cells #[.int .i64 o.x, .int .i64 o.y, .int .i64 o.w, .int .i64 o.h] 23 (0, 0))) ∧ Aside0 (wx.heap[W.heap.size + 1]? = some (.cells #[.int .i64 n.x, .int .i64 n.y, .int .i64 n.w, .int .i64 n.h] 23 (0, 0))) ∧ Aside0 (wx.heap[W.heap.size + 1 + 1]? = some (.cells #[.int .i64 h.minW, .int .i64 h.minH, .int .i64 h.maxW, .int .i64 h.maxH, .int .i64 h.baseW, .int .i64 h.baseH, .int .i64 h.incW, .int .i64 h.incH, .int .i64 h.lowX, .int .i64 h.lowY, .int .i64 h.highX, .int .i64 h.highY] 25 (0, 0))) ∧ Aside0 (wx.heap[W.heap.size + 1 + 1 + 1]? = some (.cells #[.int .i64 0, .int .i64 0, .int .i64 0, .int .i64 0] 23 (0, 0))) ∧ Aside0 (W.heap.size + 1 + 1 + 1 < wx.heap.size) ∧ Aside0 (Below W.heap.size W wx))
  case first =>
    cases be
    · have en : n = k := by rw [HNN.out]; unfold workP; rw [if_neg (by rw [HBE.out]; decide)]
      have EN := Aside0.mk en
      clear en
      go_wp2_with fail
      go_meet
      rw [EN.out]
      exact ⟨B5, B6, B7, B10, HZ, HB⟩
    · have en : n = ⟨0, 0, 1, 1⟩ := by rw [HNN.out]; unfold workP; rw [if_pos HBE.out]
      have EN := Aside0.mk en
      clear en
      go_wp2_with fail
      go_meet
      rw [EN.out]
      exact ⟨⟨put4_far B5.out (by omega) _ _ _ _⟩, ⟨put4 B6.out _ _ _ _⟩, ⟨put4_far B7.out (by omega) _ _ _ _⟩, ⟨put4_far B10.out (by omega) _ _ _ _⟩, ⟨by simp only [World.size_setCell]; exact HZ.out⟩, ⟨by (repeat (refine below_set ?_ (by omega))); exact HB.out⟩⟩
  case rest =>
    clear p0 p1 p2 p3 fp0 fp1 fp2 fp3
    clear B5 B6 B7 B10 HB HZ HBE
    obtain ⟨B5, B6, B7, B10, HZ, HB⟩ := hcut
    have p0 : wc.cell? ⟨W.heap.size + 1, 0, none⟩ = some (.int .i64 (n.x)) := (blk_cell B6.out 0).trans rfl
    have p1 : wc.cell? ⟨W.heap.size + 1, 1, none⟩ = some (.int .i64 (n.y)) := (blk_cell B6.out 1).trans rfl
    have p2 : wc.cell? ⟨W.heap.size + 1, 2, none⟩ = some (.int .i64 (n.w)) := (blk_cell B6.out 2).trans rfl
    have p3 : wc.cell? ⟨W.heap.size + 1, 3, none⟩ = some (.int .i64 (n.h)) := (blk_cell B6.out 3).trans rfl
    have u0 : wc.cell? ⟨W.heap.size + 1 + 1, 0, none⟩ = some (.int .i64 (h.minW)) := (blk_cell B7.out 0).trans rfl
    have u1 : wc.cell? ⟨W.heap.size + 1 + 1, 1, none⟩ = some (.int .i64 (h.minH)) := (blk_cell B7.out 1).trans rfl
    have u2 : wc.cell? ⟨W.heap.size + 1 + 1, 2, none⟩ = some (.int .i64 (h.maxW)) := (blk_cell B7.out 2).trans rfl
    have u3 : wc.cell? ⟨W.heap.size + 1 + 1, 3, none⟩ = some (.int .i64 (h.maxH)) := (blk_cell B7.out 3).trans rfl
    have u4 : wc.cell? ⟨W.heap.size + 1 + 1, 4, none⟩ = some (.int .i64 (h.baseW)) := (blk_cell B7.out 4).trans rfl
    have u5 : wc.cell? ⟨W.heap.size + 1 + 1, 5, none⟩ = some (.int .i64 (h.baseH)) := (blk_cell B7.out 5).trans rfl
    have u6 : wc.cell? ⟨W.heap.size + 1 + 1, 6, none⟩ = some (.int .i64 (h.incW)) := (blk_cell B7.out 6).trans rfl
    have u7 : wc.cell? ⟨W.heap.size + 1 + 1, 7, none⟩ = some (.int .i64 (h.incH)) := (blk_cell B7.out 7).trans rfl
    have u8 : wc.cell? ⟨W.heap.size + 1 + 1, 8, none⟩ = some (.int .i64 (h.lowX)) := (blk_cell B7.out 8).trans rfl
    have u9 : wc.cell? ⟨W.heap.size + 1 + 1, 9, none⟩ = some (.int .i64 (h.lowY)) := (blk_cell B7.out 9).trans rfl
    have u10 : wc.cell? ⟨W.heap.size + 1 + 1, 10, none⟩ = some (.int .i64 (h.highX)) := (blk_cell B7.out 10).trans rfl
    have u11 : wc.cell? ⟨W.heap.size + 1 + 1, 11, none⟩ = some (.int .i64 (h.highY)) := (blk_cell B7.out 11).trans rfl
    have qB := HB.out
    clear HB B7
    go_wp2_with fail
    refine start_ (n := 15) (S := fun w' => w'.cell? ⟨W.heap.size + 1, 0, none⟩ = some (.int .i64 n.x) ∧ w'.cell? ⟨W.heap.size + 1, 1, none⟩ = some (.int .i64 n.y) ∧ w'.cell? ⟨W.heap.size + 1, 2, none⟩ = some (.int .i64 n.w) ∧ w'.cell? ⟨W.heap.size + 1, 3, none⟩ = some (.int .i64 n.h) ∧ w'.cell? ⟨W.heap.size + 1 + 1, 0, none⟩ = some (.int .i64 h.minW) ∧ w'.cell? ⟨W.heap.size + 1 + 1, 1, none⟩ = some (.int .i64 h.minH) ∧ w'.cell? ⟨W.heap.size + 1 + 1, 2, none⟩ = some (.int .i64 h.maxW) ∧ w'.cell? ⟨W.heap.size + 1 + 1, 3, none⟩ = some (.int .i64 h.maxH) ∧ w'.cell? ⟨W.heap.size + 1 + 1, 4, none⟩ = some (.int .i64 h.baseW) ∧ w'.cell? ⟨W.heap.size + 1 + 1, 5, none⟩ = some (.int .i64 h.baseH) ∧ w'.cell? ⟨W.heap.size + 1 + 1, 6, none⟩ = some (.int .i64 h.incW) ∧ w'.cell? ⟨W.heap.size + 1 + 1, 7, none⟩ = some (.int .i64 h.incH) ∧ w'.cell? ⟨W.heap.size + 1 + 1, 8, none⟩ = some (.int .i64 h.lowX) ∧ w'.cell? ⟨W.heap.size + 1 + 1, 9, none⟩ = some (.int .i64 h.lowY) ∧ w'.cell? ⟨W.heap.size + 1 + 1, 10, none⟩ = some (.int .i64 h.highX) ∧ w'.cell? ⟨W.heap.size + 1 + 1, 11, none⟩ = some (.int .i64 h.highY)) (ds := []) #[false, false, false, false, false, false, false, false, false, false, false, false, false, false, false] (by kernel_rfl) rfl rfl ⟨p0, p1, p2, p3, u0, u1, u2, u3, u4, u5, u6, u7, u8, u9, u10, u11⟩ (fun hHeld => ?_)
    refine with_tabW FlTa.tab3 FlTa.bits3 (fun HT_ HW_ => ?_)
    have qB0 := below_drew qB
    clear qB
    have qB := qB0
    clear qB0
    replace B5 := Aside0.mk (blk_drew B5.out)
    replace B6 := Aside0.mk (blk_drew B6.out)
    replace B10 := Aside0.mk (blk_drew B10.out)
    generalize wc.drew = wr at qB hHeld B5 B6 B10 ⊢
    refine take_ (i := 0) (N := some 19) (v := ?_) (a' := ?_) #[true, false, false, false, false, false, false, false, false, false, false, false, false, false, false] rfl rfl (take_ofW HT_.out HW_.out (by kernel_rfl)) (fun _ _ _ h => h) (Or.inl ⟨by rfl, ?_⟩) hHeld ?_ ?_
    rotate_left
    · rintro w' ⟨s0, s1, s2, s3, s4, s5, s6, s7, s8, s9, s10, s11, s12, s13, s14, s15⟩
      go_simp
      with_reducible rfl
    rotate_left
    · simp only [Act.put, List.setIfInBounds_toArray, List.set_cons_zero, List.set_cons_succ, i64_w, i32_w]
      rfl
    refine pure_ (i := 1) (N := some 20) (v := ?_) (a' := ?_) #[true, true, false, false, false, false, false, false, false, false, false, false, false, false, false] rfl rfl (any_of HT_.out (by kernel_rfl)) (fun _ _ _ h => h) (Or.inl ⟨by rfl, ?_⟩) ?_ ?_
    rotate_left
    · intro w'
      go_simp
      with_reducible rfl
    rotate_left
    · simp only [Act.put, List.setIfInBounds_toArray, List.set_cons_zero, List.set_cons_succ, i64_w, i32_w]
      rfl
    refine pure_ (i := 2) (N := some 21) (v := ?_) (a' := ?_) #[true, true, true, false, false, false, false, false, false, false, false, false, false, false, false] rfl rfl (any_of HT_.out (by kernel_rfl)) (fun _ _ _ h => h) (Or.inl ⟨by rfl, ?_⟩) ?_ ?_
    rotate_left
    · intro w'
      go_simp
      with_reducible rfl
    rotate_left
    · simp only [Act.put, List.setIfInBounds_toArray, List.set_cons_zero, List.set_cons_succ, i64_w, i32_w]
      rfl
    refine take_ (i := 3) (N := some 22) (v := ?_) (a' := ?_) #[true, true, true, true, false, false, false, false, false, false, false, false, false, false, false] rfl rfl (take_ofW HT_.out HW_.out (by kernel_rfl)) (fun _ _ _ h => h) (Or.inl ⟨by rfl, ?_⟩) hHeld ?_ ?_
    rotate_left
    · rintro w' ⟨s0, s1, s2, s3, s4, s5, s6, s7, s8, s9, s10, s11, s12, s13, s14, s15⟩
      go_simp
      with_reducible rfl
    rotate_left
    · simp only [Act.put, List.setIfInBounds_toArray, List.set_cons_zero, List.set_cons_succ, i64_w, i32_w]
      rfl
    refine pure_ (i := 5) (N := some 24) (v := ?_) (a' := ?_) #[true, true, true, true, false, true, false, false, false, false, false, false, false, false, false] rfl rfl (any_of HT_.out (by kernel_rfl)) (fun _ _ _ h => h) (Or.inl ⟨by rfl, ?_⟩) ?_ ?_
    rotate_left
    · intro w'
      go_simp
      with_reducible rfl
    rotate_left
    · simp only [Act.put, List.setIfInBounds_toArray, List.set_cons_zero, List.set_cons_succ, i64_w, i32_w]
      rfl
    refine pure_ (i := 6) (N := some 25) (v := ?_) (a' := ?_) #[true, true, true, true, false, true, true, false, false, false, false, false, false, false, false] rfl rfl (any_of HT_.out (by kernel_rfl)) (fun _ _ _ h => h) (Or.inl ⟨by rfl, ?_⟩) ?_ ?_
    rotate_left
    · intro w'
      go_simp
      with_reducible rfl
    rotate_left
    · simp only [Act.put, List.setIfInBounds_toArray, List.set_cons_zero, List.set_cons_succ, i64_w, i32_w]
      rfl
    refine take_ (i := 7) (N := some 26) (v := ?_) (a' := ?_) #[true, true, true, true, false, true, true, true, false, false, false, false, false, false, false] rfl rfl (take_ofW HT_.out HW_.out (by kernel_rfl)) (fun _ _ _ h => h) (Or.inl ⟨by rfl, ?_⟩) hHeld ?_ ?_
    rotate_left
    · rintro w' ⟨s0, s1, s2, s3, s4, s5, s6, s7, s8, s9, s10, s11, s12, s13, s14, s15⟩
      go_simp
      with_reducible rfl
    rotate_left
    · simp only [Act.put, List.setIfInBounds_toArray, List.set_cons_zero, List.set_cons_succ, i64_w, i32_w]
      rfl
    refine one_ (i := 4) (N := some 23) #[true, true, true, true, true, true, true, true, false, false, false, false, false, false, false] rfl rfl (one_of HT_.out (by kernel_rfl)) (by decide) (fun K hK => ?_)
    refine goes_ Try.func32 (by kernel_rfl) rfl #[.int .i64 w, .int .i64 n.w] (by rfl) rfl rfl (by (try simp only [List.map_toArray, List.map_cons, List.map_nil]); first | done | rfl) ?_
    refine (J1.out _).mono ?_
    rintro e wn ⟨rfl, hb⟩
    refine ⟨_, rfl, ?_⟩
    obtain ⟨s0, s1, s2, s3, s4, s5, s6, s7, s8, s9, s10, s11, s12, s13, s14, s15⟩ := hHeld
    replace s0 := cell_held hb s0
    replace s1 := cell_held hb s1
    replace s2 := cell_held hb s2
    replace s3 := cell_held hb s3
    replace s4 := cell_held hb s4
    replace s5 := cell_held hb s5
    replace s6 := cell_held hb s6
    replace s7 := cell_held hb s7
    replace s8 := cell_held hb s8
    replace s9 := cell_held hb s9
    replace s10 := cell_held hb s10
    replace s11 := cell_held hb s11
    replace s12 := cell_held hb s12
    replace s13 := cell_held hb s13
    replace s14 := cell_held hb s14
    replace s15 := cell_held hb s15
    replace qB := below_step (w := W) qB hb
    replace B5 := Aside0.mk (blk_below B5.out hb)
    replace B6 := Aside0.mk (blk_below B6.out hb)
    replace B10 := Aside0.mk (blk_below B10.out hb)
    clear hb
    refine hK.out _ _ ⟨s0, s1, s2, s3, s4, s5, s6, s7, s8, s9, s10, s11, s12, s13, s14, s15⟩ (fun hHeld => ?_)
    clear hK K s0 s1 s2 s3 s4 s5 s6 s7 s8 s9 s10 s11 s12 s13 s14 s15
    refine norm_ (a' := ?_) ?_ ?_
    rotate_left
    · show Act.put _ (some 23) _ = _
      simp only [Act.put, List.setIfInBounds_toArray, List.set_cons_zero, List.set_cons_succ, i64_w, i32_w]
      rfl
    refine one_ (i := 8) (N := some 27) #[true, true, true, true, true, true, true, true, true, false, false, false, false, false, false] rfl rfl (one_of HT_.out (by kernel_rfl)) (by decide) (fun K hK => ?_)
    refine goes_ Try.func32 (by kernel_rfl) rfl #[.int .i64 t, .int .i64 n.h] (by rfl) rfl rfl (by (try simp only [List.map_toArray, List.map_cons, List.map_nil]); first | done | rfl) ?_
    refine (J2.out _).mono ?_
    rintro e wn ⟨rfl, hb⟩
    refine ⟨_, rfl, ?_⟩
    obtain ⟨s0, s1, s2, s3, s4, s5, s6, s7, s8, s9, s10, s11, s12, s13, s14, s15⟩ := hHeld
    replace s0 := cell_held hb s0
    replace s1 := cell_held hb s1
    replace s2 := cell_held hb s2
    replace s3 := cell_held hb s3
    replace s4 := cell_held hb s4
    replace s5 := cell_held hb s5
    replace s6 := cell_held hb s6
    replace s7 := cell_held hb s7
    replace s8 := cell_held hb s8
    replace s9 := cell_held hb s9
    replace s10 := cell_held hb s10
    replace s11 := cell_held hb s11
    replace s12 := cell_held hb s12
    replace s13 := cell_held hb s13
    replace s14 := cell_held hb s14
    replace s15 := cell_held hb s15
    replace qB := below_step (w := W) qB hb
    replace B5 := Aside0.mk (blk_below B5.out hb)
    replace B6 := Aside0.mk (blk_below B6.out hb)
    replace B10 := Aside0.mk (blk_below B10.out hb)
    clear hb
    refine hK.out _ _ ⟨s0, s1, s2, s3, s4, s5, s6, s7, s8, s9, s10, s11, s12, s13, s14, s15⟩ (fun hHeld => ?_)
    clear hK K s0 s1 s2 s3 s4 s5 s6 s7 s8 s9 s10 s11 s12 s13 s14 s15
    refine norm_ (a' := ?_) ?_ ?_
    rotate_left
    · show Act.put _ (some 27) _ = _
      simp only [Act.put, List.setIfInBounds_toArray, List.set_cons_zero, List.set_cons_succ, i64_w, i32_w]
      rfl
    refine one_ (i := 9) (N := some 28) #[true, true, true, true, true, true, true, true, true, true, false, false, false, false, false] rfl rfl (one_of HT_.out (by kernel_rfl)) (by decide) (fun K hK => ?_)
    refine goes_ Try.func31 (by kernel_rfl) rfl #[.agg #[.int .i64 h.minW, .int .i64 h.minH, .int .i64 h.maxW, .int .i64 h.maxH, .int .i64 h.baseW, .int .i64 h.baseH, .int .i64 h.incW, .int .i64 h.incH, .int .i64 h.lowX, .int .i64 h.lowY, .int .i64 h.highX, .int .i64 h.highY], .int .i64 m1, .int .i64 m2] (by rfl) rfl rfl (by (try simp only [List.map_toArray, List.map_cons, List.map_nil]); first | done | rfl) ?_
    refine (KF.out _).mono ?_
    rintro e wn ⟨rfl, hb⟩
    refine ⟨_, rfl, ?_⟩
    obtain ⟨s0, s1, s2, s3, s4, s5, s6, s7, s8, s9, s10, s11, s12, s13, s14, s15⟩ := hHeld
    replace s0 := cell_held hb s0
    replace s1 := cell_held hb s1
    replace s2 := cell_held hb s2
    replace s3 := cell_held hb s3
    replace s4 := cell_held hb s4
    replace s5 := cell_held hb s5
    replace s6 := cell_held hb s6
    replace s7 := cell_held hb s7
    replace s8 := cell_held hb s8
    replace s9 := cell_held hb s9
    replace s10 := cell_held hb s10
    replace s11 := cell_held hb s11
    replace s12 := cell_held hb s12
    replace s13 := cell_held hb s13
    replace s14 := cell_held hb s14
    replace s15 := cell_held hb s15
    replace qB := below_step (w := W) qB hb
    replace B5 := Aside0.mk (blk_below B5.out hb)
    replace B6 := Aside0.mk (blk_below B6.out hb)
    replace B10 := Aside0.mk (blk_below B10.out hb)
    clear hb
    refine hK.out _ _ ⟨s0, s1, s2, s3, s4, s5, s6, s7, s8, s9, s10, s11, s12, s13, s14, s15⟩ (fun hHeld => ?_)
    clear hK K s0 s1 s2 s3 s4 s5 s6 s7 s8 s9 s10 s11 s12 s13 s14 s15
    refine norm_ (a' := ?_) ?_ ?_
    rotate_left
    · show Act.put _ (some 28) _ = _
      simp only [Act.put, List.setIfInBounds_toArray, List.set_cons_zero, List.set_cons_succ, i64_w, i32_w]
      rfl
    refine pure_ (i := 10) (N := some 18) (v := ?_) (a' := ?_) #[true, true, true, true, true, true, true, true, true, true, true, false, false, false, false] rfl rfl (any_of HT_.out (by kernel_rfl)) (fun _ _ _ h => h) (Or.inl ⟨by rfl, ?_⟩) ?_ ?_
    rotate_left
    · intro w'
      go_simp
      with_reducible rfl
    rotate_left
    · simp only [Act.put, List.setIfInBounds_toArray, List.set_cons_zero, List.set_cons_succ, i64_w, i32_w]
      rfl
    refine pure_ (i := 11) (N := some 29) (v := ?_) (a' := ?_) #[true, true, true, true, true, true, true, true, true, true, true, true, false, false, false] rfl rfl (any_of HT_.out (by kernel_rfl)) (fun _ _ _ h => h) (Or.inl ⟨by rfl, ?_⟩) ?_ ?_
    rotate_left
    · intro w'
      go_simp
      with_reducible rfl
    rotate_left
    · simp only [Act.put, List.setIfInBounds_toArray, List.set_cons_zero, List.set_cons_succ, i64_w, i32_w]
      rfl
    refine pure_ (i := 12) (N := some 30) (v := ?_) (a' := ?_) #[true, true, true, true, true, true, true, true, true, true, true, true, true, false, false] rfl rfl (any_of HT_.out (by kernel_rfl)) (fun _ _ _ h => h) (Or.inl ⟨by rfl, ?_⟩) ?_ ?_
    rotate_left
    · intro w'
      go_simp
      with_reducible rfl
    rotate_left
    · simp only [Act.put, List.setIfInBounds_toArray, List.set_cons_zero, List.set_cons_succ, i64_w, i32_w]
      rfl
    refine pure_ (i := 13) (N := some 11) (v := ?_) (a' := ?_) #[true, true, true, true, true, true, true, true, true, true, true, true, true, true, false] rfl rfl (any_of HT_.out (by kernel_rfl)) (fun _ _ _ h => h) (Or.inl ⟨by rfl, ?_⟩) ?_ ?_
    rotate_left
    · intro w'
      go_simp
      with_reducible rfl
    rotate_left
    · simp only [Act.put, List.setIfInBounds_toArray, List.set_cons_zero, List.set_cons_succ, i64_w, i32_w]
      rfl
    refine pure_ (i := 14) (N := some 12) (v := ?_) (a' := ?_) #[true, true, true, true, true, true, true, true, true, true, true, true, true, true, true] rfl rfl (any_of HT_.out (by kernel_rfl)) (fun _ _ _ h => h) (Or.inl ⟨by rfl, ?_⟩) ?_ ?_
    rotate_left
    · intro w'
      go_simp
      with_reducible rfl
    rotate_left
    · simp only [Act.put, List.setIfInBounds_toArray, List.set_cons_zero, List.set_cons_succ, i64_w, i32_w]
      rfl
    refine done_ (done_of HT_.out (by kernel_rfl)) ?_
    clear hHeld
    have HB := Aside0.mk qB
    clear qB
    obtain ⟨w2, hw2⟩ : ∃ w2, w2 = wn := ⟨_, rfl⟩
    rw [← hw2] at B5 B6 B10 HB ⊢
    clear hw2
    replace HZ := Aside0.mk (show W.heap.size + 1 + 1 + 1 < w2.heap.size from blk_lt B10.out)
    obtain ⟨g11, hg11⟩ : ∃ g, w2.heap.size = g := ⟨_, rfl⟩
    have B11 := Aside0.mk (show (w2.alloc (.cells #[.int .i64 o.x, .int .i64 o.y, .int .i64 o.w, .int .i64 o.h] 23 (0, 0))).heap[g11]? = some (.cells #[.int .i64 o.x, .int .i64 o.y, .int .i64 o.w, .int .i64 o.h] 23 (0, 0)) by rw [← hg11]; exact blk_new w2 _)
    replace HZ := Aside0.mk (show W.heap.size + 1 + 1 + 1 < g11 by have := HZ.out; omega)
    have p0 : w2.cell? ⟨W.heap.size, 0, none⟩ = some (.int .i64 (o.x)) := (blk_cell B5.out 0).trans rfl
    have p1 : w2.cell? ⟨W.heap.size, 1, none⟩ = some (.int .i64 (o.y)) := (blk_cell B5.out 1).trans rfl
    have p2 : w2.cell? ⟨W.heap.size, 2, none⟩ = some (.int .i64 (o.w)) := (blk_cell B5.out 2).trans rfl
    have p3 : w2.cell? ⟨W.heap.size, 3, none⟩ = some (.int .i64 (o.h)) := (blk_cell B5.out 3).trans rfl
    replace B5 := Aside0.mk (blk_alloc B5.out (.cells #[.int .i64 o.x, .int .i64 o.y, .int .i64 o.w, .int .i64 o.h] 23 (0, 0)))
    replace B6 := Aside0.mk (blk_alloc B6.out (.cells #[.int .i64 o.x, .int .i64 o.y, .int .i64 o.w, .int .i64 o.h] 23 (0, 0)))
    replace B10 := Aside0.mk (blk_alloc B10.out (.cells #[.int .i64 o.x, .int .i64 o.y, .int .i64 o.w, .int .i64 o.h] 23 (0, 0)))
    replace HB := Aside0.mk (below_alloc HB.out (.cells #[.int .i64 o.x, .int .i64 o.y, .int .i64 o.w, .int .i64 o.h] 23 (0, 0)))
    have k0 : (w2.alloc (.cells #[.int .i64 o.x, .int .i64 o.y, .int .i64 o.w, .int .i64 o.h] 23 (0, 0))).cell? ⟨W.heap.size, 0, none⟩ = some (.int .i64 (o.x)) := (blk_cell B5.out 0).trans rfl
    have k1 : (w2.alloc (.cells #[.int .i64 o.x, .int .i64 o.y, .int .i64 o.w, .int .i64 o.h] 23 (0, 0))).cell? ⟨W.heap.size, 1, none⟩ = some (.int .i64 (o.y)) := (blk_cell B5.out 1).trans rfl
    have k2 : (w2.alloc (.cells #[.int .i64 o.x, .int .i64 o.y, .int .i64 o.w, .int .i64 o.h] 23 (0, 0))).cell? ⟨W.heap.size, 2, none⟩ = some (.int .i64 (o.w)) := (blk_cell B5.out 2).trans rfl
    have k3 : (w2.alloc (.cells #[.int .i64 o.x, .int .i64 o.y, .int .i64 o.w, .int .i64 o.h] 23 (0, 0))).cell? ⟨W.heap.size, 3, none⟩ = some (.int .i64 (o.h)) := (blk_cell B5.out 3).trans rfl
    go_wp2_with fail
    clear p0 p1 p2 p3 k0 k1 k2 k3
    (try rw [hg11])
    generalize hw3 : w2.alloc (.cells #[.int .i64 o.x, .int .i64 o.y, .int .i64 o.w, .int .i64 o.h] 23 (0, 0)) = w3 at B5 B6 B10 B11 HB ⊢
    clear hw3 hg11
    obtain ⟨bo, hbo⟩ : ∃ b, emptyB o = b := ⟨_, rfl⟩
    rw [hbo] at K2
    have HBO := Aside0.mk hbo
    clear hbo
    refine (K2.out _).mono ?_
    rintro e w4 ⟨rfl, hb⟩
    replace B5 := Aside0.mk (blk_below B5.out hb)
    replace B6 := Aside0.mk (blk_below B6.out hb)
    replace B10 := Aside0.mk (blk_below B10.out hb)
    replace B11 := Aside0.mk (blk_below B11.out hb)
    replace HB := Aside0.mk (below_step HB.out hb)
    clear hb K2
    have p0 : w4.cell? ⟨W.heap.size + 1, 0, none⟩ = some (.int .i64 (n.x)) := (blk_cell B6.out 0).trans rfl
    have fp0 := blk_frozen B6.out 0
    have p1 : w4.cell? ⟨W.heap.size + 1, 1, none⟩ = some (.int .i64 (n.y)) := (blk_cell B6.out 1).trans rfl
    have fp1 := blk_frozen B6.out 1
    have p2 : w4.cell? ⟨W.heap.size + 1, 2, none⟩ = some (.int .i64 (n.w)) := (blk_cell B6.out 2).trans rfl
    have fp2 := blk_frozen B6.out 2
    have p3 : w4.cell? ⟨W.heap.size + 1, 3, none⟩ = some (.int .i64 (n.h)) := (blk_cell B6.out 3).trans rfl
    have fp3 := blk_frozen B6.out 3
    have q0 : w4.cell? ⟨g11, 0, none⟩ = some (.int .i64 (o.x)) := (blk_cell B11.out 0).trans rfl
    have fq0 := blk_frozen B11.out 0
    have q1 : w4.cell? ⟨g11, 1, none⟩ = some (.int .i64 (o.y)) := (blk_cell B11.out 1).trans rfl
    have fq1 := blk_frozen B11.out 1
    have q2 : w4.cell? ⟨g11, 2, none⟩ = some (.int .i64 (o.w)) := (blk_cell B11.out 2).trans rfl
    have fq2 := blk_frozen B11.out 2
    have q3 : w4.cell? ⟨g11, 3, none⟩ = some (.int .i64 (o.h)) := (blk_cell B11.out 3).trans rfl
    have fq3 := blk_frozen B11.out 3
    go_upto_if 33 with fail
    go_cut [] (fun wx => Aside0 (wx.heap[W.heap.size + 1]? = some (.cells #[.int .i64 n.x, .int .i64 n.y, .int .i64 n.w, .int .i64 n.h] 23 (0, 0))) ∧ Aside0 (wx.heap[W.heap.size + 1 + 1 + 1]? = some (.cells #[.int .i64 0, .int .i64 0, .int .i64 0, .int .i64 0] 23 (0, 0))) ∧ Aside0 (wx.heap[g11]? = some (.cells #[.int .i64 i.x, .int .i64 i.y, .int .i64 i.w, .int .i64 i.h] 23 (0, 0))) ∧ Aside0 (Below W.heap.size W wx))
    case first =>
      have hz := HZ.out
      cases bo
      · have en : i = o := by rw [HI.out]; unfold inP; rw [if_neg (by rw [HBO.out]; decide)]
        have EN := Aside0.mk en
        clear en
        go_wp2_with fail
        go_meet
        rw [EN.out]
        exact ⟨B6, B10, B11, HB⟩
      · have en : i = n := by rw [HI.out]; unfold inP; rw [if_pos HBO.out]
        have EN := Aside0.mk en
        clear en
        go_wp2_with fail
        go_meet
        rw [EN.out]
        exact ⟨⟨put4_far B6.out (by omega) _ _ _ _⟩, ⟨put4_far B10.out (by omega) _ _ _ _⟩, ⟨put4 B11.out _ _ _ _⟩, ⟨by (repeat (refine below_set ?_ (by omega))); exact HB.out⟩⟩
    case rest =>
      clear p0 p1 p2 p3 fp0 fp1 fp2 fp3 q0 q1 q2 q3 fq0 fq1 fq2 fq3
      clear B5 B6 B10 B11 HB HBO
      obtain ⟨B6, B10, B11, HB⟩ := hcut
      have hz := HZ.out
      have qB := HB.out
      clear HB
      go_upto_region 7 with fail
      go_cut [14] (fun v14 wx => ∃ g14 : Nat, v14 = .pointer (some ⟨g14, 0, none⟩) ∧ Aside0 (wx.heap[g14]? = some (.cells #[.int .i64 L.x, .int .i64 L.y, .int .i64 L.w, .int .i64 L.h] 23 (0, 0))) ∧ Aside0 (wx.heap[W.heap.size + 1]? = some (.cells #[.int .i64 n.x, .int .i64 n.y, .int .i64 n.w, .int .i64 n.h] 23 (0, 0))) ∧ Aside0 (wx.heap[W.heap.size + 1 + 1 + 1]? = some (.cells #[.int .i64 0, .int .i64 0, .int .i64 0, .int .i64 0] 23 (0, 0))) ∧ Aside0 (Below W.heap.size W wx))
      case first =>
        have p0 : wc.cell? ⟨g11, 0, none⟩ = some (.int .i64 (i.x)) := (blk_cell B11.out 0).trans rfl
        have p1 : wc.cell? ⟨g11, 1, none⟩ = some (.int .i64 (i.y)) := (blk_cell B11.out 1).trans rfl
        have p2 : wc.cell? ⟨g11, 2, none⟩ = some (.int .i64 (i.w)) := (blk_cell B11.out 2).trans rfl
        have p3 : wc.cell? ⟨g11, 3, none⟩ = some (.int .i64 (i.h)) := (blk_cell B11.out 3).trans rfl
        refine start_ (n := 21) (S := fun w' => w'.cell? ⟨g11, 0, none⟩ = some (.int .i64 i.x) ∧ w'.cell? ⟨g11, 1, none⟩ = some (.int .i64 i.y) ∧ w'.cell? ⟨g11, 2, none⟩ = some (.int .i64 i.w) ∧ w'.cell? ⟨g11, 3, none⟩ = some (.int .i64 i.h)) (ds := []) #[false, false, false, false, false, false, false, false, false, false, false, false, false, false, false, false, false, false, false, false, false] (by kernel_rfl) rfl rfl ⟨p0, p1, p2, p3⟩ (fun hHeld => ?_)
        refine with_tabW FlTb.tab7 FlTb.bits7 (fun HT_ HW_ => ?_)
        have qB0 := below_drew qB
        clear qB
        have qB := qB0
        clear qB0
        replace B6 := Aside0.mk (blk_drew B6.out)
        replace B10 := Aside0.mk (blk_drew B10.out)
        replace B11 := Aside0.mk (blk_drew B11.out)
        generalize wc.drew = wr at qB hHeld B6 B10 B11 ⊢
        refine pure_ (i := 0) (N := some 35) (v := ?_) (a' := ?_) #[true, false, false, false, false, false, false, false, false, false, false, false, false, false, false, false, false, false, false, false, false] rfl rfl (any_of HT_.out (by kernel_rfl)) (fun _ _ _ h => h) (Or.inl ⟨by rfl, ?_⟩) ?_ ?_
        rotate_left
        · intro w'
          go_simp
          with_reducible rfl
        rotate_left
        · simp only [Act.put, List.setIfInBounds_toArray, List.set_cons_zero, List.set_cons_succ, i64_w, i32_w]
          rfl
        refine take_ (i := 1) (N := some 36) (v := ?_) (a' := ?_) #[true, true, false, false, false, false, false, false, false, false, false, false, false, false, false, false, false, false, false, false, false] rfl rfl (take_ofW HT_.out HW_.out (by kernel_rfl)) (fun _ _ _ h => h) (Or.inl ⟨by rfl, ?_⟩) hHeld ?_ ?_
        rotate_left
        · rintro w' ⟨s0, s1, s2, s3⟩
          go_simp
          with_reducible rfl
        rotate_left
        · simp only [Act.put, List.setIfInBounds_toArray, List.set_cons_zero, List.set_cons_succ, i64_w, i32_w]
          rfl
        refine pure_ (i := 2) (N := some 37) (v := ?_) (a' := ?_) #[true, true, true, false, false, false, false, false, false, false, false, false, false, false, false, false, false, false, false, false, false] rfl rfl (any_of HT_.out (by kernel_rfl)) (fun _ _ _ h => h) (Or.inl ⟨by rfl, ?_⟩) ?_ ?_
        rotate_left
        · intro w'
          go_simp
          with_reducible rfl
        rotate_left
        · simp only [Act.put, List.setIfInBounds_toArray, List.set_cons_zero, List.set_cons_succ, i64_w, i32_w]
          rfl
        refine take_ (i := 3) (N := some 38) (v := ?_) (a' := ?_) #[true, true, true, true, false, false, false, false, false, false, false, false, false, false, false, false, false, false, false, false, false] rfl rfl (take_ofW HT_.out HW_.out (by kernel_rfl)) (fun _ _ _ h => h) (Or.inl ⟨by rfl, ?_⟩) hHeld ?_ ?_
        rotate_left
        · rintro w' ⟨s0, s1, s2, s3⟩
          go_simp
          with_reducible rfl
        rotate_left
        · simp only [Act.put, List.setIfInBounds_toArray, List.set_cons_zero, List.set_cons_succ, i64_w, i32_w]
          rfl
        refine pure_ (i := 4) (N := some 39) (v := ?_) (a' := ?_) #[true, true, true, true, true, false, false, false, false, false, false, false, false, false, false, false, false, false, false, false, false] rfl rfl (any_of HT_.out (by kernel_rfl)) (fun _ _ _ h => h) (Or.inl ⟨by rfl, ?_⟩) ?_ ?_
        rotate_left
        · intro w'
          go_simp
          with_reducible rfl
        rotate_left
        · simp only [Act.put, List.setIfInBounds_toArray, List.set_cons_zero, List.set_cons_succ, i64_w, i32_w]
          rfl
        refine pure_ (i := 5) (N := some 40) (v := ?_) (a' := ?_) #[true, true, true, true, true, true, false, false, false, false, false, false, false, false, false, false, false, false, false, false, false] rfl rfl (any_of HT_.out (by kernel_rfl)) (fun _ _ _ h => h) (Or.inl ⟨by rfl, ?_⟩) ?_ ?_
        rotate_left
        · intro w'
          go_simp
          with_reducible rfl
        rotate_left
        · simp only [Act.put, List.setIfInBounds_toArray, List.set_cons_zero, List.set_cons_succ, i64_w, i32_w]
          rfl
        refine pure_ (i := 8) (N := some 43) (v := ?_) (a' := ?_) #[true, true, true, true, true, true, false, false, true, false, false, false, false, false, false, false, false, false, false, false, false] rfl rfl (any_of HT_.out (by kernel_rfl)) (fun _ _ _ h => h) (Or.inl ⟨by rfl, ?_⟩) ?_ ?_
        rotate_left
        · intro w'
          go_simp
          with_reducible rfl
        rotate_left
        · simp only [Act.put, List.setIfInBounds_toArray, List.set_cons_zero, List.set_cons_succ, i64_w, i32_w]
          rfl
        refine take_ (i := 9) (N := some 44) (v := ?_) (a' := ?_) #[true, true, true, true, true, true, false, false, true, true, false, false, false, false, false, false, false, false, false, false, false] rfl rfl (take_ofW HT_.out HW_.out (by kernel_rfl)) (fun _ _ _ h => h) (Or.inl ⟨by rfl, ?_⟩) hHeld ?_ ?_
        rotate_left
        · rintro w' ⟨s0, s1, s2, s3⟩
          go_simp
          with_reducible rfl
        rotate_left
        · simp only [Act.put, List.setIfInBounds_toArray, List.set_cons_zero, List.set_cons_succ, i64_w, i32_w]
          rfl
        refine pure_ (i := 10) (N := some 45) (v := ?_) (a' := ?_) #[true, true, true, true, true, true, false, false, true, true, true, false, false, false, false, false, false, false, false, false, false] rfl rfl (any_of HT_.out (by kernel_rfl)) (fun _ _ _ h => h) (Or.inl ⟨by rfl, ?_⟩) ?_ ?_
        rotate_left
        · intro w'
          go_simp
          with_reducible rfl
        rotate_left
        · simp only [Act.put, List.setIfInBounds_toArray, List.set_cons_zero, List.set_cons_succ, i64_w, i32_w]
          rfl
        refine take_ (i := 11) (N := some 46) (v := ?_) (a' := ?_) #[true, true, true, true, true, true, false, false, true, true, true, true, false, false, false, false, false, false, false, false, false] rfl rfl (take_ofW HT_.out HW_.out (by kernel_rfl)) (fun _ _ _ h => h) (Or.inl ⟨by rfl, ?_⟩) hHeld ?_ ?_
        rotate_left
        · rintro w' ⟨s0, s1, s2, s3⟩
          go_simp
          with_reducible rfl
        rotate_left
        · simp only [Act.put, List.setIfInBounds_toArray, List.set_cons_zero, List.set_cons_succ, i64_w, i32_w]
          rfl
        refine pure_ (i := 12) (N := some 47) (v := ?_) (a' := ?_) #[true, true, true, true, true, true, false, false, true, true, true, true, true, false, false, false, false, false, false, false, false] rfl rfl (any_of HT_.out (by kernel_rfl)) (fun _ _ _ h => h) (Or.inl ⟨by rfl, ?_⟩) ?_ ?_
        rotate_left
        · intro w'
          go_simp
          with_reducible rfl
        rotate_left
        · simp only [Act.put, List.setIfInBounds_toArray, List.set_cons_zero, List.set_cons_succ, i64_w, i32_w]
          rfl
        refine pure_ (i := 13) (N := some 48) (v := ?_) (a' := ?_) #[true, true, true, true, true, true, false, false, true, true, true, true, true, true, false, false, false, false, false, false, false] rfl rfl (any_of HT_.out (by kernel_rfl)) (fun _ _ _ h => h) (Or.inl ⟨by rfl, ?_⟩) ?_ ?_
        rotate_left
        · intro w'
          go_simp
          with_reducible rfl
        rotate_left
        · simp only [Act.put, List.setIfInBounds_toArray, List.set_cons_zero, List.set_cons_succ, i64_w, i32_w]
          rfl
        refine pure_ (i := 16) (N := some 51) (v := ?_) (a' := ?_) #[true, true, true, true, true, true, false, false, true, true, true, true, true, true, false, false, true, false, false, false, false] rfl rfl (any_of HT_.out (by kernel_rfl)) (fun _ _ _ h => h) (Or.inl ⟨by rfl, ?_⟩) ?_ ?_
        rotate_left
        · intro w'
          go_simp
          with_reducible rfl
        rotate_left
        · simp only [Act.put, List.setIfInBounds_toArray, List.set_cons_zero, List.set_cons_succ, i64_w, i32_w]
          rfl
        refine pure_ (i := 17) (N := some 52) (v := ?_) (a' := ?_) #[true, true, true, true, true, true, false, false, true, true, true, true, true, true, false, false, true, true, false, false, false] rfl rfl (any_of HT_.out (by kernel_rfl)) (fun _ _ _ h => h) (Or.inl ⟨by rfl, ?_⟩) ?_ ?_
        rotate_left
        · intro w'
          go_simp
          with_reducible rfl
        rotate_left
        · simp only [Act.put, List.setIfInBounds_toArray, List.set_cons_zero, List.set_cons_succ, i64_w, i32_w]
          rfl
        refine two_ (i := 6) (j := 19) (Ni := some 41) (Nj := some 14) #[true, true, true, true, true, true, true, false, true, true, true, true, true, true, false, false, true, true, false, false, false] #[true, true, true, true, true, true, false, false, true, true, true, true, true, true, false, false, true, true, false, true, false] rfl rfl rfl rfl (two_of HT_.out (by kernel_rfl)) (by decide) (by decide) (fun K hK => ?_) (fun K hK => ?_)
        · skip
          refine goes_ Try.func34 (by kernel_rfl) rfl #[.int .i64 (wrap64 (i.w - x))] (by rfl) rfl rfl (by (try simp only [List.map_toArray, List.map_cons, List.map_nil]); first | done | rfl) ?_
          refine (KA.out _).mono ?_
          rintro e wn ⟨rfl, hb⟩
          refine ⟨_, rfl, ?_⟩
          obtain ⟨s0, s1, s2, s3⟩ := hHeld
          replace s0 := cell_held hb s0
          replace s1 := cell_held hb s1
          replace s2 := cell_held hb s2
          replace s3 := cell_held hb s3
          replace qB := below_step (w := W) qB hb
          replace B6 := Aside0.mk (blk_below B6.out hb)
          replace B10 := Aside0.mk (blk_below B10.out hb)
          replace B11 := Aside0.mk (blk_below B11.out hb)
          clear hb
          refine hK.out _ _ ⟨s0, s1, s2, s3⟩ (fun hHeld => ?_)
          clear hK K s0 s1 s2 s3
          refine norm_ (a' := ?_) ?_ ?_
          rotate_left
          · show Act.put _ (some 41) _ = _
            simp only [Act.put, List.setIfInBounds_toArray, List.set_cons_zero, List.set_cons_succ, i64_w, i32_w]
            rfl
          refine pure_ (i := 7) (N := some 42) (v := ?_) (a' := ?_) #[true, true, true, true, true, true, true, true, true, true, true, true, true, true, false, false, true, true, false, false, false] rfl rfl (any_of HT_.out (by kernel_rfl)) (fun _ _ _ h => h) (Or.inl ⟨by rfl, ?_⟩) ?_ ?_
          rotate_left
          · intro w'
            go_simp
            with_reducible rfl
          rotate_left
          · simp only [Act.put, List.setIfInBounds_toArray, List.set_cons_zero, List.set_cons_succ, i64_w, i32_w]
            rfl
          refine two_ (i := 14) (j := 19) (Ni := some 49) (Nj := some 14) #[true, true, true, true, true, true, true, true, true, true, true, true, true, true, true, false, true, true, false, false, false] #[true, true, true, true, true, true, true, true, true, true, true, true, true, true, false, false, true, true, false, true, false] rfl rfl rfl rfl (two_of HT_.out (by kernel_rfl)) (by decide) (by decide) (fun K hK => ?_) (fun K hK => ?_)
          · skip
            refine goes_ Try.func34 (by kernel_rfl) rfl #[.int .i64 (wrap64 (i.h - y))] (by rfl) rfl rfl (by (try simp only [List.map_toArray, List.map_cons, List.map_nil]); first | done | rfl) ?_
            refine (KB.out _).mono ?_
            rintro e wn ⟨rfl, hb⟩
            refine ⟨_, rfl, ?_⟩
            obtain ⟨s0, s1, s2, s3⟩ := hHeld
            replace s0 := cell_held hb s0
            replace s1 := cell_held hb s1
            replace s2 := cell_held hb s2
            replace s3 := cell_held hb s3
            replace qB := below_step (w := W) qB hb
            replace B6 := Aside0.mk (blk_below B6.out hb)
            replace B10 := Aside0.mk (blk_below B10.out hb)
            replace B11 := Aside0.mk (blk_below B11.out hb)
            clear hb
            refine hK.out _ _ ⟨s0, s1, s2, s3⟩ (fun hHeld => ?_)
            clear hK K s0 s1 s2 s3
            refine norm_ (a' := ?_) ?_ ?_
            rotate_left
            · show Act.put _ (some 49) _ = _
              simp only [Act.put, List.setIfInBounds_toArray, List.set_cons_zero, List.set_cons_succ, i64_w, i32_w]
              rfl
            refine pure_ (i := 15) (N := some 50) (v := ?_) (a' := ?_) #[true, true, true, true, true, true, true, true, true, true, true, true, true, true, true, true, true, true, false, false, false] rfl rfl (any_of HT_.out (by kernel_rfl)) (fun _ _ _ h => h) (Or.inl ⟨by rfl, ?_⟩) ?_ ?_
            rotate_left
            · intro w'
              go_simp
              with_reducible rfl
            rotate_left
            · simp only [Act.put, List.setIfInBounds_toArray, List.set_cons_zero, List.set_cons_succ, i64_w, i32_w]
              rfl
            refine two_ (i := 18) (j := 19) (Ni := some 53) (Nj := some 14) #[true, true, true, true, true, true, true, true, true, true, true, true, true, true, true, true, true, true, true, false, false] #[true, true, true, true, true, true, true, true, true, true, true, true, true, true, true, true, true, true, false, true, false] rfl rfl rfl rfl (two_of HT_.out (by kernel_rfl)) (by decide) (by decide) (fun K hK => ?_) (fun K hK => ?_)
            · skip
              refine goes_ Try.func33 (by kernel_rfl) rfl #[.int .i64 (wrap64 (i.x + mx)), .int .i64 (wrap64 (i.y + my)), .int .i64 x, .int .i64 y] (by rfl) rfl rfl (by (try simp only [List.map_toArray, List.map_cons, List.map_nil]); first | done | rfl) ?_
              refine (KL.out _).mono ?_
              rintro e wn ⟨rfl, hb⟩
              refine ⟨_, rfl, ?_⟩
              obtain ⟨s0, s1, s2, s3⟩ := hHeld
              replace s0 := cell_held hb s0
              replace s1 := cell_held hb s1
              replace s2 := cell_held hb s2
              replace s3 := cell_held hb s3
              replace qB := below_step (w := W) qB hb
              replace B6 := Aside0.mk (blk_below B6.out hb)
              replace B10 := Aside0.mk (blk_below B10.out hb)
              replace B11 := Aside0.mk (blk_below B11.out hb)
              clear hb
              refine hK.out _ _ ⟨s0, s1, s2, s3⟩ (fun hHeld => ?_)
              clear hK K s0 s1 s2 s3
              refine norm_ (a' := ?_) ?_ ?_
              rotate_left
              · show Act.put _ (some 53) _ = _
                simp only [Act.put, List.setIfInBounds_toArray, List.set_cons_zero, List.set_cons_succ, i64_w, i32_w]
                rfl
              refine one_ (i := 19) (N := some 14) #[true, true, true, true, true, true, true, true, true, true, true, true, true, true, true, true, true, true, true, true, false] rfl rfl (one_of HT_.out (by kernel_rfl)) (by decide) (fun K hK => ?_)
              refine box_step ?hg (N := 14) ?hd (cs := #[.int .i64 0, .int .i64 0, .int .i64 0, .int .i64 0]) (t := 23) ?hr ?_; (case hd => rfl); (case hg => rfl); (case hr => first | (go_simp; done) | (go_simp; rfl))
              intro g14 hg wn hbox hb
              have B14 := Aside0.mk hbox
              have hgt : g11 < g14 := by rw [hg]; exact blk_lt B11.out
              obtain ⟨s0, s1, s2, s3⟩ := hHeld
              replace s0 := cell_held hb s0
              replace s1 := cell_held hb s1
              replace s2 := cell_held hb s2
              replace s3 := cell_held hb s3
              replace qB := below_step (w := W) qB hb
              replace B6 := Aside0.mk (blk_below B6.out hb)
              replace B10 := Aside0.mk (blk_below B10.out hb)
              replace B11 := Aside0.mk (blk_below B11.out hb)
              clear hb
              clear hbox hg
              refine hK.out _ _ ⟨s0, s1, s2, s3⟩ (fun hHeld => ?_)
              clear hK K s0 s1 s2 s3
              refine norm_ (a' := ?_) ?_ ?_
              rotate_left
              · show Act.put _ (some 14) _ = _
                simp only [Act.put, List.setIfInBounds_toArray, List.set_cons_zero, List.set_cons_succ, i64_w, i32_w]
                rfl
              refine one_ (i := 20) (N := none) #[true, true, true, true, true, true, true, true, true, true, true, true, true, true, true, true, true, true, true, true, true] rfl rfl (one_of HT_.out (by kernel_rfl)) (by decide) (fun K hK => ?_)
              obtain ⟨s0, s1, s2, s3⟩ := hHeld
              have t0 : wn.cell? ⟨g14, 0, none⟩ = some (.int .i64 0) := (blk_cell B14.out 0).trans rfl
              have ft0 := blk_frozen B14.out 0
              have t1 : wn.cell? ⟨g14, 1, none⟩ = some (.int .i64 0) := (blk_cell B14.out 1).trans rfl
              have ft1 := blk_frozen B14.out 1
              have t2 : wn.cell? ⟨g14, 2, none⟩ = some (.int .i64 0) := (blk_cell B14.out 2).trans rfl
              have ft2 := blk_frozen B14.out 2
              have t3 : wn.cell? ⟨g14, 3, none⟩ = some (.int .i64 0) := (blk_cell B14.out 3).trans rfl
              have ft3 := blk_frozen B14.out 3
              refine skip_ (w1 := ?_) (by rfl) rfl ?_ ?_
              rotate_left
              · go_simp
                rfl
              refine hK.out _ _ ⟨put4_cell (g := g14) (by omega) s0 _ _ _ _, put4_cell (g := g14) (by omega) s1 _ _ _ _, put4_cell (g := g14) (by omega) s2 _ _ _ _, put4_cell (g := g14) (by omega) s3 _ _ _ _⟩ (fun hHeld => ?_)
              clear hK K
              refine done_ (done_of HT_.out (by kernel_rfl)) ?_
              go_wp2_with fail
              go_meet
              exact ⟨g14, rfl, ⟨put4 B14.out _ _ _ _⟩, ⟨put4_far B6.out (by omega) _ _ _ _⟩, ⟨put4_far B10.out (by omega) _ _ _ _⟩, ⟨by (repeat (refine below_set ?_ (by omega))); exact qB⟩⟩
            · skip
              refine box_step ?hg (N := 14) ?hd (cs := #[.int .i64 0, .int .i64 0, .int .i64 0, .int .i64 0]) (t := 23) ?hr ?_; (case hd => rfl); (case hg => rfl); (case hr => first | (go_simp; done) | (go_simp; rfl))
              intro g14 hg wn hbox hb
              have B14 := Aside0.mk hbox
              have hgt : g11 < g14 := by rw [hg]; exact blk_lt B11.out
              obtain ⟨s0, s1, s2, s3⟩ := hHeld
              replace s0 := cell_held hb s0
              replace s1 := cell_held hb s1
              replace s2 := cell_held hb s2
              replace s3 := cell_held hb s3
              replace qB := below_step (w := W) qB hb
              replace B6 := Aside0.mk (blk_below B6.out hb)
              replace B10 := Aside0.mk (blk_below B10.out hb)
              replace B11 := Aside0.mk (blk_below B11.out hb)
              clear hb
              clear hbox hg
              refine hK.out _ _ ⟨s0, s1, s2, s3⟩ (fun hHeld => ?_)
              clear hK K s0 s1 s2 s3
              refine norm_ (a' := ?_) ?_ ?_
              rotate_left
              · show Act.put _ (some 14) _ = _
                simp only [Act.put, List.setIfInBounds_toArray, List.set_cons_zero, List.set_cons_succ, i64_w, i32_w]
                rfl
              refine one_ (i := 18) (N := some 53) #[true, true, true, true, true, true, true, true, true, true, true, true, true, true, true, true, true, true, true, true, false] rfl rfl (one_of HT_.out (by kernel_rfl)) (by decide) (fun K hK => ?_)
              refine goes_ Try.func33 (by kernel_rfl) rfl #[.int .i64 (wrap64 (i.x + mx)), .int .i64 (wrap64 (i.y + my)), .int .i64 x, .int .i64 y] (by rfl) rfl rfl (by (try simp only [List.map_toArray, List.map_cons, List.map_nil]); first | done | rfl) ?_
              refine (KL.out _).mono ?_
              rintro e wn ⟨rfl, hb⟩
              refine ⟨_, rfl, ?_⟩
              obtain ⟨s0, s1, s2, s3⟩ := hHeld
              replace s0 := cell_held hb s0
              replace s1 := cell_held hb s1
              replace s2 := cell_held hb s2
              replace s3 := cell_held hb s3
              replace qB := below_step (w := W) qB hb
              replace B6 := Aside0.mk (blk_below B6.out hb)
              replace B10 := Aside0.mk (blk_below B10.out hb)
              replace B11 := Aside0.mk (blk_below B11.out hb)
              replace B14 := Aside0.mk (blk_below B14.out hb)
              clear hb
              refine hK.out _ _ ⟨s0, s1, s2, s3⟩ (fun hHeld => ?_)
              clear hK K s0 s1 s2 s3
              refine norm_ (a' := ?_) ?_ ?_
              rotate_left
              · show Act.put _ (some 53) _ = _
                simp only [Act.put, List.setIfInBounds_toArray, List.set_cons_zero, List.set_cons_succ, i64_w, i32_w]
                rfl
              refine one_ (i := 20) (N := none) #[true, true, true, true, true, true, true, true, true, true, true, true, true, true, true, true, true, true, true, true, true] rfl rfl (one_of HT_.out (by kernel_rfl)) (by decide) (fun K hK => ?_)
              obtain ⟨s0, s1, s2, s3⟩ := hHeld
              have t0 : wn.cell? ⟨g14, 0, none⟩ = some (.int .i64 0) := (blk_cell B14.out 0).trans rfl
              have ft0 := blk_frozen B14.out 0
              have t1 : wn.cell? ⟨g14, 1, none⟩ = some (.int .i64 0) := (blk_cell B14.out 1).trans rfl
              have ft1 := blk_frozen B14.out 1
              have t2 : wn.cell? ⟨g14, 2, none⟩ = some (.int .i64 0) := (blk_cell B14.out 2).trans rfl
              have ft2 := blk_frozen B14.out 2
              have t3 : wn.cell? ⟨g14, 3, none⟩ = some (.int .i64 0) := (blk_cell B14.out 3).trans rfl
              have ft3 := blk_frozen B14.out 3
              refine skip_ (w1 := ?_) (by rfl) rfl ?_ ?_
              rotate_left
              · go_simp
                rfl
              refine hK.out _ _ ⟨put4_cell (g := g14) (by omega) s0 _ _ _ _, put4_cell (g := g14) (by omega) s1 _ _ _ _, put4_cell (g := g14) (by omega) s2 _ _ _ _, put4_cell (g := g14) (by omega) s3 _ _ _ _⟩ (fun hHeld => ?_)
              clear hK K
              refine done_ (done_of HT_.out (by kernel_rfl)) ?_
              go_wp2_with fail
              go_meet
              exact ⟨g14, rfl, ⟨put4 B14.out _ _ _ _⟩, ⟨put4_far B6.out (by omega) _ _ _ _⟩, ⟨put4_far B10.out (by omega) _ _ _ _⟩, ⟨by (repeat (refine below_set ?_ (by omega))); exact qB⟩⟩
          · skip
            refine box_step ?hg (N := 14) ?hd (cs := #[.int .i64 0, .int .i64 0, .int .i64 0, .int .i64 0]) (t := 23) ?hr ?_; (case hd => rfl); (case hg => rfl); (case hr => first | (go_simp; done) | (go_simp; rfl))
            intro g14 hg wn hbox hb
            have B14 := Aside0.mk hbox
            have hgt : g11 < g14 := by rw [hg]; exact blk_lt B11.out
            obtain ⟨s0, s1, s2, s3⟩ := hHeld
            replace s0 := cell_held hb s0
            replace s1 := cell_held hb s1
            replace s2 := cell_held hb s2
            replace s3 := cell_held hb s3
            replace qB := below_step (w := W) qB hb
            replace B6 := Aside0.mk (blk_below B6.out hb)
            replace B10 := Aside0.mk (blk_below B10.out hb)
            replace B11 := Aside0.mk (blk_below B11.out hb)
            clear hb
            clear hbox hg
            refine hK.out _ _ ⟨s0, s1, s2, s3⟩ (fun hHeld => ?_)
            clear hK K s0 s1 s2 s3
            refine norm_ (a' := ?_) ?_ ?_
            rotate_left
            · show Act.put _ (some 14) _ = _
              simp only [Act.put, List.setIfInBounds_toArray, List.set_cons_zero, List.set_cons_succ, i64_w, i32_w]
              rfl
            refine one_ (i := 14) (N := some 49) #[true, true, true, true, true, true, true, true, true, true, true, true, true, true, true, false, true, true, false, true, false] rfl rfl (one_of HT_.out (by kernel_rfl)) (by decide) (fun K hK => ?_)
            refine goes_ Try.func34 (by kernel_rfl) rfl #[.int .i64 (wrap64 (i.h - y))] (by rfl) rfl rfl (by (try simp only [List.map_toArray, List.map_cons, List.map_nil]); first | done | rfl) ?_
            refine (KB.out _).mono ?_
            rintro e wn ⟨rfl, hb⟩
            refine ⟨_, rfl, ?_⟩
            obtain ⟨s0, s1, s2, s3⟩ := hHeld
            replace s0 := cell_held hb s0
            replace s1 := cell_held hb s1
            replace s2 := cell_held hb s2
            replace s3 := cell_held hb s3
            replace qB := below_step (w := W) qB hb
            replace B6 := Aside0.mk (blk_below B6.out hb)
            replace B10 := Aside0.mk (blk_below B10.out hb)
            replace B11 := Aside0.mk (blk_below B11.out hb)
            replace B14 := Aside0.mk (blk_below B14.out hb)
            clear hb
            refine hK.out _ _ ⟨s0, s1, s2, s3⟩ (fun hHeld => ?_)
            clear hK K s0 s1 s2 s3
            refine norm_ (a' := ?_) ?_ ?_
            rotate_left
            · show Act.put _ (some 49) _ = _
              simp only [Act.put, List.setIfInBounds_toArray, List.set_cons_zero, List.set_cons_succ, i64_w, i32_w]
              rfl
            refine pure_ (i := 15) (N := some 50) (v := ?_) (a' := ?_) #[true, true, true, true, true, true, true, true, true, true, true, true, true, true, true, true, true, true, false, true, false] rfl rfl (any_of HT_.out (by kernel_rfl)) (fun _ _ _ h => h) (Or.inl ⟨by rfl, ?_⟩) ?_ ?_
            rotate_left
            · intro w'
              go_simp
              with_reducible rfl
            rotate_left
            · simp only [Act.put, List.setIfInBounds_toArray, List.set_cons_zero, List.set_cons_succ, i64_w, i32_w]
              rfl
            refine one_ (i := 18) (N := some 53) #[true, true, true, true, true, true, true, true, true, true, true, true, true, true, true, true, true, true, true, true, false] rfl rfl (one_of HT_.out (by kernel_rfl)) (by decide) (fun K hK => ?_)
            refine goes_ Try.func33 (by kernel_rfl) rfl #[.int .i64 (wrap64 (i.x + mx)), .int .i64 (wrap64 (i.y + my)), .int .i64 x, .int .i64 y] (by rfl) rfl rfl (by (try simp only [List.map_toArray, List.map_cons, List.map_nil]); first | done | rfl) ?_
            refine (KL.out _).mono ?_
            rintro e wn ⟨rfl, hb⟩
            refine ⟨_, rfl, ?_⟩
            obtain ⟨s0, s1, s2, s3⟩ := hHeld
            replace s0 := cell_held hb s0
            replace s1 := cell_held hb s1
            replace s2 := cell_held hb s2
            replace s3 := cell_held hb s3
            replace qB := below_step (w := W) qB hb
            replace B6 := Aside0.mk (blk_below B6.out hb)
            replace B10 := Aside0.mk (blk_below B10.out hb)
            replace B11 := Aside0.mk (blk_below B11.out hb)
            replace B14 := Aside0.mk (blk_below B14.out hb)
            clear hb
            refine hK.out _ _ ⟨s0, s1, s2, s3⟩ (fun hHeld => ?_)
            clear hK K s0 s1 s2 s3
            refine norm_ (a' := ?_) ?_ ?_
            rotate_left
            · show Act.put _ (some 53) _ = _
              simp only [Act.put, List.setIfInBounds_toArray, List.set_cons_zero, List.set_cons_succ, i64_w, i32_w]
              rfl
            refine one_ (i := 20) (N := none) #[true, true, true, true, true, true, true, true, true, true, true, true, true, true, true, true, true, true, true, true, true] rfl rfl (one_of HT_.out (by kernel_rfl)) (by decide) (fun K hK => ?_)
            obtain ⟨s0, s1, s2, s3⟩ := hHeld
            have t0 : wn.cell? ⟨g14, 0, none⟩ = some (.int .i64 0) := (blk_cell B14.out 0).trans rfl
            have ft0 := blk_frozen B14.out 0
            have t1 : wn.cell? ⟨g14, 1, none⟩ = some (.int .i64 0) := (blk_cell B14.out 1).trans rfl
            have ft1 := blk_frozen B14.out 1
            have t2 : wn.cell? ⟨g14, 2, none⟩ = some (.int .i64 0) := (blk_cell B14.out 2).trans rfl
            have ft2 := blk_frozen B14.out 2
            have t3 : wn.cell? ⟨g14, 3, none⟩ = some (.int .i64 0) := (blk_cell B14.out 3).trans rfl
            have ft3 := blk_frozen B14.out 3
            refine skip_ (w1 := ?_) (by rfl) rfl ?_ ?_
            rotate_left
            · go_simp
              rfl
            refine hK.out _ _ ⟨put4_cell (g := g14) (by omega) s0 _ _ _ _, put4_cell (g := g14) (by omega) s1 _ _ _ _, put4_cell (g := g14) (by omega) s2 _ _ _ _, put4_cell (g := g14) (by omega) s3 _ _ _ _⟩ (fun hHeld => ?_)
            clear hK K
            refine done_ (done_of HT_.out (by kernel_rfl)) ?_
            go_wp2_with fail
            go_meet
            exact ⟨g14, rfl, ⟨put4 B14.out _ _ _ _⟩, ⟨put4_far B6.out (by omega) _ _ _ _⟩, ⟨put4_far B10.out (by omega) _ _ _ _⟩, ⟨by (repeat (refine below_set ?_ (by omega))); exact qB⟩⟩
        · skip
          refine box_step ?hg (N := 14) ?hd (cs := #[.int .i64 0, .int .i64 0, .int .i64 0, .int .i64 0]) (t := 23) ?hr ?_; (case hd => rfl); (case hg => rfl); (case hr => first | (go_simp; done) | (go_simp; rfl))
          intro g14 hg wn hbox hb
          have B14 := Aside0.mk hbox
          have hgt : g11 < g14 := by rw [hg]; exact blk_lt B11.out
          obtain ⟨s0, s1, s2, s3⟩ := hHeld
          replace s0 := cell_held hb s0
          replace s1 := cell_held hb s1
          replace s2 := cell_held hb s2
          replace s3 := cell_held hb s3
          replace qB := below_step (w := W) qB hb
          replace B6 := Aside0.mk (blk_below B6.out hb)
          replace B10 := Aside0.mk (blk_below B10.out hb)
          replace B11 := Aside0.mk (blk_below B11.out hb)
          clear hb
          clear hbox hg
          refine hK.out _ _ ⟨s0, s1, s2, s3⟩ (fun hHeld => ?_)
          clear hK K s0 s1 s2 s3
          refine norm_ (a' := ?_) ?_ ?_
          rotate_left
          · show Act.put _ (some 14) _ = _
            simp only [Act.put, List.setIfInBounds_toArray, List.set_cons_zero, List.set_cons_succ, i64_w, i32_w]
            rfl
          refine one_ (i := 6) (N := some 41) #[true, true, true, true, true, true, true, false, true, true, true, true, true, true, false, false, true, true, false, true, false] rfl rfl (one_of HT_.out (by kernel_rfl)) (by decide) (fun K hK => ?_)
          refine goes_ Try.func34 (by kernel_rfl) rfl #[.int .i64 (wrap64 (i.w - x))] (by rfl) rfl rfl (by (try simp only [List.map_toArray, List.map_cons, List.map_nil]); first | done | rfl) ?_
          refine (KA.out _).mono ?_
          rintro e wn ⟨rfl, hb⟩
          refine ⟨_, rfl, ?_⟩
          obtain ⟨s0, s1, s2, s3⟩ := hHeld
          replace s0 := cell_held hb s0
          replace s1 := cell_held hb s1
          replace s2 := cell_held hb s2
          replace s3 := cell_held hb s3
          replace qB := below_step (w := W) qB hb
          replace B6 := Aside0.mk (blk_below B6.out hb)
          replace B10 := Aside0.mk (blk_below B10.out hb)
          replace B11 := Aside0.mk (blk_below B11.out hb)
          replace B14 := Aside0.mk (blk_below B14.out hb)
          clear hb
          refine hK.out _ _ ⟨s0, s1, s2, s3⟩ (fun hHeld => ?_)
          clear hK K s0 s1 s2 s3
          refine norm_ (a' := ?_) ?_ ?_
          rotate_left
          · show Act.put _ (some 41) _ = _
            simp only [Act.put, List.setIfInBounds_toArray, List.set_cons_zero, List.set_cons_succ, i64_w, i32_w]
            rfl
          refine pure_ (i := 7) (N := some 42) (v := ?_) (a' := ?_) #[true, true, true, true, true, true, true, true, true, true, true, true, true, true, false, false, true, true, false, true, false] rfl rfl (any_of HT_.out (by kernel_rfl)) (fun _ _ _ h => h) (Or.inl ⟨by rfl, ?_⟩) ?_ ?_
          rotate_left
          · intro w'
            go_simp
            with_reducible rfl
          rotate_left
          · simp only [Act.put, List.setIfInBounds_toArray, List.set_cons_zero, List.set_cons_succ, i64_w, i32_w]
            rfl
          refine one_ (i := 14) (N := some 49) #[true, true, true, true, true, true, true, true, true, true, true, true, true, true, true, false, true, true, false, true, false] rfl rfl (one_of HT_.out (by kernel_rfl)) (by decide) (fun K hK => ?_)
          refine goes_ Try.func34 (by kernel_rfl) rfl #[.int .i64 (wrap64 (i.h - y))] (by rfl) rfl rfl (by (try simp only [List.map_toArray, List.map_cons, List.map_nil]); first | done | rfl) ?_
          refine (KB.out _).mono ?_
          rintro e wn ⟨rfl, hb⟩
          refine ⟨_, rfl, ?_⟩
          obtain ⟨s0, s1, s2, s3⟩ := hHeld
          replace s0 := cell_held hb s0
          replace s1 := cell_held hb s1
          replace s2 := cell_held hb s2
          replace s3 := cell_held hb s3
          replace qB := below_step (w := W) qB hb
          replace B6 := Aside0.mk (blk_below B6.out hb)
          replace B10 := Aside0.mk (blk_below B10.out hb)
          replace B11 := Aside0.mk (blk_below B11.out hb)
          replace B14 := Aside0.mk (blk_below B14.out hb)
          clear hb
          refine hK.out _ _ ⟨s0, s1, s2, s3⟩ (fun hHeld => ?_)
          clear hK K s0 s1 s2 s3
          refine norm_ (a' := ?_) ?_ ?_
          rotate_left
          · show Act.put _ (some 49) _ = _
            simp only [Act.put, List.setIfInBounds_toArray, List.set_cons_zero, List.set_cons_succ, i64_w, i32_w]
            rfl
          refine pure_ (i := 15) (N := some 50) (v := ?_) (a' := ?_) #[true, true, true, true, true, true, true, true, true, true, true, true, true, true, true, true, true, true, false, true, false] rfl rfl (any_of HT_.out (by kernel_rfl)) (fun _ _ _ h => h) (Or.inl ⟨by rfl, ?_⟩) ?_ ?_
          rotate_left
          · intro w'
            go_simp
            with_reducible rfl
          rotate_left
          · simp only [Act.put, List.setIfInBounds_toArray, List.set_cons_zero, List.set_cons_succ, i64_w, i32_w]
            rfl
          refine one_ (i := 18) (N := some 53) #[true, true, true, true, true, true, true, true, true, true, true, true, true, true, true, true, true, true, true, true, false] rfl rfl (one_of HT_.out (by kernel_rfl)) (by decide) (fun K hK => ?_)
          refine goes_ Try.func33 (by kernel_rfl) rfl #[.int .i64 (wrap64 (i.x + mx)), .int .i64 (wrap64 (i.y + my)), .int .i64 x, .int .i64 y] (by rfl) rfl rfl (by (try simp only [List.map_toArray, List.map_cons, List.map_nil]); first | done | rfl) ?_
          refine (KL.out _).mono ?_
          rintro e wn ⟨rfl, hb⟩
          refine ⟨_, rfl, ?_⟩
          obtain ⟨s0, s1, s2, s3⟩ := hHeld
          replace s0 := cell_held hb s0
          replace s1 := cell_held hb s1
          replace s2 := cell_held hb s2
          replace s3 := cell_held hb s3
          replace qB := below_step (w := W) qB hb
          replace B6 := Aside0.mk (blk_below B6.out hb)
          replace B10 := Aside0.mk (blk_below B10.out hb)
          replace B11 := Aside0.mk (blk_below B11.out hb)
          replace B14 := Aside0.mk (blk_below B14.out hb)
          clear hb
          refine hK.out _ _ ⟨s0, s1, s2, s3⟩ (fun hHeld => ?_)
          clear hK K s0 s1 s2 s3
          refine norm_ (a' := ?_) ?_ ?_
          rotate_left
          · show Act.put _ (some 53) _ = _
            simp only [Act.put, List.setIfInBounds_toArray, List.set_cons_zero, List.set_cons_succ, i64_w, i32_w]
            rfl
          refine one_ (i := 20) (N := none) #[true, true, true, true, true, true, true, true, true, true, true, true, true, true, true, true, true, true, true, true, true] rfl rfl (one_of HT_.out (by kernel_rfl)) (by decide) (fun K hK => ?_)
          obtain ⟨s0, s1, s2, s3⟩ := hHeld
          have t0 : wn.cell? ⟨g14, 0, none⟩ = some (.int .i64 0) := (blk_cell B14.out 0).trans rfl
          have ft0 := blk_frozen B14.out 0
          have t1 : wn.cell? ⟨g14, 1, none⟩ = some (.int .i64 0) := (blk_cell B14.out 1).trans rfl
          have ft1 := blk_frozen B14.out 1
          have t2 : wn.cell? ⟨g14, 2, none⟩ = some (.int .i64 0) := (blk_cell B14.out 2).trans rfl
          have ft2 := blk_frozen B14.out 2
          have t3 : wn.cell? ⟨g14, 3, none⟩ = some (.int .i64 0) := (blk_cell B14.out 3).trans rfl
          have ft3 := blk_frozen B14.out 3
          refine skip_ (w1 := ?_) (by rfl) rfl ?_ ?_
          rotate_left
          · go_simp
            rfl
          refine hK.out _ _ ⟨put4_cell (g := g14) (by omega) s0 _ _ _ _, put4_cell (g := g14) (by omega) s1 _ _ _ _, put4_cell (g := g14) (by omega) s2 _ _ _ _, put4_cell (g := g14) (by omega) s3 _ _ _ _⟩ (fun hHeld => ?_)
          clear hK K
          refine done_ (done_of HT_.out (by kernel_rfl)) ?_
          go_wp2_with fail
          go_meet
          exact ⟨g14, rfl, ⟨put4 B14.out _ _ _ _⟩, ⟨put4_far B6.out (by omega) _ _ _ _⟩, ⟨put4_far B10.out (by omega) _ _ _ _⟩, ⟨by (repeat (refine below_set ?_ (by omega))); exact qB⟩⟩
      case rest =>
        clear B6 B10 B11 qB
        obtain ⟨g14, rfl, B14, B6, B10, HB⟩ := hcut
        have p0 : wc.cell? ⟨g14, 0, none⟩ = some (.int .i64 (L.x)) := (blk_cell B14.out 0).trans rfl
        have p1 : wc.cell? ⟨g14, 1, none⟩ = some (.int .i64 (L.y)) := (blk_cell B14.out 1).trans rfl
        have p2 : wc.cell? ⟨g14, 2, none⟩ = some (.int .i64 (L.w)) := (blk_cell B14.out 2).trans rfl
        have p3 : wc.cell? ⟨g14, 3, none⟩ = some (.int .i64 (L.h)) := (blk_cell B14.out 3).trans rfl
        have k0 : wc.cell? ⟨W.heap.size + 1, 0, none⟩ = some (.int .i64 (n.x)) := (blk_cell B6.out 0).trans rfl
        have k1 : wc.cell? ⟨W.heap.size + 1, 1, none⟩ = some (.int .i64 (n.y)) := (blk_cell B6.out 1).trans rfl
        have k2 : wc.cell? ⟨W.heap.size + 1, 2, none⟩ = some (.int .i64 (n.w)) := (blk_cell B6.out 2).trans rfl
        have k3 : wc.cell? ⟨W.heap.size + 1, 3, none⟩ = some (.int .i64 (n.h)) := (blk_cell B6.out 3).trans rfl
        go_wp2_with fail
        refine (KK.out _).mono ?_
        rintro e w9 ⟨rfl, hb⟩
        clear p0 p1 p2 p3 k0 k1 k2 k3
        replace B10 := Aside0.mk (blk_below B10.out hb)
        replace HB := Aside0.mk (below_step (w := W) HB.out hb)
        clear hb
        have q0 : w9.cell? ⟨W.heap.size + 1 + 1 + 1, 0, none⟩ = some (.int .i64 (0)) := (blk_cell B10.out 0).trans rfl
        have fq0 := blk_frozen B10.out 0
        have q1 : w9.cell? ⟨W.heap.size + 1 + 1 + 1, 1, none⟩ = some (.int .i64 (0)) := (blk_cell B10.out 1).trans rfl
        have fq1 := blk_frozen B10.out 1
        have q2 : w9.cell? ⟨W.heap.size + 1 + 1 + 1, 2, none⟩ = some (.int .i64 (0)) := (blk_cell B10.out 2).trans rfl
        have fq2 := blk_frozen B10.out 2
        have q3 : w9.cell? ⟨W.heap.size + 1 + 1 + 1, 3, none⟩ = some (.int .i64 (0)) := (blk_cell B10.out 3).trans rfl
        have fq3 := blk_frozen B10.out 3
        go_wp2
        exact bodyPost_ret (v := .agg #[.int .i64 R.x, .int .i64 R.y, .int .i64 R.w, .int .i64 R.h]) (by simp [results, Try.results10, go_sem, q0, fq0, q1, fq1, q2, fq2, q3, fq3]) rfl ⟨rfl, by (repeat (refine below_set ?_ (by omega))); exact HB.out⟩
def FlTl.T1 : Bool × List (List Nat × List Nat) := (true, [([], []), ([], []), ([], []), ([], []), ([], []), ([0, 1, 2, 3, 4], [0, 1, 2, 3, 4]), ([], []), ([], []), ([], []), ([], []), ([], []), ([6, 7, 8, 9, 10, 5], [6, 7, 8, 9, 10]), ([5, 11], [5, 11]), ([12, 11], [12]), ([13, 13], [13]), ([13, 14], [13, 14]), ([15, 14, 0, 1, 2, 3, 4, 5, 6, 7, 8, 9, 10, 11, 12, 13, 14, 15], [15])])
def FlTl.B1 : List Nat := [0, 0, 0, 0, 0, 31, 0, 0, 0, 0, 0, 2047, 4095, 8191, 16383, 32767, 65535]
theorem FlTl.tab1 : rtab .any (opsOf Try.f3 1) = FlTl.T1 := by kernel_rfl
theorem FlTl.bits1 : waitsOk FlTl.T1.2 FlTl.B1 = true := by kernel_rfl
set_option maxHeartbeats 8000000 in
set_option maxRecDepth 100000 in
theorem starts_any (o k : Rc) (h : Hn) (w t : Int) (W : World) : Calls Try.prog 3 #[.agg #[.int .i64 o.x, .int .i64 o.y, .int .i64 o.w, .int .i64 o.h], .agg #[.int .i64 k.x, .int .i64 k.y, .int .i64 k.w, .int .i64 k.h], .agg #[.int .i64 h.minW, .int .i64 h.minH, .int .i64 h.maxW, .int .i64 h.maxH, .int .i64 h.baseW, .int .i64 h.baseH, .int .i64 h.incW, .int .i64 h.incH, .int .i64 h.lowX, .int .i64 h.lowY, .int .i64 h.highX, .int .i64 h.highY], .int .i64 w, .int .i64 t] W fun e w' => e = .returned (.bool true) ∧ Below W.heap.size W w' := by
  have K1 := c_start o k h w t
  have K2 := c_rstart o k h w t
  obtain ⟨L, hL⟩ : ∃ L, L = startP o k h w t := ⟨_, rfl⟩
  rw [← hL] at K1 K2
  replace K1 := Aside0.mk K1; replace K2 := Aside0.mk K2
  clear hL
  go_enter Try.func3, Try.ntmps3
  go_wp2_with fail
  have qB := below_alloc (below_alloc (below_alloc (Below.refl W.heap.size W) (.cells #[.int .i64 o.x, .int .i64 o.y, .int .i64 o.w, .int .i64 o.h] 23 (0, 0))) (.cells #[.int .i64 k.x, .int .i64 k.y, .int .i64 k.w, .int .i64 k.h] 23 (0, 0))) (.cells #[.int .i64 h.minW, .int .i64 h.minH, .int .i64 h.maxW, .int .i64 h.maxH, .int .i64 h.baseW, .int .i64 h.baseH, .int .i64 h.incW, .int .i64 h.incH, .int .i64 h.lowX, .int .i64 h.lowY, .int .i64 h.highX, .int .i64 h.highY] 25 (0, 0))
  have B4 := Aside0.mk (show (((W.alloc (.cells #[.int .i64 o.x, .int .i64 o.y, .int .i64 o.w, .int .i64 o.h] 23 (0, 0))).alloc (.cells #[.int .i64 k.x, .int .i64 k.y, .int .i64 k.w, .int .i64 k.h] 23 (0, 0))).alloc (.cells #[.int .i64 h.minW, .int .i64 h.minH, .int .i64 h.maxW, .int .i64 h.maxH, .int .i64 h.baseW, .int .i64 h.baseH, .int .i64 h.incW, .int .i64 h.incH, .int .i64 h.lowX, .int .i64 h.lowY, .int .i64 h.highX, .int .i64 h.highY] 25 (0, 0))).heap[W.heap.size]? = some (.cells #[.int .i64 o.x, .int .i64 o.y, .int .i64 o.w, .int .i64 o.h] 23 (0, 0)) from (by (repeat (first | exact new_at (by simp only [World.size_alloc, World.size_drew]; done) | refine blk_drew ?_ | refine blk_alloc ?_ _))))
  have B5 := Aside0.mk (show (((W.alloc (.cells #[.int .i64 o.x, .int .i64 o.y, .int .i64 o.w, .int .i64 o.h] 23 (0, 0))).alloc (.cells #[.int .i64 k.x, .int .i64 k.y, .int .i64 k.w, .int .i64 k.h] 23 (0, 0))).alloc (.cells #[.int .i64 h.minW, .int .i64 h.minH, .int .i64 h.maxW, .int .i64 h.maxH, .int .i64 h.baseW, .int .i64 h.baseH, .int .i64 h.incW, .int .i64 h.incH, .int .i64 h.lowX, .int .i64 h.lowY, .int .i64 h.highX, .int .i64 h.highY] 25 (0, 0))).heap[W.heap.size + 1]? = some (.cells #[.int .i64 k.x, .int .i64 k.y, .int .i64 k.w, .int .i64 k.h] 23 (0, 0)) from (by (repeat (first | exact new_at (by simp only [World.size_alloc, World.size_drew]; done) | refine blk_drew ?_ | refine blk_alloc ?_ _))))
  have B6 := Aside0.mk (show (((W.alloc (.cells #[.int .i64 o.x, .int .i64 o.y, .int .i64 o.w, .int .i64 o.h] 23 (0, 0))).alloc (.cells #[.int .i64 k.x, .int .i64 k.y, .int .i64 k.w, .int .i64 k.h] 23 (0, 0))).alloc (.cells #[.int .i64 h.minW, .int .i64 h.minH, .int .i64 h.maxW, .int .i64 h.maxH, .int .i64 h.baseW, .int .i64 h.baseH, .int .i64 h.incW, .int .i64 h.incH, .int .i64 h.lowX, .int .i64 h.lowY, .int .i64 h.highX, .int .i64 h.highY] 25 (0, 0))).heap[W.heap.size + 1 + 1]? = some (.cells #[.int .i64 h.minW, .int .i64 h.minH, .int .i64 h.maxW, .int .i64 h.maxH, .int .i64 h.baseW, .int .i64 h.baseH, .int .i64 h.incW, .int .i64 h.incH, .int .i64 h.lowX, .int .i64 h.lowY, .int .i64 h.highX, .int .i64 h.highY] 25 (0, 0)) from (by (repeat (first | exact new_at (by simp only [World.size_alloc, World.size_drew]; done) | refine blk_drew ?_ | refine blk_alloc ?_ _))))
  generalize hw2 : ((W.alloc (.cells #[.int .i64 o.x, .int .i64 o.y, .int .i64 o.w, .int .i64 o.h] 23 (0, 0))).alloc (.cells #[.int .i64 k.x, .int .i64 k.y, .int .i64 k.w, .int .i64 k.h] 23 (0, 0))).alloc (.cells #[.int .i64 h.minW, .int .i64 h.minH, .int .i64 h.maxW, .int .i64 h.maxH, .int .i64 h.baseW, .int .i64 h.baseH, .int .i64 h.incW, .int .i64 h.incH, .int .i64 h.lowX, .int .i64 h.lowY, .int .i64 h.highX, .int .i64 h.highY] 25 (0, 0)) = w2 at qB B4 B5 B6 ⊢
  have p0 : w2.cell? ⟨W.heap.size, 0, none⟩ = some (.int .i64 (o.x)) := (blk_cell B4.out 0).trans rfl
  have p1 : w2.cell? ⟨W.heap.size, 1, none⟩ = some (.int .i64 (o.y)) := (blk_cell B4.out 1).trans rfl
  have p2 : w2.cell? ⟨W.heap.size, 2, none⟩ = some (.int .i64 (o.w)) := (blk_cell B4.out 2).trans rfl
  have p3 : w2.cell? ⟨W.heap.size, 3, none⟩ = some (.int .i64 (o.h)) := (blk_cell B4.out 3).trans rfl
  have k0 : w2.cell? ⟨W.heap.size + 1, 0, none⟩ = some (.int .i64 (k.x)) := (blk_cell B5.out 0).trans rfl
  have k1 : w2.cell? ⟨W.heap.size + 1, 1, none⟩ = some (.int .i64 (k.y)) := (blk_cell B5.out 1).trans rfl
  have k2 : w2.cell? ⟨W.heap.size + 1, 2, none⟩ = some (.int .i64 (k.w)) := (blk_cell B5.out 2).trans rfl
  have k3 : w2.cell? ⟨W.heap.size + 1, 3, none⟩ = some (.int .i64 (k.h)) := (blk_cell B5.out 3).trans rfl
  have u0 : w2.cell? ⟨W.heap.size + 1 + 1, 0, none⟩ = some (.int .i64 (h.minW)) := (blk_cell B6.out 0).trans rfl
  have u1 : w2.cell? ⟨W.heap.size + 1 + 1, 1, none⟩ = some (.int .i64 (h.minH)) := (blk_cell B6.out 1).trans rfl
  have u2 : w2.cell? ⟨W.heap.size + 1 + 1, 2, none⟩ = some (.int .i64 (h.maxW)) := (blk_cell B6.out 2).trans rfl
  have u3 : w2.cell? ⟨W.heap.size + 1 + 1, 3, none⟩ = some (.int .i64 (h.maxH)) := (blk_cell B6.out 3).trans rfl
  have u4 : w2.cell? ⟨W.heap.size + 1 + 1, 4, none⟩ = some (.int .i64 (h.baseW)) := (blk_cell B6.out 4).trans rfl
  have u5 : w2.cell? ⟨W.heap.size + 1 + 1, 5, none⟩ = some (.int .i64 (h.baseH)) := (blk_cell B6.out 5).trans rfl
  have u6 : w2.cell? ⟨W.heap.size + 1 + 1, 6, none⟩ = some (.int .i64 (h.incW)) := (blk_cell B6.out 6).trans rfl
  have u7 : w2.cell? ⟨W.heap.size + 1 + 1, 7, none⟩ = some (.int .i64 (h.incH)) := (blk_cell B6.out 7).trans rfl
  have u8 : w2.cell? ⟨W.heap.size + 1 + 1, 8, none⟩ = some (.int .i64 (h.lowX)) := (blk_cell B6.out 8).trans rfl
  have u9 : w2.cell? ⟨W.heap.size + 1 + 1, 9, none⟩ = some (.int .i64 (h.lowY)) := (blk_cell B6.out 9).trans rfl
  have u10 : w2.cell? ⟨W.heap.size + 1 + 1, 10, none⟩ = some (.int .i64 (h.highX)) := (blk_cell B6.out 10).trans rfl
  have u11 : w2.cell? ⟨W.heap.size + 1 + 1, 11, none⟩ = some (.int .i64 (h.highY)) := (blk_cell B6.out 11).trans rfl
  clear B4 B5 B6 hw2
  refine start_ (n := 17) (S := fun w' => w'.cell? ⟨W.heap.size, 0, none⟩ = some (.int .i64 o.x) ∧ w'.cell? ⟨W.heap.size, 1, none⟩ = some (.int .i64 o.y) ∧ w'.cell? ⟨W.heap.size, 2, none⟩ = some (.int .i64 o.w) ∧ w'.cell? ⟨W.heap.size, 3, none⟩ = some (.int .i64 o.h) ∧ w'.cell? ⟨W.heap.size + 1, 0, none⟩ = some (.int .i64 k.x) ∧ w'.cell? ⟨W.heap.size + 1, 1, none⟩ = some (.int .i64 k.y) ∧ w'.cell? ⟨W.heap.size + 1, 2, none⟩ = some (.int .i64 k.w) ∧ w'.cell? ⟨W.heap.size + 1, 3, none⟩ = some (.int .i64 k.h) ∧ w'.cell? ⟨W.heap.size + 1 + 1, 0, none⟩ = some (.int .i64 h.minW) ∧ w'.cell? ⟨W.heap.size + 1 + 1, 1, none⟩ = some (.int .i64 h.minH) ∧ w'.cell? ⟨W.heap.size + 1 + 1, 2, none⟩ = some (.int .i64 h.maxW) ∧ w'.cell? ⟨W.heap.size + 1 + 1, 3, none⟩ = some (.int .i64 h.maxH) ∧ w'.cell? ⟨W.heap.size + 1 + 1, 4, none⟩ = some (.int .i64 h.baseW) ∧ w'.cell? ⟨W.heap.size + 1 + 1, 5, none⟩ = some (.int .i64 h.baseH) ∧ w'.cell? ⟨W.heap.size + 1 + 1, 6, none⟩ = some (.int .i64 h.incW) ∧ w'.cell? ⟨W.heap.size + 1 + 1, 7, none⟩ = some (.int .i64 h.incH) ∧ w'.cell? ⟨W.heap.size + 1 + 1, 8, none⟩ = some (.int .i64 h.lowX) ∧ w'.cell? ⟨W.heap.size + 1 + 1, 9, none⟩ = some (.int .i64 h.lowY) ∧ w'.cell? ⟨W.heap.size + 1 + 1, 10, none⟩ = some (.int .i64 h.highX) ∧ w'.cell? ⟨W.heap.size + 1 + 1, 11, none⟩ = some (.int .i64 h.highY)) (ds := []) #[false, false, false, false, false, false, false, false, false, false, false, false, false, false, false, false, false] (by kernel_rfl) rfl rfl ⟨p0, p1, p2, p3, k0, k1, k2, k3, u0, u1, u2, u3, u4, u5, u6, u7, u8, u9, u10, u11⟩ (fun hHeld => ?_)
  refine with_tabW FlTl.tab1 FlTl.bits1 (fun HT_ HW_ => ?_)
  have qB0 := below_drew qB
  clear qB
  have qB := qB0
  clear qB0
  generalize w2.drew = wr at qB hHeld ⊢
  refine take_ (i := 0) (N := some 11) (v := ?_) (a' := ?_) #[true, false, false, false, false, false, false, false, false, false, false, false, false, false, false, false, false] rfl rfl (take_ofW HT_.out HW_.out (by kernel_rfl)) (fun _ _ _ h => h) (Or.inl ⟨by rfl, ?_⟩) hHeld ?_ ?_
  rotate_left
  · rintro w' ⟨s0, s1, s2, s3, s4, s5, s6, s7, s8, s9, s10, s11, s12, s13, s14, s15, s16, s17, s18, s19⟩
    go_simp
    with_reducible rfl
  rotate_left
  · simp only [Act.put, List.setIfInBounds_toArray, List.set_cons_zero, List.set_cons_succ, i64_w, i32_w]
    rfl
  refine take_ (i := 1) (N := some 12) (v := ?_) (a' := ?_) #[true, true, false, false, false, false, false, false, false, false, false, false, false, false, false, false, false] rfl rfl (take_ofW HT_.out HW_.out (by kernel_rfl)) (fun _ _ _ h => h) (Or.inl ⟨by rfl, ?_⟩) hHeld ?_ ?_
  rotate_left
  · rintro w' ⟨s0, s1, s2, s3, s4, s5, s6, s7, s8, s9, s10, s11, s12, s13, s14, s15, s16, s17, s18, s19⟩
    go_simp
    with_reducible rfl
  rotate_left
  · simp only [Act.put, List.setIfInBounds_toArray, List.set_cons_zero, List.set_cons_succ, i64_w, i32_w]
    rfl
  refine take_ (i := 2) (N := some 13) (v := ?_) (a' := ?_) #[true, true, true, false, false, false, false, false, false, false, false, false, false, false, false, false, false] rfl rfl (take_ofW HT_.out HW_.out (by kernel_rfl)) (fun _ _ _ h => h) (Or.inl ⟨by rfl, ?_⟩) hHeld ?_ ?_
  rotate_left
  · rintro w' ⟨s0, s1, s2, s3, s4, s5, s6, s7, s8, s9, s10, s11, s12, s13, s14, s15, s16, s17, s18, s19⟩
    go_simp
    with_reducible rfl
  rotate_left
  · simp only [Act.put, List.setIfInBounds_toArray, List.set_cons_zero, List.set_cons_succ, i64_w, i32_w]
    rfl
  refine pure_ (i := 3) (N := some 14) (v := ?_) (a' := ?_) #[true, true, true, true, false, false, false, false, false, false, false, false, false, false, false, false, false] rfl rfl (any_of HT_.out (by kernel_rfl)) (fun _ _ _ h => h) (Or.inl ⟨by rfl, ?_⟩) ?_ ?_
  rotate_left
  · intro w'
    go_simp
    with_reducible rfl
  rotate_left
  · simp only [Act.put, List.setIfInBounds_toArray, List.set_cons_zero, List.set_cons_succ, i64_w, i32_w]
    rfl
  refine pure_ (i := 4) (N := some 15) (v := ?_) (a' := ?_) #[true, true, true, true, true, false, false, false, false, false, false, false, false, false, false, false, false] rfl rfl (any_of HT_.out (by kernel_rfl)) (fun _ _ _ h => h) (Or.inl ⟨by rfl, ?_⟩) ?_ ?_
  rotate_left
  · intro w'
    go_simp
    with_reducible rfl
  rotate_left
  · simp only [Act.put, List.setIfInBounds_toArray, List.set_cons_zero, List.set_cons_succ, i64_w, i32_w]
    rfl
  refine take_ (i := 6) (N := some 17) (v := ?_) (a' := ?_) #[true, true, true, true, true, false, true, false, false, false, false, false, false, false, false, false, false] rfl rfl (take_ofW HT_.out HW_.out (by kernel_rfl)) (fun _ _ _ h => h) (Or.inl ⟨by rfl, ?_⟩) hHeld ?_ ?_
  rotate_left
  · rintro w' ⟨s0, s1, s2, s3, s4, s5, s6, s7, s8, s9, s10, s11, s12, s13, s14, s15, s16, s17, s18, s19⟩
    go_simp
    with_reducible rfl
  rotate_left
  · simp only [Act.put, List.setIfInBounds_toArray, List.set_cons_zero, List.set_cons_succ, i64_w, i32_w]
    rfl
  refine take_ (i := 7) (N := some 18) (v := ?_) (a' := ?_) #[true, true, true, true, true, false, true, true, false, false, false, false, false, false, false, false, false] rfl rfl (take_ofW HT_.out HW_.out (by kernel_rfl)) (fun _ _ _ h => h) (Or.inl ⟨by rfl, ?_⟩) hHeld ?_ ?_
  rotate_left
  · rintro w' ⟨s0, s1, s2, s3, s4, s5, s6, s7, s8, s9, s10, s11, s12, s13, s14, s15, s16, s17, s18, s19⟩
    go_simp
    with_reducible rfl
  rotate_left
  · simp only [Act.put, List.setIfInBounds_toArray, List.set_cons_zero, List.set_cons_succ, i64_w, i32_w]
    rfl
  refine take_ (i := 8) (N := some 19) (v := ?_) (a' := ?_) #[true, true, true, true, true, false, true, true, true, false, false, false, false, false, false, false, false] rfl rfl (take_ofW HT_.out HW_.out (by kernel_rfl)) (fun _ _ _ h => h) (Or.inl ⟨by rfl, ?_⟩) hHeld ?_ ?_
  rotate_left
  · rintro w' ⟨s0, s1, s2, s3, s4, s5, s6, s7, s8, s9, s10, s11, s12, s13, s14, s15, s16, s17, s18, s19⟩
    go_simp
    with_reducible rfl
  rotate_left
  · simp only [Act.put, List.setIfInBounds_toArray, List.set_cons_zero, List.set_cons_succ, i64_w, i32_w]
    rfl
  refine pure_ (i := 9) (N := some 20) (v := ?_) (a' := ?_) #[true, true, true, true, true, false, true, true, true, true, false, false, false, false, false, false, false] rfl rfl (any_of HT_.out (by kernel_rfl)) (fun _ _ _ h => h) (Or.inl ⟨by rfl, ?_⟩) ?_ ?_
  rotate_left
  · intro w'
    go_simp
    with_reducible rfl
  rotate_left
  · simp only [Act.put, List.setIfInBounds_toArray, List.set_cons_zero, List.set_cons_succ, i64_w, i32_w]
    rfl
  refine pure_ (i := 10) (N := some 21) (v := ?_) (a' := ?_) #[true, true, true, true, true, false, true, true, true, true, true, false, false, false, false, false, false] rfl rfl (any_of HT_.out (by kernel_rfl)) (fun _ _ _ h => h) (Or.inl ⟨by rfl, ?_⟩) ?_ ?_
  rotate_left
  · intro w'
    go_simp
    with_reducible rfl
  rotate_left
  · simp only [Act.put, List.setIfInBounds_toArray, List.set_cons_zero, List.set_cons_succ, i64_w, i32_w]
    rfl
  refine one_ (i := 5) (N := some 16) #[true, true, true, true, true, true, true, true, true, true, true, false, false, false, false, false, false] rfl rfl (one_of HT_.out (by kernel_rfl)) (by decide) (fun K hK => ?_)
  refine goes_ Try.func9 (by kernel_rfl) rfl #[.agg #[.int .i64 o.x, .int .i64 o.y, .int .i64 o.w, .int .i64 o.h], .agg #[.int .i64 k.x, .int .i64 k.y, .int .i64 k.w, .int .i64 k.h], .agg #[.int .i64 h.minW, .int .i64 h.minH, .int .i64 h.maxW, .int .i64 h.maxH, .int .i64 h.baseW, .int .i64 h.baseH, .int .i64 h.incW, .int .i64 h.incH, .int .i64 h.lowX, .int .i64 h.lowY, .int .i64 h.highX, .int .i64 h.highY], .int .i64 w, .int .i64 t] (by rfl) rfl rfl (by (try simp only [List.map_toArray, List.map_cons, List.map_nil]); first | done | rfl) ?_
  refine (K1.out _).mono ?_
  rintro e wn ⟨rfl, hb⟩
  refine ⟨_, rfl, ?_⟩
  obtain ⟨s0, s1, s2, s3, s4, s5, s6, s7, s8, s9, s10, s11, s12, s13, s14, s15, s16, s17, s18, s19⟩ := hHeld
  replace s0 := cell_held hb s0
  replace s1 := cell_held hb s1
  replace s2 := cell_held hb s2
  replace s3 := cell_held hb s3
  replace s4 := cell_held hb s4
  replace s5 := cell_held hb s5
  replace s6 := cell_held hb s6
  replace s7 := cell_held hb s7
  replace s8 := cell_held hb s8
  replace s9 := cell_held hb s9
  replace s10 := cell_held hb s10
  replace s11 := cell_held hb s11
  replace s12 := cell_held hb s12
  replace s13 := cell_held hb s13
  replace s14 := cell_held hb s14
  replace s15 := cell_held hb s15
  replace s16 := cell_held hb s16
  replace s17 := cell_held hb s17
  replace s18 := cell_held hb s18
  replace s19 := cell_held hb s19
  replace qB := below_step (w := W) qB hb
  clear hb
  refine hK.out _ _ ⟨s0, s1, s2, s3, s4, s5, s6, s7, s8, s9, s10, s11, s12, s13, s14, s15, s16, s17, s18, s19⟩ (fun hHeld => ?_)
  clear hK K s0 s1 s2 s3 s4 s5 s6 s7 s8 s9 s10 s11 s12 s13 s14 s15 s16 s17 s18 s19
  refine norm_ (a' := ?_) ?_ ?_
  rotate_left
  · show Act.put _ (some 16) _ = _
    simp only [Act.put, List.setIfInBounds_toArray, List.set_cons_zero, List.set_cons_succ, i64_w, i32_w]
    rfl
  refine one_ (i := 11) (N := some 22) #[true, true, true, true, true, true, true, true, true, true, true, true, false, false, false, false, false] rfl rfl (one_of HT_.out (by kernel_rfl)) (by decide) (fun K hK => ?_)
  refine goes_ Try.func10 (by kernel_rfl) rfl #[.agg #[.int .i64 o.x, .int .i64 o.y, .int .i64 o.w, .int .i64 o.h], .agg #[.int .i64 k.x, .int .i64 k.y, .int .i64 k.w, .int .i64 k.h], .agg #[.int .i64 h.minW, .int .i64 h.minH, .int .i64 h.maxW, .int .i64 h.maxH, .int .i64 h.baseW, .int .i64 h.baseH, .int .i64 h.incW, .int .i64 h.incH, .int .i64 h.lowX, .int .i64 h.lowY, .int .i64 h.highX, .int .i64 h.highY], .int .i64 w, .int .i64 t] (by rfl) rfl rfl (by (try simp only [List.map_toArray, List.map_cons, List.map_nil]); first | done | rfl) ?_
  refine (K2.out _).mono ?_
  rintro e wn ⟨rfl, hb⟩
  refine ⟨_, rfl, ?_⟩
  obtain ⟨s0, s1, s2, s3, s4, s5, s6, s7, s8, s9, s10, s11, s12, s13, s14, s15, s16, s17, s18, s19⟩ := hHeld
  replace s0 := cell_held hb s0
  replace s1 := cell_held hb s1
  replace s2 := cell_held hb s2
  replace s3 := cell_held hb s3
  replace s4 := cell_held hb s4
  replace s5 := cell_held hb s5
  replace s6 := cell_held hb s6
  replace s7 := cell_held hb s7
  replace s8 := cell_held hb s8
  replace s9 := cell_held hb s9
  replace s10 := cell_held hb s10
  replace s11 := cell_held hb s11
  replace s12 := cell_held hb s12
  replace s13 := cell_held hb s13
  replace s14 := cell_held hb s14
  replace s15 := cell_held hb s15
  replace s16 := cell_held hb s16
  replace s17 := cell_held hb s17
  replace s18 := cell_held hb s18
  replace s19 := cell_held hb s19
  replace qB := below_step (w := W) qB hb
  clear hb
  refine hK.out _ _ ⟨s0, s1, s2, s3, s4, s5, s6, s7, s8, s9, s10, s11, s12, s13, s14, s15, s16, s17, s18, s19⟩ (fun hHeld => ?_)
  clear hK K s0 s1 s2 s3 s4 s5 s6 s7 s8 s9 s10 s11 s12 s13 s14 s15 s16 s17 s18 s19
  refine norm_ (a' := ?_) ?_ ?_
  rotate_left
  · show Act.put _ (some 22) _ = _
    simp only [Act.put, List.setIfInBounds_toArray, List.set_cons_zero, List.set_cons_succ, i64_w, i32_w]
    rfl
  refine pure_ (i := 12) (N := some 23) (v := ?_) (a' := ?_) #[true, true, true, true, true, true, true, true, true, true, true, true, true, false, false, false, false] rfl rfl (any_of HT_.out (by kernel_rfl)) (fun _ _ _ h => h) (Or.inl ⟨by rfl, ?_⟩) ?_ ?_
  rotate_left
  · intro w'
    go_simp
    with_reducible rfl
  rotate_left
  · simp only [Act.put, List.setIfInBounds_toArray, List.set_cons_zero, List.set_cons_succ, i64_w, i32_w]
    rfl
  refine pure_ (i := 13) (N := some 24) (v := ?_) (a' := ?_) #[true, true, true, true, true, true, true, true, true, true, true, true, true, true, false, false, false] rfl rfl (any_of HT_.out (by kernel_rfl)) (fun _ _ _ h => h) (Or.inl ⟨by rfl, ?_⟩) ?_ ?_
  rotate_left
  · intro w'
    go_simp
    with_reducible rfl
  rotate_left
  · simp only [Act.put, List.setIfInBounds_toArray, List.set_cons_zero, List.set_cons_succ, i64_w, i32_w]
    rfl
  refine one_ (i := 14) (N := some 25) #[true, true, true, true, true, true, true, true, true, true, true, true, true, true, true, false, false] rfl rfl (one_of HT_.out (by kernel_rfl)) (by decide) (fun K hK => ?_)
  refine goes_ Try.func11 (by kernel_rfl) rfl #[] (by rfl) rfl rfl (by (try simp only [List.map_toArray, List.map_cons, List.map_nil]); first | done | rfl) ?_
  refine (c_awake _).mono ?_
  rintro e wn ⟨rfl, hb⟩
  refine ⟨_, rfl, ?_⟩
  obtain ⟨s0, s1, s2, s3, s4, s5, s6, s7, s8, s9, s10, s11, s12, s13, s14, s15, s16, s17, s18, s19⟩ := hHeld
  replace s0 := cell_held hb s0
  replace s1 := cell_held hb s1
  replace s2 := cell_held hb s2
  replace s3 := cell_held hb s3
  replace s4 := cell_held hb s4
  replace s5 := cell_held hb s5
  replace s6 := cell_held hb s6
  replace s7 := cell_held hb s7
  replace s8 := cell_held hb s8
  replace s9 := cell_held hb s9
  replace s10 := cell_held hb s10
  replace s11 := cell_held hb s11
  replace s12 := cell_held hb s12
  replace s13 := cell_held hb s13
  replace s14 := cell_held hb s14
  replace s15 := cell_held hb s15
  replace s16 := cell_held hb s16
  replace s17 := cell_held hb s17
  replace s18 := cell_held hb s18
  replace s19 := cell_held hb s19
  replace qB := below_step (w := W) qB hb
  clear hb
  refine hK.out _ _ ⟨s0, s1, s2, s3, s4, s5, s6, s7, s8, s9, s10, s11, s12, s13, s14, s15, s16, s17, s18, s19⟩ (fun hHeld => ?_)
  clear hK K s0 s1 s2 s3 s4 s5 s6 s7 s8 s9 s10 s11 s12 s13 s14 s15 s16 s17 s18 s19
  refine norm_ (a' := ?_) ?_ ?_
  rotate_left
  · show Act.put _ (some 25) _ = _
    simp only [Act.put, List.setIfInBounds_toArray, List.set_cons_zero, List.set_cons_succ, i64_w, i32_w]
    rfl
  refine pure_ (i := 15) (N := some 26) (v := ?_) (a' := ?_) #[true, true, true, true, true, true, true, true, true, true, true, true, true, true, true, true, false] rfl rfl (any_of HT_.out (by kernel_rfl)) (fun _ _ _ h => h) (Or.inl ⟨by rfl, ?_⟩) ?_ ?_
  rotate_left
  · intro w'
    go_simp
    with_reducible rfl
  rotate_left
  · simp only [Act.put, List.setIfInBounds_toArray, List.set_cons_zero, List.set_cons_succ, i64_w, i32_w]
    rfl
  refine pure_ (i := 16) (N := some 10) (v := ?_) (a' := ?_) #[true, true, true, true, true, true, true, true, true, true, true, true, true, true, true, true, true] rfl rfl (any_of HT_.out (by kernel_rfl)) (fun _ _ _ h => h) (Or.inl ⟨by rfl, ?_⟩) ?_ ?_
  rotate_left
  · intro w'
    go_simp
    with_reducible rfl
  rotate_left
  · simp only [Act.put, List.setIfInBounds_toArray, List.set_cons_zero, List.set_cons_succ, i64_w, i32_w]
    rfl
  refine done_ (done_of HT_.out (by kernel_rfl)) ?_
  go_wp2
  go_ret
  exact ⟨rfl, qB⟩
theorem FloatStarts_law (a0_0 : Int) (a0_1 : Int) (a0_2 : Int) (a0_3 : Int) (a1_0 : Int) (a1_1 : Int) (a1_2 : Int) (a1_3 : Int) (a2_0 : Int) (a2_1 : Int) (a2_2 : Int) (a2_3 : Int) (a2_4 : Int) (a2_5 : Int) (a2_6 : Int) (a2_7 : Int) (a2_8 : Int) (a2_9 : Int) (a2_10 : Int) (a2_11 : Int) (a3 : Int) (a4 : Int) (W : World) (w0_0 : (Lit.int .i64 a0_0).wf = true) (w0_1 : (Lit.int .i64 a0_1).wf = true) (w0_2 : (Lit.int .i64 a0_2).wf = true) (w0_3 : (Lit.int .i64 a0_3).wf = true) (w1_0 : (Lit.int .i64 a1_0).wf = true) (w1_1 : (Lit.int .i64 a1_1).wf = true) (w1_2 : (Lit.int .i64 a1_2).wf = true) (w1_3 : (Lit.int .i64 a1_3).wf = true) (w2_0 : (Lit.int .i64 a2_0).wf = true) (w2_1 : (Lit.int .i64 a2_1).wf = true) (w2_2 : (Lit.int .i64 a2_2).wf = true) (w2_3 : (Lit.int .i64 a2_3).wf = true) (w2_4 : (Lit.int .i64 a2_4).wf = true) (w2_5 : (Lit.int .i64 a2_5).wf = true) (w2_6 : (Lit.int .i64 a2_6).wf = true) (w2_7 : (Lit.int .i64 a2_7).wf = true) (w2_8 : (Lit.int .i64 a2_8).wf = true) (w2_9 : (Lit.int .i64 a2_9).wf = true) (w2_10 : (Lit.int .i64 a2_10).wf = true) (w2_11 : (Lit.int .i64 a2_11).wf = true) (w3 : (Lit.int .i64 a3).wf = true) (w4 : (Lit.int .i64 a4).wf = true) :
    Calls Try.prog 3 #[.agg #[.int .i64 a0_0, .int .i64 a0_1, .int .i64 a0_2, .int .i64 a0_3], .agg #[.int .i64 a1_0, .int .i64 a1_1, .int .i64 a1_2, .int .i64 a1_3], .agg #[.int .i64 a2_0, .int .i64 a2_1, .int .i64 a2_2, .int .i64 a2_3, .int .i64 a2_4, .int .i64 a2_5, .int .i64 a2_6, .int .i64 a2_7, .int .i64 a2_8, .int .i64 a2_9, .int .i64 a2_10, .int .i64 a2_11], .int .i64 a3, .int .i64 a4] W fun e w' => e = .returned (.bool true) ∧ Below W.heap.size W w' :=
  starts_any ⟨a0_0, a0_1, a0_2, a0_3⟩ ⟨a1_0, a1_1, a1_2, a1_3⟩ ⟨a2_0, a2_1, a2_2, a2_3, a2_4, a2_5, a2_6, a2_7, a2_8, a2_9, a2_10, a2_11⟩ a3 a4 W
end Go.Proofs.Ytajpnmiblepmkaa.Fl
