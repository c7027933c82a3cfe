/- Clients that stand free: the contracts of Resize; FloatSizes, FloatGood. -/
import Derived.Test.YtajpnmiblepmkaaFlL

namespace Go.Proofs.Ytajpnmiblepmkaa.Fl
open Go.RowKit Go.Proofs.YtajpnmiblepmkaaW.PrintMore Go.Proofs.YtajpnmiblepmkaaW.PrintWords Go.Proofs.YtajpnmiblepmkaaW.PrintLast Go.Proofs.Ytajpnmiblepmkaa.Geo Go.Proofs.Ytajpnmiblepmkaa.Sz
set_option linter.unusedVariables false
set_option linter.unusedSimpArgs false
attribute [local go_sem] max2_int min2_int max_two min_two max_three min_three
attribute [local go_sem high] eqR

def FlZa.T3 : Bool × List (List Nat × List Nat) := (true, [([], []), ([0], [0]), ([], []), ([2], [2]), ([1, 3], [1, 3]), ([4, 3, 0, 1, 2, 3, 4], [4])])
def FlZa.B3 : List Nat := [0, 1, 0, 4, 15, 31]
theorem FlZa.tab3 : rtab .any (opsOf Try.f14 3) = FlZa.T3 := by kernel_rfl
theorem FlZa.bits3 : waitsOk FlZa.T3.2 FlZa.B3 = true := by kernel_rfl
def FlZb.T4 : Bool × List (List Nat × List Nat) := (true, [([], []), ([0], [0]), ([], []), ([2], [2]), ([1, 3], [1, 3]), ([4, 3, 0, 1, 2, 3, 4], [4])])
def FlZb.B4 : List Nat := [0, 1, 0, 4, 15, 31]
theorem FlZb.tab4 : rtab .any (opsOf Try.f14 4) = FlZb.T4 := by kernel_rfl
theorem FlZb.bits4 : waitsOk FlZb.T4.2 FlZb.B4 = true := by kernel_rfl
set_option maxHeartbeats 8000000 in
set_option maxRecDepth 100000 in
theorem c_resize (r : Rc) (h : Hn) (dw dt : Int) (W : World) : Calls Try.prog 14 #[.agg #[.int .i64 r.x, .int .i64 r.y, .int .i64 r.w, .int .i64 r.h], .agg #[.int .i64 h.minW, .int .i64 h.minH, .int .i64 h.maxW, .int .i64 h.maxH, .int .i64 h.baseW, .int .i64 h.baseH, .int .i64 h.incW, .int .i64 h.incH, .int .i64 h.lowX, .int .i64 h.lowY, .int .i64 h.highX, .int .i64 h.highY], .int .i64 dw, .int .i64 dt] W (RetR (resizeP r h dw dt) W) := by
  unfold RetR
  have K1 := c_gRight r
  obtain ⟨L, hL⟩ : ∃ L, L = resizeP r h dw dt := ⟨_, rfl⟩
  rw [← hL]
  by_cases c : rightB r = true
  · rw [c] at K1
    obtain ⟨s1, hs1⟩ : ∃ s, s = spanP dw (-65535) 65535 := ⟨_, rfl⟩
    obtain ⟨s2, hs2⟩ : ∃ s, s = spanP dt (-65535) 65535 := ⟨_, rfl⟩
    have KA := fun w => c_gspan dw (-65535) 65535 w
    have KB := fun w => c_gspan dt (-65535) 65535 w
    rw [spanI_P, ← hs1] at KA
    rw [spanI_P, ← hs2] at KB
    obtain ⟨x, y, g, e⟩ := fit_good h (r.w + s1) (r.h + s2)
    obtain ⟨g1, g2, g3, g4, _⟩ := g
    have bx := in_bd c
    have KL := c_laid r.x r.y x y (by omega) (by omega)
    have eL : L = laidP r.x r.y x y := by
      rw [hL]; unfold resizeP; rw [if_pos c, ← hs1, ← hs2, e]
    rw [← eL] at KL
    have b1 : -65535 ≤ s1 ∧ s1 ≤ 65535 := by rw [hs1]; unfold spanP; omega
    have b2 : -65535 ≤ s2 ∧ s2 ≤ 65535 := by rw [hs2]; unfold spanP; omega
    have KF := c_fit e
    rw [← wrap64_i (n := r.w + s1) (by omega) (by omega), ← wrap64_i (n := r.h + s2) (by omega) (by omega)] at KF
    have KA' := Aside0.mk (show ∀ w, Calls Try.prog 40 #[.int .i64 dw, .int .i64 (-65535), .int .i64 65535] w fun e w' => e = .returned (.int .i64 s1) ∧ Below w.heap.size w w' from fun w => (KA w).mono fun e w' q => ⟨q.1, q.2 ▸ Below.refl _ _⟩)
    have KB' := Aside0.mk (show ∀ w, Calls Try.prog 40 #[.int .i64 dt, .int .i64 (-65535), .int .i64 65535] w fun e w' => e = .returned (.int .i64 s2) ∧ Below w.heap.size w w' from fun w => (KB w).mono fun e w' q => ⟨q.1, q.2 ▸ Below.refl _ _⟩)
    replace K1 := Aside0.mk K1; replace KL := Aside0.mk KL; replace KF := Aside0.mk KF
    clear KA KB hL hs1 hs2 e g1 g2 g3 g4 eL b1 b2 bx c
    go_enter Try.func14, Try.ntmps14
    go_wp2_with fail
    refine (K1.out _).mono ?_
    rintro e w1 ⟨rfl, hb⟩
    have B4 := Aside0.mk (blk_below (g := W.heap.size) (o := .cells #[.int .i64 r.x, .int .i64 r.y, .int .i64 r.w, .int .i64 r.h] 23 (0, 0)) (by (repeat (first | exact new_at (by simp only [World.size_alloc, World.size_drew]; done) | refine blk_drew ?_ | refine blk_alloc ?_ _))) hb)
    have B5 := Aside0.mk (blk_below (g := W.heap.size + 1) (o := .cells #[.int .i64 h.minW, .int .i64 h.minH, .int .i64 h.maxW, .int .i64 h.maxH, .int .i64 h.baseW, .int .i64 h.baseH, .int .i64 h.incW, .int .i64 h.incH, .int .i64 h.lowX, .int .i64 h.lowY, .int .i64 h.highX, .int .i64 h.highY] 25 (0, 0)) (by (repeat (first | exact new_at (by simp only [World.size_alloc, World.size_drew]; done) | refine blk_drew ?_ | refine blk_alloc ?_ _))) hb)
    have B8 := Aside0.mk (blk_below (g := W.heap.size + 1 + 1) (o := .cells #[.int .i64 0, .int .i64 0, .int .i64 0, .int .i64 0] 23 (0, 0)) (by (repeat (first | exact new_at (by simp only [World.size_alloc, World.size_drew]; done) | refine blk_drew ?_ | refine blk_alloc ?_ _))) hb)
    have qB := below_step (w := W) (by (repeat (first | exact Below.refl _ _ | apply below_alloc))) hb
    clear hb
    have p0 : w1.cell? ⟨W.heap.size, 0, none⟩ = some (.int .i64 (r.x)) := (blk_cell B4.out 0).trans rfl
    have p1 : w1.cell? ⟨W.heap.size, 1, none⟩ = some (.int .i64 (r.y)) := (blk_cell B4.out 1).trans rfl
    have p2 : w1.cell? ⟨W.heap.size, 2, none⟩ = some (.int .i64 (r.w)) := (blk_cell B4.out 2).trans rfl
    have p3 : w1.cell? ⟨W.heap.size, 3, none⟩ = some (.int .i64 (r.h)) := (blk_cell B4.out 3).trans rfl
    clear B4
    go_wp2_with fail
    refine start_ (n := 6) (S := fun w' => w'.cell? ⟨W.heap.size, 0, none⟩ = some (.int .i64 r.x) ∧ w'.cell? ⟨W.heap.size, 1, none⟩ = some (.int .i64 r.y) ∧ w'.cell? ⟨W.heap.size, 2, none⟩ = some (.int .i64 r.w) ∧ w'.cell? ⟨W.heap.size, 3, none⟩ = some (.int .i64 r.h)) (ds := []) #[false, false, false, false, false, false] (by kernel_rfl) rfl rfl ⟨p0, p1, p2, p3⟩ (fun hHeld => ?_)
    refine with_tabW FlZa.tab3 FlZa.bits3 (fun HT_ HW_ => ?_)
    have qB0 := below_drew qB
    clear qB
    have qB := qB0
    clear qB0
    replace B5 := Aside0.mk (blk_drew B5.out)
    replace B8 := Aside0.mk (blk_drew B8.out)
    generalize w1.drew = wr at qB hHeld B5 B8 ⊢
    refine pure_ (i := 0) (N := some 15) (v := ?_) (a' := ?_) #[true, false, false, false, false, false] rfl rfl (any_of HT_.out (by kernel_rfl)) (fun _ _ _ h => h) (Or.inl ⟨by rfl, ?_⟩) ?_ ?_
    rotate_left
    · intro w'
      go_simp
      with_reducible rfl
    rotate_left
    · simp only [Act.put, List.setIfInBounds_toArray, List.set_cons_zero, List.set_cons_succ, i64_w, i32_w]
      rfl
    refine take_ (i := 1) (N := some 16) (v := ?_) (a' := ?_) #[true, true, false, false, false, false] rfl rfl (take_ofW HT_.out HW_.out (by kernel_rfl)) (fun _ _ _ h => h) (Or.inl ⟨by rfl, ?_⟩) hHeld ?_ ?_
    rotate_left
    · rintro w' ⟨s0, s1, s2, s3⟩
      go_simp
      with_reducible rfl
    rotate_left
    · simp only [Act.put, List.setIfInBounds_toArray, List.set_cons_zero, List.set_cons_succ, i64_w, i32_w]
      rfl
    refine pure_ (i := 2) (N := some 17) (v := ?_) (a' := ?_) #[true, true, true, false, false, false] rfl rfl (any_of HT_.out (by kernel_rfl)) (fun _ _ _ h => h) (Or.inl ⟨by rfl, ?_⟩) ?_ ?_
    rotate_left
    · intro w'
      go_simp
      with_reducible rfl
    rotate_left
    · simp only [Act.put, List.setIfInBounds_toArray, List.set_cons_zero, List.set_cons_succ, i64_w, i32_w]
      rfl
    refine one_ (i := 3) (N := some 18) #[true, true, true, true, false, false] rfl rfl (one_of HT_.out (by kernel_rfl)) (by decide) (fun K hK => ?_)
    refine goes_ Try.func40 (by kernel_rfl) rfl #[.int .i64 dw, .int .i64 (-65535), .int .i64 65535] (by rfl) rfl rfl (by (try simp only [List.map_toArray, List.map_cons, List.map_nil]); first | done | rfl) ?_
    refine (KA'.out _).mono ?_
    rintro e wn ⟨rfl, hb⟩
    refine ⟨_, rfl, ?_⟩
    obtain ⟨s0, s1, s2, s3⟩ := hHeld
    replace s0 := cell_held hb s0
    replace s1 := cell_held hb s1
    replace s2 := cell_held hb s2
    replace s3 := cell_held hb s3
    replace qB := below_step (w := W) qB hb
    replace B5 := Aside0.mk (blk_below B5.out hb)
    replace B8 := Aside0.mk (blk_below B8.out hb)
    clear hb
    refine hK.out _ _ ⟨s0, s1, s2, s3⟩ (fun hHeld => ?_)
    clear hK K s0 s1 s2 s3
    refine norm_ (a' := ?_) ?_ ?_
    rotate_left
    · show Act.put _ (some 18) _ = _
      simp only [Act.put, List.setIfInBounds_toArray, List.set_cons_zero, List.set_cons_succ, i64_w, i32_w]
      rfl
    refine pure_ (i := 4) (N := some 19) (v := ?_) (a' := ?_) #[true, true, true, true, true, false] rfl rfl (any_of HT_.out (by kernel_rfl)) (fun _ _ _ h => h) (Or.inl ⟨by rfl, ?_⟩) ?_ ?_
    rotate_left
    · intro w'
      go_simp
      with_reducible rfl
    rotate_left
    · simp only [Act.put, List.setIfInBounds_toArray, List.set_cons_zero, List.set_cons_succ, i64_w, i32_w]
      rfl
    refine pure_ (i := 5) (N := some 9) (v := ?_) (a' := ?_) #[true, true, true, true, true, true] rfl rfl (any_of HT_.out (by kernel_rfl)) (fun _ _ _ h => h) (Or.inl ⟨by rfl, ?_⟩) ?_ ?_
    rotate_left
    · intro w'
      go_simp
      with_reducible rfl
    rotate_left
    · simp only [Act.put, List.setIfInBounds_toArray, List.set_cons_zero, List.set_cons_succ, i64_w, i32_w]
      rfl
    refine done_ (done_of HT_.out (by kernel_rfl)) ?_
    obtain ⟨s0', s1', s2', s3'⟩ := hHeld
    go_wp2_with fail
    refine start_ (n := 6) (S := fun w' => w'.cell? ⟨W.heap.size, 0, none⟩ = some (.int .i64 r.x) ∧ w'.cell? ⟨W.heap.size, 1, none⟩ = some (.int .i64 r.y) ∧ w'.cell? ⟨W.heap.size, 2, none⟩ = some (.int .i64 r.w) ∧ w'.cell? ⟨W.heap.size, 3, none⟩ = some (.int .i64 r.h)) (ds := []) #[false, false, false, false, false, false] (by kernel_rfl) rfl rfl ⟨s0', s1', s2', s3'⟩ (fun hHeld => ?_)
    refine with_tabW FlZb.tab4 FlZb.bits4 (fun HT_ HW_ => ?_)
    have qB0 := below_drew qB
    clear qB
    have qB := qB0
    clear qB0
    replace B5 := Aside0.mk (blk_drew B5.out)
    replace B8 := Aside0.mk (blk_drew B8.out)
    generalize wn.drew = wr at qB hHeld B5 B8 ⊢
    refine pure_ (i := 0) (N := some 20) (v := ?_) (a' := ?_) #[true, false, false, false, false, false] rfl rfl (any_of HT_.out (by kernel_rfl)) (fun _ _ _ h => h) (Or.inl ⟨by rfl, ?_⟩) ?_ ?_
    rotate_left
    · intro w'
      go_simp
      with_reducible rfl
    rotate_left
    · simp only [Act.put, List.setIfInBounds_toArray, List.set_cons_zero, List.set_cons_succ, i64_w, i32_w]
      rfl
    refine take_ (i := 1) (N := some 21) (v := ?_) (a' := ?_) #[true, true, false, false, false, false] rfl rfl (take_ofW HT_.out HW_.out (by kernel_rfl)) (fun _ _ _ h => h) (Or.inl ⟨by rfl, ?_⟩) hHeld ?_ ?_
    rotate_left
    · rintro w' ⟨s0, s1, s2, s3⟩
      go_simp
      with_reducible rfl
    rotate_left
    · simp only [Act.put, List.setIfInBounds_toArray, List.set_cons_zero, List.set_cons_succ, i64_w, i32_w]
      rfl
    refine pure_ (i := 2) (N := some 22) (v := ?_) (a' := ?_) #[true, true, true, false, false, false] rfl rfl (any_of HT_.out (by kernel_rfl)) (fun _ _ _ h => h) (Or.inl ⟨by rfl, ?_⟩) ?_ ?_
    rotate_left
    · intro w'
      go_simp
      with_reducible rfl
    rotate_left
    · simp only [Act.put, List.setIfInBounds_toArray, List.set_cons_zero, List.set_cons_succ, i64_w, i32_w]
      rfl
    refine one_ (i := 3) (N := some 23) #[true, true, true, true, false, false] rfl rfl (one_of HT_.out (by kernel_rfl)) (by decide) (fun K hK => ?_)
    refine goes_ Try.func40 (by kernel_rfl) rfl #[.int .i64 dt, .int .i64 (-65535), .int .i64 65535] (by rfl) rfl rfl (by (try simp only [List.map_toArray, List.map_cons, List.map_nil]); first | done | rfl) ?_
    refine (KB'.out _).mono ?_
    rintro e wn ⟨rfl, hb⟩
    refine ⟨_, rfl, ?_⟩
    obtain ⟨s0, s1, s2, s3⟩ := hHeld
    replace s0 := cell_held hb s0
    replace s1 := cell_held hb s1
    replace s2 := cell_held hb s2
    replace s3 := cell_held hb s3
    replace qB := below_step (w := W) qB hb
    replace B5 := Aside0.mk (blk_below B5.out hb)
    replace B8 := Aside0.mk (blk_below B8.out hb)
    clear hb
    refine hK.out _ _ ⟨s0, s1, s2, s3⟩ (fun hHeld => ?_)
    clear hK K s0 s1 s2 s3
    refine norm_ (a' := ?_) ?_ ?_
    rotate_left
    · show Act.put _ (some 23) _ = _
      simp only [Act.put, List.setIfInBounds_toArray, List.set_cons_zero, List.set_cons_succ, i64_w, i32_w]
      rfl
    refine pure_ (i := 4) (N := some 24) (v := ?_) (a' := ?_) #[true, true, true, true, true, false] rfl rfl (any_of HT_.out (by kernel_rfl)) (fun _ _ _ h => h) (Or.inl ⟨by rfl, ?_⟩) ?_ ?_
    rotate_left
    · intro w'
      go_simp
      with_reducible rfl
    rotate_left
    · simp only [Act.put, List.setIfInBounds_toArray, List.set_cons_zero, List.set_cons_succ, i64_w, i32_w]
      rfl
    refine pure_ (i := 5) (N := some 10) (v := ?_) (a' := ?_) #[true, true, true, true, true, true] rfl rfl (any_of HT_.out (by kernel_rfl)) (fun _ _ _ h => h) (Or.inl ⟨by rfl, ?_⟩) ?_ ?_
    rotate_left
    · intro w'
      go_simp
      with_reducible rfl
    rotate_left
    · simp only [Act.put, List.setIfInBounds_toArray, List.set_cons_zero, List.set_cons_succ, i64_w, i32_w]
      rfl
    refine done_ (done_of HT_.out (by kernel_rfl)) ?_
    obtain ⟨s0'', s1'', s2'', s3''⟩ := hHeld
    have u0 : wn.cell? ⟨W.heap.size + 1, 0, none⟩ = some (.int .i64 (h.minW)) := (blk_cell B5.out 0).trans rfl
    have u1 : wn.cell? ⟨W.heap.size + 1, 1, none⟩ = some (.int .i64 (h.minH)) := (blk_cell B5.out 1).trans rfl
    have u2 : wn.cell? ⟨W.heap.size + 1, 2, none⟩ = some (.int .i64 (h.maxW)) := (blk_cell B5.out 2).trans rfl
    have u3 : wn.cell? ⟨W.heap.size + 1, 3, none⟩ = some (.int .i64 (h.maxH)) := (blk_cell B5.out 3).trans rfl
    have u4 : wn.cell? ⟨W.heap.size + 1, 4, none⟩ = some (.int .i64 (h.baseW)) := (blk_cell B5.out 4).trans rfl
    have u5 : wn.cell? ⟨W.heap.size + 1, 5, none⟩ = some (.int .i64 (h.baseH)) := (blk_cell B5.out 5).trans rfl
    have u6 : wn.cell? ⟨W.heap.size + 1, 6, none⟩ = some (.int .i64 (h.incW)) := (blk_cell B5.out 6).trans rfl
    have u7 : wn.cell? ⟨W.heap.size + 1, 7, none⟩ = some (.int .i64 (h.incH)) := (blk_cell B5.out 7).trans rfl
    have u8 : wn.cell? ⟨W.heap.size + 1, 8, none⟩ = some (.int .i64 (h.lowX)) := (blk_cell B5.out 8).trans rfl
    have u9 : wn.cell? ⟨W.heap.size + 1, 9, none⟩ = some (.int .i64 (h.lowY)) := (blk_cell B5.out 9).trans rfl
    have u10 : wn.cell? ⟨W.heap.size + 1, 10, none⟩ = some (.int .i64 (h.highX)) := (blk_cell B5.out 10).trans rfl
    have u11 : wn.cell? ⟨W.heap.size + 1, 11, none⟩ = some (.int .i64 (h.highY)) := (blk_cell B5.out 11).trans rfl
    go_wp2_with fail
    refine (KF.out _).mono ?_
    rintro e w7 ⟨rfl, hb⟩
    clear u0 u1 u2 u3 u4 u5 u6 u7 u8 u9 u10 u11
    replace s0'' := cell_held hb s0''
    replace s1'' := cell_held hb s1''
    replace s2'' := cell_held hb s2''
    replace s3'' := cell_held hb s3''
    replace B8 := Aside0.mk (blk_below B8.out hb)
    replace qB := below_step (w := W) qB hb
    clear hb
    have q0 : w7.cell? ⟨W.heap.size + 1 + 1, 0, none⟩ = some (.int .i64 (0)) := (blk_cell B8.out 0).trans rfl
    have fq0 := blk_frozen B8.out 0
    have q1 : w7.cell? ⟨W.heap.size + 1 + 1, 1, none⟩ = some (.int .i64 (0)) := (blk_cell B8.out 1).trans rfl
    have fq1 := blk_frozen B8.out 1
    have q2 : w7.cell? ⟨W.heap.size + 1 + 1, 2, none⟩ = some (.int .i64 (0)) := (blk_cell B8.out 2).trans rfl
    have fq2 := blk_frozen B8.out 2
    have q3 : w7.cell? ⟨W.heap.size + 1 + 1, 3, none⟩ = some (.int .i64 (0)) := (blk_cell B8.out 3).trans rfl
    have fq3 := blk_frozen B8.out 3
    go_wp2_with fail
    refine (KL.out _).mono ?_
    rintro e w9 ⟨rfl, hb⟩
    replace B8 := Aside0.mk (blk_below B8.out hb)
    replace qB := below_step (w := W) qB hb
    clear hb q0 q1 q2 q3 fq0 fq1 fq2 fq3
    have q0 : w9.cell? ⟨W.heap.size + 1 + 1, 0, none⟩ = some (.int .i64 (0)) := (blk_cell B8.out 0).trans rfl
    have fq0 := blk_frozen B8.out 0
    have q1 : w9.cell? ⟨W.heap.size + 1 + 1, 1, none⟩ = some (.int .i64 (0)) := (blk_cell B8.out 1).trans rfl
    have fq1 := blk_frozen B8.out 1
    have q2 : w9.cell? ⟨W.heap.size + 1 + 1, 2, none⟩ = some (.int .i64 (0)) := (blk_cell B8.out 2).trans rfl
    have fq2 := blk_frozen B8.out 2
    have q3 : w9.cell? ⟨W.heap.size + 1 + 1, 3, none⟩ = some (.int .i64 (0)) := (blk_cell B8.out 3).trans rfl
    have fq3 := blk_frozen B8.out 3
    go_wp2
    exact bodyPost_ret (v := .agg #[.int .i64 L.x, .int .i64 L.y, .int .i64 L.w, .int .i64 L.h]) (by simp [results, Try.results14, go_sem, q0, fq0, q1, fq1, q2, fq2, q3, fq3]) rfl ⟨rfl, by (repeat (refine below_set ?_ (by omega))); exact qB⟩
  · simp only [Bool.not_eq_true] at c
    have eL : L = z4 := by rw [hL]; unfold resizeP; rw [if_neg (by rw [c]; decide)]
    subst eL
    rw [c] at K1
    replace K1 := Aside0.mk K1
    clear c hL
    go_enter Try.func14, Try.ntmps14
    go_wp2_with fail
    refine (K1.out _).mono ?_
    rintro e w1 ⟨rfl, hb⟩
    have _B4 := Aside0.mk (blk_below (g := W.heap.size) (o := .cells #[.int .i64 r.x, .int .i64 r.y, .int .i64 r.w, .int .i64 r.h] 23 (0, 0)) (by (repeat (first | exact new_at (by simp only [World.size_alloc, World.size_drew]; done) | refine blk_drew ?_ | refine blk_alloc ?_ _))) hb)
    have _B5 := Aside0.mk (blk_below (g := W.heap.size + 1) (o := .cells #[.int .i64 h.minW, .int .i64 h.minH, .int .i64 h.maxW, .int .i64 h.maxH, .int .i64 h.baseW, .int .i64 h.baseH, .int .i64 h.incW, .int .i64 h.incH, .int .i64 h.lowX, .int .i64 h.lowY, .int .i64 h.highX, .int .i64 h.highY] 25 (0, 0)) (by (repeat (first | exact new_at (by simp only [World.size_alloc, World.size_drew]; done) | refine blk_drew ?_ | refine blk_alloc ?_ _))) hb)
    have B8 := Aside0.mk (blk_below (g := W.heap.size + 1 + 1) (o := .cells #[.int .i64 0, .int .i64 0, .int .i64 0, .int .i64 0] 23 (0, 0)) (by (repeat (first | exact new_at (by simp only [World.size_alloc, World.size_drew]; done) | refine blk_drew ?_ | refine blk_alloc ?_ _))) hb)
    have qB := below_step (w := W) (by (repeat (first | exact Below.refl _ _ | apply below_alloc))) hb
    clear hb
    have q0 : w1.cell? ⟨W.heap.size + 1 + 1, 0, none⟩ = some (.int .i64 (0)) := (blk_cell B8.out 0).trans rfl
    have fq0 := blk_frozen B8.out 0
    have q1 : w1.cell? ⟨W.heap.size + 1 + 1, 1, none⟩ = some (.int .i64 (0)) := (blk_cell B8.out 1).trans rfl
    have fq1 := blk_frozen B8.out 1
    have q2 : w1.cell? ⟨W.heap.size + 1 + 1, 2, none⟩ = some (.int .i64 (0)) := (blk_cell B8.out 2).trans rfl
    have fq2 := blk_frozen B8.out 2
    have q3 : w1.cell? ⟨W.heap.size + 1 + 1, 3, none⟩ = some (.int .i64 (0)) := (blk_cell B8.out 3).trans rfl
    have fq3 := blk_frozen B8.out 3
    go_wp2
    exact bodyPost_ret (v := .agg #[.int .i64 0, .int .i64 0, .int .i64 0, .int .i64 0]) (by simp [results, Try.results14, go_sem, q0, fq0, q1, fq1, q2, fq2, q3, fq3]) rfl ⟨rfl, by (repeat (refine below_set ?_ (by omega))); exact qB⟩
def FlZr.T3 : Bool × List (List Nat × List Nat) := (true, [([], []), ([], []), ([1], [1]), ([], []), ([3], [3]), ([2, 4], [2, 4]), ([], []), ([6], [6]), ([], []), ([8, 4], [8]), ([7, 9], [7, 9]), ([0, 5, 10, 9], [0, 5, 10]), ([11], [11]), ([12], [12]), ([12], [12]), ([13, 11, 0, 1, 2, 3, 4, 5, 6, 7, 8, 9, 10, 11, 12, 13], [13]), ([14, 15, 0, 1, 2, 3, 4, 5, 6, 7, 8, 9, 10, 11, 12, 13, 14, 15], [14])])
def FlZr.B3 : List Nat := [0, 0, 2, 0, 8, 30, 0, 64, 0, 280, 984, 2047, 4095, 8191, 8191, 16383, 65535]
theorem FlZr.tab3 : rtab .any (opsOf Try.f15 3) = FlZr.T3 := by kernel_rfl
theorem FlZr.bits3 : waitsOk FlZr.T3.2 FlZr.B3 = true := by kernel_rfl
set_option maxHeartbeats 8000000 in
set_option maxRecDepth 100000 in
theorem c_rResize (r : Rc) (h : Hn) (dw dt : Int) (W : World) : Calls Try.prog 15 #[.agg #[.int .i64 r.x, .int .i64 r.y, .int .i64 r.w, .int .i64 r.h], .agg #[.int .i64 h.minW, .int .i64 h.minH, .int .i64 h.maxW, .int .i64 h.maxH, .int .i64 h.baseW, .int .i64 h.baseH, .int .i64 h.incW, .int .i64 h.incH, .int .i64 h.lowX, .int .i64 h.lowY, .int .i64 h.highX, .int .i64 h.highY], .int .i64 dw, .int .i64 dt] W (RetR (resizeP r h dw dt) W) := by
  unfold RetR
  have K1 := c_rRight r
  obtain ⟨L, hL⟩ : ∃ L, L = resizeP r h dw dt := ⟨_, rfl⟩
  rw [← hL]
  by_cases c : rightB r = true
  · rw [c] at K1
    obtain ⟨s1, hs1⟩ : ∃ s, s = spanP dw (-65535) 65535 := ⟨_, rfl⟩
    obtain ⟨s2, hs2⟩ : ∃ s, s = spanP dt (-65535) 65535 := ⟨_, rfl⟩
    have KA := fun w => c_rspan dw (-65535) 65535 w
    have KB := fun w => c_rspan dt (-65535) 65535 w
    rw [spanI_P, ← hs1] at KA
    rw [spanI_P, ← hs2] at KB
    obtain ⟨x, y, g, e⟩ := fit_good h (r.w + s1) (r.h + s2)
    obtain ⟨g1, g2, g3, g4, _⟩ := g
    have bx := in_bd c
    have KL := c_rLaid r.x r.y x y (by omega) (by omega)
    have eL : L = laidP r.x r.y x y := by
      rw [hL]; unfold resizeP; rw [if_pos c, ← hs1, ← hs2, e]
    rw [← eL] at KL
    have b1 : -65535 ≤ s1 ∧ s1 ≤ 65535 := by rw [hs1]; unfold spanP; omega
    have b2 : -65535 ≤ s2 ∧ s2 ≤ 65535 := by rw [hs2]; unfold spanP; omega
    have KF := c_rfit e
    rw [← wrap64_i (n := r.w + s1) (by omega) (by omega), ← wrap64_i (n := r.h + s2) (by omega) (by omega)] at KF
    have KA' := Aside0.mk (show ∀ w, Calls Try.prog 42 #[.int .i64 dw, .int .i64 (-65535), .int .i64 65535] w fun e w' => e = .returned (.int .i64 s1) ∧ Below w.heap.size w w' from fun w => (KA w).mono fun e w' q => ⟨q.1, q.2 ▸ Below.refl _ _⟩)
    have KB' := Aside0.mk (show ∀ w, Calls Try.prog 42 #[.int .i64 dt, .int .i64 (-65535), .int .i64 65535] w fun e w' => e = .returned (.int .i64 s2) ∧ Below w.heap.size w w' from fun w => (KB w).mono fun e w' q => ⟨q.1, q.2 ▸ Below.refl _ _⟩)
    replace K1 := Aside0.mk K1; replace KL := Aside0.mk KL; replace KF := Aside0.mk KF
    clear KA KB hL hs1 hs2 e g1 g2 g3 g4 eL b1 b2 bx c
    go_enter Try.func15, Try.ntmps15
    go_wp2_with fail
    refine (K1.out _).mono ?_
    rintro e w1 ⟨rfl, hb⟩
    have B4 := Aside0.mk (blk_below (g := W.heap.size) (o := .cells #[.int .i64 r.x, .int .i64 r.y, .int .i64 r.w, .int .i64 r.h] 23 (0, 0)) (by (repeat (first | exact new_at (by simp only [World.size_alloc, World.size_drew]; done) | refine blk_drew ?_ | refine blk_alloc ?_ _))) hb)
    have B5 := Aside0.mk (blk_below (g := W.heap.size + 1) (o := .cells #[.int .i64 h.minW, .int .i64 h.minH, .int .i64 h.maxW, .int .i64 h.maxH, .int .i64 h.baseW, .int .i64 h.baseH, .int .i64 h.incW, .int .i64 h.incH, .int .i64 h.lowX, .int .i64 h.lowY, .int .i64 h.highX, .int .i64 h.highY] 25 (0, 0)) (by (repeat (first | exact new_at (by simp only [World.size_alloc, World.size_drew]; done) | refine blk_drew ?_ | refine blk_alloc ?_ _))) hb)
    have B8 := Aside0.mk (blk_below (g := W.heap.size + 1 + 1) (o := .cells #[.int .i64 0, .int .i64 0, .int .i64 0, .int .i64 0] 23 (0, 0)) (by (repeat (first | exact new_at (by simp only [World.size_alloc, World.size_drew]; done) | refine blk_drew ?_ | refine blk_alloc ?_ _))) hb)
    have qB := below_step (w := W) (by (repeat (first | exact Below.refl _ _ | apply below_alloc))) hb
    clear hb
    have p0 : w1.cell? ⟨W.heap.size, 0, none⟩ = some (.int .i64 (r.x)) := (blk_cell B4.out 0).trans rfl
    have p1 : w1.cell? ⟨W.heap.size, 1, none⟩ = some (.int .i64 (r.y)) := (blk_cell B4.out 1).trans rfl
    have p2 : w1.cell? ⟨W.heap.size, 2, none⟩ = some (.int .i64 (r.w)) := (blk_cell B4.out 2).trans rfl
    have p3 : w1.cell? ⟨W.heap.size, 3, none⟩ = some (.int .i64 (r.h)) := (blk_cell B4.out 3).trans rfl
    have u0 : w1.cell? ⟨W.heap.size + 1, 0, none⟩ = some (.int .i64 (h.minW)) := (blk_cell B5.out 0).trans rfl
    have u1 : w1.cell? ⟨W.heap.size + 1, 1, none⟩ = some (.int .i64 (h.minH)) := (blk_cell B5.out 1).trans rfl
    have u2 : w1.cell? ⟨W.heap.size + 1, 2, none⟩ = some (.int .i64 (h.maxW)) := (blk_cell B5.out 2).trans rfl
    have u3 : w1.cell? ⟨W.heap.size + 1, 3, none⟩ = some (.int .i64 (h.maxH)) := (blk_cell B5.out 3).trans rfl
    have u4 : w1.cell? ⟨W.heap.size + 1, 4, none⟩ = some (.int .i64 (h.baseW)) := (blk_cell B5.out 4).trans rfl
    have u5 : w1.cell? ⟨W.heap.size + 1, 5, none⟩ = some (.int .i64 (h.baseH)) := (blk_cell B5.out 5).trans rfl
    have u6 : w1.cell? ⟨W.heap.size + 1, 6, none⟩ = some (.int .i64 (h.incW)) := (blk_cell B5.out 6).trans rfl
    have u7 : w1.cell? ⟨W.heap.size + 1, 7, none⟩ = some (.int .i64 (h.incH)) := (blk_cell B5.out 7).trans rfl
    have u8 : w1.cell? ⟨W.heap.size + 1, 8, none⟩ = some (.int .i64 (h.lowX)) := (blk_cell B5.out 8).trans rfl
    have u9 : w1.cell? ⟨W.heap.size + 1, 9, none⟩ = some (.int .i64 (h.lowY)) := (blk_cell B5.out 9).trans rfl
    have u10 : w1.cell? ⟨W.heap.size + 1, 10, none⟩ = some (.int .i64 (h.highX)) := (blk_cell B5.out 10).trans rfl
    have u11 : w1.cell? ⟨W.heap.size + 1, 11, none⟩ = some (.int .i64 (h.highY)) := (blk_cell B5.out 11).trans rfl
    clear B4 B5
    go_wp2_with fail
    refine start_ (n := 17) (S := fun w' => w'.cell? ⟨W.heap.size, 0, none⟩ = some (.int .i64 r.x) ∧ w'.cell? ⟨W.heap.size, 1, none⟩ = some (.int .i64 r.y) ∧ w'.cell? ⟨W.heap.size, 2, none⟩ = some (.int .i64 r.w) ∧ w'.cell? ⟨W.heap.size, 3, none⟩ = some (.int .i64 r.h) ∧ w'.cell? ⟨W.heap.size + 1, 0, none⟩ = some (.int .i64 h.minW) ∧ w'.cell? ⟨W.heap.size + 1, 1, none⟩ = some (.int .i64 h.minH) ∧ w'.cell? ⟨W.heap.size + 1, 2, none⟩ = some (.int .i64 h.maxW) ∧ w'.cell? ⟨W.heap.size + 1, 3, none⟩ = some (.int .i64 h.maxH) ∧ w'.cell? ⟨W.heap.size + 1, 4, none⟩ = some (.int .i64 h.baseW) ∧ w'.cell? ⟨W.heap.size + 1, 5, none⟩ = some (.int .i64 h.baseH) ∧ w'.cell? ⟨W.heap.size + 1, 6, none⟩ = some (.int .i64 h.incW) ∧ w'.cell? ⟨W.heap.size + 1, 7, none⟩ = some (.int .i64 h.incH) ∧ w'.cell? ⟨W.heap.size + 1, 8, none⟩ = some (.int .i64 h.lowX) ∧ w'.cell? ⟨W.heap.size + 1, 9, none⟩ = some (.int .i64 h.lowY) ∧ w'.cell? ⟨W.heap.size + 1, 10, none⟩ = some (.int .i64 h.highX) ∧ w'.cell? ⟨W.heap.size + 1, 11, none⟩ = some (.int .i64 h.highY)) (ds := []) #[false, false, false, false, false, false, false, false, false, false, false, false, false, false, false, false, false] (by kernel_rfl) rfl rfl ⟨p0, p1, p2, p3, u0, u1, u2, u3, u4, u5, u6, u7, u8, u9, u10, u11⟩ (fun hHeld => ?_)
    refine with_tabW FlZr.tab3 FlZr.bits3 (fun HT_ HW_ => ?_)
    have qB0 := below_drew qB
    clear qB
    have qB := qB0
    clear qB0
    replace B8 := Aside0.mk (blk_drew B8.out)
    generalize w1.drew = wr at qB hHeld B8 ⊢
    refine take_ (i := 0) (N := some 16) (v := ?_) (a' := ?_) #[true, false, false, false, false, false, false, false, false, false, false, false, false, false, false, false, false] rfl rfl (take_ofW HT_.out HW_.out (by kernel_rfl)) (fun _ _ _ h => h) (Or.inl ⟨by rfl, ?_⟩) hHeld ?_ ?_
    rotate_left
    · rintro w' ⟨s0, s1, s2, s3, s4, s5, s6, s7, s8, s9, s10, s11, s12, s13, s14, s15⟩
      go_simp
      with_reducible rfl
    rotate_left
    · simp only [Act.put, List.setIfInBounds_toArray, List.set_cons_zero, List.set_cons_succ, i64_w, i32_w]
      rfl
    refine pure_ (i := 1) (N := some 17) (v := ?_) (a' := ?_) #[true, true, false, false, false, false, false, false, false, false, false, false, false, false, false, false, false] rfl rfl (any_of HT_.out (by kernel_rfl)) (fun _ _ _ h => h) (Or.inl ⟨by rfl, ?_⟩) ?_ ?_
    rotate_left
    · intro w'
      go_simp
      with_reducible rfl
    rotate_left
    · simp only [Act.put, List.setIfInBounds_toArray, List.set_cons_zero, List.set_cons_succ, i64_w, i32_w]
      rfl
    refine take_ (i := 2) (N := some 18) (v := ?_) (a' := ?_) #[true, true, true, false, false, false, false, false, false, false, false, false, false, false, false, false, false] rfl rfl (take_ofW HT_.out HW_.out (by kernel_rfl)) (fun _ _ _ h => h) (Or.inl ⟨by rfl, ?_⟩) hHeld ?_ ?_
    rotate_left
    · rintro w' ⟨s0, s1, s2, s3, s4, s5, s6, s7, s8, s9, s10, s11, s12, s13, s14, s15⟩
      go_simp
      with_reducible rfl
    rotate_left
    · simp only [Act.put, List.setIfInBounds_toArray, List.set_cons_zero, List.set_cons_succ, i64_w, i32_w]
      rfl
    refine pure_ (i := 3) (N := some 19) (v := ?_) (a' := ?_) #[true, true, true, true, false, false, false, false, false, false, false, false, false, false, false, false, false] rfl rfl (any_of HT_.out (by kernel_rfl)) (fun _ _ _ h => h) (Or.inl ⟨by rfl, ?_⟩) ?_ ?_
    rotate_left
    · intro w'
      go_simp
      with_reducible rfl
    rotate_left
    · simp only [Act.put, List.setIfInBounds_toArray, List.set_cons_zero, List.set_cons_succ, i64_w, i32_w]
      rfl
    refine pure_ (i := 6) (N := some 22) (v := ?_) (a' := ?_) #[true, true, true, true, false, false, true, false, false, false, false, false, false, false, false, false, false] rfl rfl (any_of HT_.out (by kernel_rfl)) (fun _ _ _ h => h) (Or.inl ⟨by rfl, ?_⟩) ?_ ?_
    rotate_left
    · intro w'
      go_simp
      with_reducible rfl
    rotate_left
    · simp only [Act.put, List.setIfInBounds_toArray, List.set_cons_zero, List.set_cons_succ, i64_w, i32_w]
      rfl
    refine take_ (i := 7) (N := some 23) (v := ?_) (a' := ?_) #[true, true, true, true, false, false, true, true, false, false, false, false, false, false, false, false, false] rfl rfl (take_ofW HT_.out HW_.out (by kernel_rfl)) (fun _ _ _ h => h) (Or.inl ⟨by rfl, ?_⟩) hHeld ?_ ?_
    rotate_left
    · rintro w' ⟨s0, s1, s2, s3, s4, s5, s6, s7, s8, s9, s10, s11, s12, s13, s14, s15⟩
      go_simp
      with_reducible rfl
    rotate_left
    · simp only [Act.put, List.setIfInBounds_toArray, List.set_cons_zero, List.set_cons_succ, i64_w, i32_w]
      rfl
    refine pure_ (i := 8) (N := some 24) (v := ?_) (a' := ?_) #[true, true, true, true, false, false, true, true, true, false, false, false, false, false, false, false, false] rfl rfl (any_of HT_.out (by kernel_rfl)) (fun _ _ _ h => h) (Or.inl ⟨by rfl, ?_⟩) ?_ ?_
    rotate_left
    · intro w'
      go_simp
      with_reducible rfl
    rotate_left
    · simp only [Act.put, List.setIfInBounds_toArray, List.set_cons_zero, List.set_cons_succ, i64_w, i32_w]
      rfl
    refine one_ (i := 4) (N := some 20) #[true, true, true, true, true, false, true, true, true, false, false, false, false, false, false, false, false] rfl rfl (one_of HT_.out (by kernel_rfl)) (by decide) (fun K hK => ?_)
    refine goes_ Try.func42 (by kernel_rfl) rfl #[.int .i64 dw, .int .i64 (-65535), .int .i64 65535] (by rfl) rfl rfl (by (try simp only [List.map_toArray, List.map_cons, List.map_nil]); first | done | rfl) ?_
    refine (KA'.out _).mono ?_
    rintro e wn ⟨rfl, hb⟩
    refine ⟨_, rfl, ?_⟩
    obtain ⟨s0, s1, s2, s3, s4, s5, s6, s7, s8, s9, s10, s11, s12, s13, s14, s15⟩ := hHeld
    replace s0 := cell_held hb s0
    replace s1 := cell_held hb s1
    replace s2 := cell_held hb s2
    replace s3 := cell_held hb s3
    replace s4 := cell_held hb s4
    replace s5 := cell_held hb s5
    replace s6 := cell_held hb s6
    replace s7 := cell_held hb s7
    replace s8 := cell_held hb s8
    replace s9 := cell_held hb s9
    replace s10 := cell_held hb s10
    replace s11 := cell_held hb s11
    replace s12 := cell_held hb s12
    replace s13 := cell_held hb s13
    replace s14 := cell_held hb s14
    replace s15 := cell_held hb s15
    replace qB := below_step (w := W) qB hb
    replace B8 := Aside0.mk (blk_below B8.out hb)
    clear hb
    refine hK.out _ _ ⟨s0, s1, s2, s3, s4, s5, s6, s7, s8, s9, s10, s11, s12, s13, s14, s15⟩ (fun hHeld => ?_)
    clear hK K s0 s1 s2 s3 s4 s5 s6 s7 s8 s9 s10 s11 s12 s13 s14 s15
    refine norm_ (a' := ?_) ?_ ?_
    rotate_left
    · show Act.put _ (some 20) _ = _
      simp only [Act.put, List.setIfInBounds_toArray, List.set_cons_zero, List.set_cons_succ, i64_w, i32_w]
      rfl
    refine pure_ (i := 5) (N := some 21) (v := ?_) (a' := ?_) #[true, true, true, true, true, true, true, true, true, false, false, false, false, false, false, false, false] rfl rfl (any_of HT_.out (by kernel_rfl)) (fun _ _ _ h => h) (Or.inl ⟨by rfl, ?_⟩) ?_ ?_
    rotate_left
    · intro w'
      go_simp
      with_reducible rfl
    rotate_left
    · simp only [Act.put, List.setIfInBounds_toArray, List.set_cons_zero, List.set_cons_succ, i64_w, i32_w]
      rfl
    refine one_ (i := 9) (N := some 25) #[true, true, true, true, true, true, true, true, true, true, false, false, false, false, false, false, false] rfl rfl (one_of HT_.out (by kernel_rfl)) (by decide) (fun K hK => ?_)
    refine goes_ Try.func42 (by kernel_rfl) rfl #[.int .i64 dt, .int .i64 (-65535), .int .i64 65535] (by rfl) rfl rfl (by (try simp only [List.map_toArray, List.map_cons, List.map_nil]); first | done | rfl) ?_
    refine (KB'.out _).mono ?_
    rintro e wn ⟨rfl, hb⟩
    refine ⟨_, rfl, ?_⟩
    obtain ⟨s0, s1, s2, s3, s4, s5, s6, s7, s8, s9, s10, s11, s12, s13, s14, s15⟩ := hHeld
    replace s0 := cell_held hb s0
    replace s1 := cell_held hb s1
    replace s2 := cell_held hb s2
    replace s3 := cell_held hb s3
    replace s4 := cell_held hb s4
    replace s5 := cell_held hb s5
    replace s6 := cell_held hb s6
    replace s7 := cell_held hb s7
    replace s8 := cell_held hb s8
    replace s9 := cell_held hb s9
    replace s10 := cell_held hb s10
    replace s11 := cell_held hb s11
    replace s12 := cell_held hb s12
    replace s13 := cell_held hb s13
    replace s14 := cell_held hb s14
    replace s15 := cell_held hb s15
    replace qB := below_step (w := W) qB hb
    replace B8 := Aside0.mk (blk_below B8.out hb)
    clear hb
    refine hK.out _ _ ⟨s0, s1, s2, s3, s4, s5, s6, s7, s8, s9, s10, s11, s12, s13, s14, s15⟩ (fun hHeld => ?_)
    clear hK K s0 s1 s2 s3 s4 s5 s6 s7 s8 s9 s10 s11 s12 s13 s14 s15
    refine norm_ (a' := ?_) ?_ ?_
    rotate_left
    · show Act.put _ (some 25) _ = _
      simp only [Act.put, List.setIfInBounds_toArray, List.set_cons_zero, List.set_cons_succ, i64_w, i32_w]
      rfl
    refine pure_ (i := 10) (N := some 26) (v := ?_) (a' := ?_) #[true, true, true, true, true, true, true, true, true, true, true, false, false, false, false, false, false] rfl rfl (any_of HT_.out (by kernel_rfl)) (fun _ _ _ h => h) (Or.inl ⟨by rfl, ?_⟩) ?_ ?_
    rotate_left
    · intro w'
      go_simp
      with_reducible rfl
    rotate_left
    · simp only [Act.put, List.setIfInBounds_toArray, List.set_cons_zero, List.set_cons_succ, i64_w, i32_w]
      rfl
    refine one_ (i := 11) (N := some 27) #[true, true, true, true, true, true, true, true, true, true, true, true, false, false, false, false, false] rfl rfl (one_of HT_.out (by kernel_rfl)) (by decide) (fun K hK => ?_)
    refine goes_ Try.func31 (by kernel_rfl) rfl #[.agg #[.int .i64 h.minW, .int .i64 h.minH, .int .i64 h.maxW, .int .i64 h.maxH, .int .i64 h.baseW, .int .i64 h.baseH, .int .i64 h.incW, .int .i64 h.incH, .int .i64 h.lowX, .int .i64 h.lowY, .int .i64 h.highX, .int .i64 h.highY], .int .i64 (wrap64 (r.w + s1)), .int .i64 (wrap64 (r.h + s2))] (by rfl) rfl rfl (by (try simp only [List.map_toArray, List.map_cons, List.map_nil]); first | done | rfl) ?_
    refine (KF.out _).mono ?_
    rintro e wn ⟨rfl, hb⟩
    refine ⟨_, rfl, ?_⟩
    obtain ⟨s0, s1, s2, s3, s4, s5, s6, s7, s8, s9, s10, s11, s12, s13, s14, s15⟩ := hHeld
    replace s0 := cell_held hb s0
    replace s1 := cell_held hb s1
    replace s2 := cell_held hb s2
    replace s3 := cell_held hb s3
    replace s4 := cell_held hb s4
    replace s5 := cell_held hb s5
    replace s6 := cell_held hb s6
    replace s7 := cell_held hb s7
    replace s8 := cell_held hb s8
    replace s9 := cell_held hb s9
    replace s10 := cell_held hb s10
    replace s11 := cell_held hb s11
    replace s12 := cell_held hb s12
    replace s13 := cell_held hb s13
    replace s14 := cell_held hb s14
    replace s15 := cell_held hb s15
    replace qB := below_step (w := W) qB hb
    replace B8 := Aside0.mk (blk_below B8.out hb)
    clear hb
    refine hK.out _ _ ⟨s0, s1, s2, s3, s4, s5, s6, s7, s8, s9, s10, s11, s12, s13, s14, s15⟩ (fun hHeld => ?_)
    clear hK K s0 s1 s2 s3 s4 s5 s6 s7 s8 s9 s10 s11 s12 s13 s14 s15
    refine norm_ (a' := ?_) ?_ ?_
    rotate_left
    · show Act.put _ (some 27) _ = _
      simp only [Act.put, List.setIfInBounds_toArray, List.set_cons_zero, List.set_cons_succ, i64_w, i32_w]
      rfl
    refine pure_ (i := 12) (N := some 15) (v := ?_) (a' := ?_) #[true, true, true, true, true, true, true, true, true, true, true, true, true, false, false, false, false] rfl rfl (any_of HT_.out (by kernel_rfl)) (fun _ _ _ h => h) (Or.inl ⟨by rfl, ?_⟩) ?_ ?_
    rotate_left
    · intro w'
      go_simp
      with_reducible rfl
    rotate_left
    · simp only [Act.put, List.setIfInBounds_toArray, List.set_cons_zero, List.set_cons_succ, i64_w, i32_w]
      rfl
    refine pure_ (i := 13) (N := some 28) (v := ?_) (a' := ?_) #[true, true, true, true, true, true, true, true, true, true, true, true, true, true, false, false, false] rfl rfl (any_of HT_.out (by kernel_rfl)) (fun _ _ _ h => h) (Or.inl ⟨by rfl, ?_⟩) ?_ ?_
    rotate_left
    · intro w'
      go_simp
      with_reducible rfl
    rotate_left
    · simp only [Act.put, List.setIfInBounds_toArray, List.set_cons_zero, List.set_cons_succ, i64_w, i32_w]
      rfl
    refine pure_ (i := 14) (N := some 29) (v := ?_) (a' := ?_) #[true, true, true, true, true, true, true, true, true, true, true, true, true, true, true, false, false] rfl rfl (any_of HT_.out (by kernel_rfl)) (fun _ _ _ h => h) (Or.inl ⟨by rfl, ?_⟩) ?_ ?_
    rotate_left
    · intro w'
      go_simp
      with_reducible rfl
    rotate_left
    · simp only [Act.put, List.setIfInBounds_toArray, List.set_cons_zero, List.set_cons_succ, i64_w, i32_w]
      rfl
    refine pure_ (i := 15) (N := some 9) (v := ?_) (a' := ?_) #[true, true, true, true, true, true, true, true, true, true, true, true, true, true, true, true, false] rfl rfl (any_of HT_.out (by kernel_rfl)) (fun _ _ _ h => h) (Or.inl ⟨by rfl, ?_⟩) ?_ ?_
    rotate_left
    · intro w'
      go_simp
      with_reducible rfl
    rotate_left
    · simp only [Act.put, List.setIfInBounds_toArray, List.set_cons_zero, List.set_cons_succ, i64_w, i32_w]
      rfl
    refine pure_ (i := 16) (N := some 10) (v := ?_) (a' := ?_) #[true, true, true, true, true, true, true, true, true, true, true, true, true, true, true, true, true] rfl rfl (any_of HT_.out (by kernel_rfl)) (fun _ _ _ h => h) (Or.inl ⟨by rfl, ?_⟩) ?_ ?_
    rotate_left
    · intro w'
      go_simp
      with_reducible rfl
    rotate_left
    · simp only [Act.put, List.setIfInBounds_toArray, List.set_cons_zero, List.set_cons_succ, i64_w, i32_w]
      rfl
    refine done_ (done_of HT_.out (by kernel_rfl)) ?_
    obtain ⟨v0, v1, v2, v3, v4, v5, v6, v7, v8, v9, v10, v11, v12, v13, v14, v15⟩ := hHeld
    clear v4 v5 v6 v7 v8 v9 v10 v11 v12 v13 v14 v15
    have q0 : wn.cell? ⟨W.heap.size + 1 + 1, 0, none⟩ = some (.int .i64 (0)) := (blk_cell B8.out 0).trans rfl
    have fq0 := blk_frozen B8.out 0
    have q1 : wn.cell? ⟨W.heap.size + 1 + 1, 1, none⟩ = some (.int .i64 (0)) := (blk_cell B8.out 1).trans rfl
    have fq1 := blk_frozen B8.out 1
    have q2 : wn.cell? ⟨W.heap.size + 1 + 1, 2, none⟩ = some (.int .i64 (0)) := (blk_cell B8.out 2).trans rfl
    have fq2 := blk_frozen B8.out 2
    have q3 : wn.cell? ⟨W.heap.size + 1 + 1, 3, none⟩ = some (.int .i64 (0)) := (blk_cell B8.out 3).trans rfl
    have fq3 := blk_frozen B8.out 3
    go_wp2_with fail
    refine (KL.out _).mono ?_
    rintro e w9 ⟨rfl, hb⟩
    replace B8 := Aside0.mk (blk_below B8.out hb)
    replace qB := below_step (w := W) qB hb
    clear hb q0 q1 q2 q3 fq0 fq1 fq2 fq3
    have q0 : w9.cell? ⟨W.heap.size + 1 + 1, 0, none⟩ = some (.int .i64 (0)) := (blk_cell B8.out 0).trans rfl
    have fq0 := blk_frozen B8.out 0
    have q1 : w9.cell? ⟨W.heap.size + 1 + 1, 1, none⟩ = some (.int .i64 (0)) := (blk_cell B8.out 1).trans rfl
    have fq1 := blk_frozen B8.out 1
    have q2 : w9.cell? ⟨W.heap.size + 1 + 1, 2, none⟩ = some (.int .i64 (0)) := (blk_cell B8.out 2).trans rfl
    have fq2 := blk_frozen B8.out 2
    have q3 : w9.cell? ⟨W.heap.size + 1 + 1, 3, none⟩ = some (.int .i64 (0)) := (blk_cell B8.out 3).trans rfl
    have fq3 := blk_frozen B8.out 3
    go_wp2
    exact bodyPost_ret (v := .agg #[.int .i64 L.x, .int .i64 L.y, .int .i64 L.w, .int .i64 L.h]) (by simp [results, Try.results15, go_sem, q0, fq0, q1, fq1, q2, fq2, q3, fq3]) rfl ⟨rfl, by (repeat (refine below_set ?_ (by omega))); exact qB⟩
  · simp only [Bool.not_eq_true] at c
    have eL : L = z4 := by rw [hL]; unfold resizeP; rw [if_neg (by rw [c]; decide)]
    subst eL
    rw [c] at K1
    replace K1 := Aside0.mk K1
    clear c hL
    go_enter Try.func15, Try.ntmps15
    go_wp2_with fail
    refine (K1.out _).mono ?_
    rintro e w1 ⟨rfl, hb⟩
    have _B4 := Aside0.mk (blk_below (g := W.heap.size) (o := .cells #[.int .i64 r.x, .int .i64 r.y, .int .i64 r.w, .int .i64 r.h] 23 (0, 0)) (by (repeat (first | exact new_at (by simp only [World.size_alloc, World.size_drew]; done) | refine blk_drew ?_ | refine blk_alloc ?_ _))) hb)
    have _B5 := Aside0.mk (blk_below (g := W.heap.size + 1) (o := .cells #[.int .i64 h.minW, .int .i64 h.minH, .int .i64 h.maxW, .int .i64 h.maxH, .int .i64 h.baseW, .int .i64 h.baseH, .int .i64 h.incW, .int .i64 h.incH, .int .i64 h.lowX, .int .i64 h.lowY, .int .i64 h.highX, .int .i64 h.highY] 25 (0, 0)) (by (repeat (first | exact new_at (by simp only [World.size_alloc, World.size_drew]; done) | refine blk_drew ?_ | refine blk_alloc ?_ _))) hb)
    have B8 := Aside0.mk (blk_below (g := W.heap.size + 1 + 1) (o := .cells #[.int .i64 0, .int .i64 0, .int .i64 0, .int .i64 0] 23 (0, 0)) (by (repeat (first | exact new_at (by simp only [World.size_alloc, World.size_drew]; done) | refine blk_drew ?_ | refine blk_alloc ?_ _))) hb)
    have qB := below_step (w := W) (by (repeat (first | exact Below.refl _ _ | apply below_alloc))) hb
    clear hb
    have q0 : w1.cell? ⟨W.heap.size + 1 + 1, 0, none⟩ = some (.int .i64 (0)) := (blk_cell B8.out 0).trans rfl
    have fq0 := blk_frozen B8.out 0
    have q1 : w1.cell? ⟨W.heap.size + 1 + 1, 1, none⟩ = some (.int .i64 (0)) := (blk_cell B8.out 1).trans rfl
    have fq1 := blk_frozen B8.out 1
    have q2 : w1.cell? ⟨W.heap.size + 1 + 1, 2, none⟩ = some (.int .i64 (0)) := (blk_cell B8.out 2).trans rfl
    have fq2 := blk_frozen B8.out 2
    have q3 : w1.cell? ⟨W.heap.size + 1 + 1, 3, none⟩ = some (.int .i64 (0)) := (blk_cell B8.out 3).trans rfl
    have fq3 := blk_frozen B8.out 3
    go_wp2
    exact bodyPost_ret (v := .agg #[.int .i64 0, .int .i64 0, .int .i64 0, .int .i64 0]) (by simp [results, Try.results15, go_sem, q0, fq0, q1, fq1, q2, fq2, q3, fq3]) rfl ⟨rfl, by (repeat (refine below_set ?_ (by omega))); exact qB⟩
def FlZl.T1 : Bool × List (List Nat × List Nat) := (true, [([], []), ([], []), ([], []), ([], []), ([0, 1, 2, 3], [0, 1, 2, 3]), ([], []), ([], []), ([], []), ([], []), ([5, 6, 7, 8, 4], [5, 6, 7, 8]), ([4, 9], [4, 9]), ([10, 9], [10]), ([11, 11], [11]), ([11, 12], [11, 12]), ([13, 12, 0, 1, 2, 3, 4, 5, 6, 7, 8, 9, 10, 11, 12, 13], [13])])
def FlZl.B1 : List Nat := [0, 0, 0, 0, 15, 0, 0, 0, 0, 511, 1023, 2047, 4095, 8191, 16383]
theorem FlZl.tab1 : rtab .any (opsOf Try.f5 1) = FlZl.T1 := by kernel_rfl
theorem FlZl.bits1 : waitsOk FlZl.T1.2 FlZl.B1 = true := by kernel_rfl
set_option maxHeartbeats 8000000 in
set_option maxRecDepth 100000 in
theorem sizes_any (r : Rc) (h : Hn) (dw dt : Int) (W : World) : Calls Try.prog 5 #[.agg #[.int .i64 r.x, .int .i64 r.y, .int .i64 r.w, .int .i64 r.h], .agg #[.int .i64 h.minW, .int .i64 h.minH, .int .i64 h.maxW, .int .i64 h.maxH, .int .i64 h.baseW, .int .i64 h.baseH, .int .i64 h.incW, .int .i64 h.incH, .int .i64 h.lowX, .int .i64 h.lowY, .int .i64 h.highX, .int .i64 h.highY], .int .i64 dw, .int .i64 dt] W fun e w' => e = .returned (.bool true) ∧ Below W.heap.size W w' := by
  have K1 := c_resize r h dw dt
  have K2 := c_rResize r h dw dt
  obtain ⟨L, hL⟩ : ∃ L, L = resizeP r h dw dt := ⟨_, rfl⟩
  rw [← hL] at K1 K2
  replace K1 := Aside0.mk K1; replace K2 := Aside0.mk K2
  clear hL
  go_enter Try.func5, Try.ntmps5
  go_wp2_with fail
  have qB := below_alloc (below_alloc (Below.refl W.heap.size W) (.cells #[.int .i64 r.x, .int .i64 r.y, .int .i64 r.w, .int .i64 r.h] 23 (0, 0))) (.cells #[.int .i64 h.minW, .int .i64 h.minH, .int .i64 h.maxW, .int .i64 h.maxH, .int .i64 h.baseW, .int .i64 h.baseH, .int .i64 h.incW, .int .i64 h.incH, .int .i64 h.lowX, .int .i64 h.lowY, .int .i64 h.highX, .int .i64 h.highY] 25 (0, 0))
  have B4 := Aside0.mk (show ((W.alloc (.cells #[.int .i64 r.x, .int .i64 r.y, .int .i64 r.w, .int .i64 r.h] 23 (0, 0))).alloc (.cells #[.int .i64 h.minW, .int .i64 h.minH, .int .i64 h.maxW, .int .i64 h.maxH, .int .i64 h.baseW, .int .i64 h.baseH, .int .i64 h.incW, .int .i64 h.incH, .int .i64 h.lowX, .int .i64 h.lowY, .int .i64 h.highX, .int .i64 h.highY] 25 (0, 0))).heap[W.heap.size]? = some (.cells #[.int .i64 r.x, .int .i64 r.y, .int .i64 r.w, .int .i64 r.h] 23 (0, 0)) from (by (repeat (first | exact new_at (by simp only [World.size_alloc, World.size_drew]; done) | refine blk_drew ?_ | refine blk_alloc ?_ _))))
  have B5 := Aside0.mk (show ((W.alloc (.cells #[.int .i64 r.x, .int .i64 r.y, .int .i64 r.w, .int .i64 r.h] 23 (0, 0))).alloc (.cells #[.int .i64 h.minW, .int .i64 h.minH, .int .i64 h.maxW, .int .i64 h.maxH, .int .i64 h.baseW, .int .i64 h.baseH, .int .i64 h.incW, .int .i64 h.incH, .int .i64 h.lowX, .int .i64 h.lowY, .int .i64 h.highX, .int .i64 h.highY] 25 (0, 0))).heap[W.heap.size + 1]? = some (.cells #[.int .i64 h.minW, .int .i64 h.minH, .int .i64 h.maxW, .int .i64 h.maxH, .int .i64 h.baseW, .int .i64 h.baseH, .int .i64 h.incW, .int .i64 h.incH, .int .i64 h.lowX, .int .i64 h.lowY, .int .i64 h.highX, .int .i64 h.highY] 25 (0, 0)) from (by (repeat (first | exact new_at (by simp only [World.size_alloc, World.size_drew]; done) | refine blk_drew ?_ | refine blk_alloc ?_ _))))
  generalize hw2 : (W.alloc (.cells #[.int .i64 r.x, .int .i64 r.y, .int .i64 r.w, .int .i64 r.h] 23 (0, 0))).alloc (.cells #[.int .i64 h.minW, .int .i64 h.minH, .int .i64 h.maxW, .int .i64 h.maxH, .int .i64 h.baseW, .int .i64 h.baseH, .int .i64 h.incW, .int .i64 h.incH, .int .i64 h.lowX, .int .i64 h.lowY, .int .i64 h.highX, .int .i64 h.highY] 25 (0, 0)) = w2 at qB B4 B5 ⊢
  have p0 : w2.cell? ⟨W.heap.size, 0, none⟩ = some (.int .i64 (r.x)) := (blk_cell B4.out 0).trans rfl
  have p1 : w2.cell? ⟨W.heap.size, 1, none⟩ = some (.int .i64 (r.y)) := (blk_cell B4.out 1).trans rfl
  have p2 : w2.cell? ⟨W.heap.size, 2, none⟩ = some (.int .i64 (r.w)) := (blk_cell B4.out 2).trans rfl
  have p3 : w2.cell? ⟨W.heap.size, 3, none⟩ = some (.int .i64 (r.h)) := (blk_cell B4.out 3).trans rfl
  have u0 : w2.cell? ⟨W.heap.size + 1, 0, none⟩ = some (.int .i64 (h.minW)) := (blk_cell B5.out 0).trans rfl
  have u1 : w2.cell? ⟨W.heap.size + 1, 1, none⟩ = some (.int .i64 (h.minH)) := (blk_cell B5.out 1).trans rfl
  have u2 : w2.cell? ⟨W.heap.size + 1, 2, none⟩ = some (.int .i64 (h.maxW)) := (blk_cell B5.out 2).trans rfl
  have u3 : w2.cell? ⟨W.heap.size + 1, 3, none⟩ = some (.int .i64 (h.maxH)) := (blk_cell B5.out 3).trans rfl
  have u4 : w2.cell? ⟨W.heap.size + 1, 4, none⟩ = some (.int .i64 (h.baseW)) := (blk_cell B5.out 4).trans rfl
  have u5 : w2.cell? ⟨W.heap.size + 1, 5, none⟩ = some (.int .i64 (h.baseH)) := (blk_cell B5.out 5).trans rfl
  have u6 : w2.cell? ⟨W.heap.size + 1, 6, none⟩ = some (.int .i64 (h.incW)) := (blk_cell B5.out 6).trans rfl
  have u7 : w2.cell? ⟨W.heap.size + 1, 7, none⟩ = some (.int .i64 (h.incH)) := (blk_cell B5.out 7).trans rfl
  have u8 : w2.cell? ⟨W.heap.size + 1, 8, none⟩ = some (.int .i64 (h.lowX)) := (blk_cell B5.out 8).trans rfl
  have u9 : w2.cell? ⟨W.heap.size + 1, 9, none⟩ = some (.int .i64 (h.lowY)) := (blk_cell B5.out 9).trans rfl
  have u10 : w2.cell? ⟨W.heap.size + 1, 10, none⟩ = some (.int .i64 (h.highX)) := (blk_cell B5.out 10).trans rfl
  have u11 : w2.cell? ⟨W.heap.size + 1, 11, none⟩ = some (.int .i64 (h.highY)) := (blk_cell B5.out 11).trans rfl
  clear B4 B5 hw2
  refine start_ (n := 15) (S := fun w' => w'.cell? ⟨W.heap.size, 0, none⟩ = some (.int .i64 r.x) ∧ w'.cell? ⟨W.heap.size, 1, none⟩ = some (.int .i64 r.y) ∧ w'.cell? ⟨W.heap.size, 2, none⟩ = some (.int .i64 r.w) ∧ w'.cell? ⟨W.heap.size, 3, none⟩ = some (.int .i64 r.h) ∧ w'.cell? ⟨W.heap.size + 1, 0, none⟩ = some (.int .i64 h.minW) ∧ w'.cell? ⟨W.heap.size + 1, 1, none⟩ = some (.int .i64 h.minH) ∧ w'.cell? ⟨W.heap.size + 1, 2, none⟩ = some (.int .i64 h.maxW) ∧ w'.cell? ⟨W.heap.size + 1, 3, none⟩ = some (.int .i64 h.maxH) ∧ w'.cell? ⟨W.heap.size + 1, 4, none⟩ = some (.int .i64 h.baseW) ∧ w'.cell? ⟨W.heap.size + 1, 5, none⟩ = some (.int .i64 h.baseH) ∧ w'.cell? ⟨W.heap.size + 1, 6, none⟩ = some (.int .i64 h.incW) ∧ w'.cell? ⟨W.heap.size + 1, 7, none⟩ = some (.int .i64 h.incH) ∧ w'.cell? ⟨W.heap.size + 1, 8, none⟩ = some (.int .i64 h.lowX) ∧ w'.cell? ⟨W.heap.size + 1, 9, none⟩ = some (.int .i64 h.lowY) ∧ w'.cell? ⟨W.heap.size + 1, 10, none⟩ = some (.int .i64 h.highX) ∧ w'.cell? ⟨W.heap.size + 1, 11, none⟩ = some (.int .i64 h.highY)) (ds := []) #[false, false, false, false, false, false, false, false, false, false, false, false, false, false, false] (by kernel_rfl) rfl rfl ⟨p0, p1, p2, p3, u0, u1, u2, u3, u4, u5, u6, u7, u8, u9, u10, u11⟩ (fun hHeld => ?_)
  refine with_tabW FlZl.tab1 FlZl.bits1 (fun HT_ HW_ => ?_)
  have qB0 := below_drew qB
  clear qB
  have qB := qB0
  clear qB0
  generalize w2.drew = wr at qB hHeld ⊢
  refine take_ (i := 0) (N := some 9) (v := ?_) (a' := ?_) #[true, false, false, false, false, false, false, false, false, false, false, false, false, false, false] rfl rfl (take_ofW HT_.out HW_.out (by kernel_rfl)) (fun _ _ _ h => h) (Or.inl ⟨by rfl, ?_⟩) hHeld ?_ ?_
  rotate_left
  · rintro w' ⟨s0, s1, s2, s3, s4, s5, s6, s7, s8, s9, s10, s11, s12, s13, s14, s15⟩
    go_simp
    with_reducible rfl
  rotate_left
  · simp only [Act.put, List.setIfInBounds_toArray, List.set_cons_zero, List.set_cons_succ, i64_w, i32_w]
    rfl
  refine take_ (i := 1) (N := some 10) (v := ?_) (a' := ?_) #[true, true, false, false, false, false, false, false, false, false, false, false, false, false, false] rfl rfl (take_ofW HT_.out HW_.out (by kernel_rfl)) (fun _ _ _ h => h) (Or.inl ⟨by rfl, ?_⟩) hHeld ?_ ?_
  rotate_left
  · rintro w' ⟨s0, s1, s2, s3, s4, s5, s6, s7, s8, s9, s10, s11, s12, s13, s14, s15⟩
    go_simp
    with_reducible rfl
  rotate_left
  · simp only [Act.put, List.setIfInBounds_toArray, List.set_cons_zero, List.set_cons_succ, i64_w, i32_w]
    rfl
  refine pure_ (i := 2) (N := some 11) (v := ?_) (a' := ?_) #[true, true, true, false, false, false, false, false, false, false, false, false, false, false, false] rfl rfl (any_of HT_.out (by kernel_rfl)) (fun _ _ _ h => h) (Or.inl ⟨by rfl, ?_⟩) ?_ ?_
  rotate_left
  · intro w'
    go_simp
    with_reducible rfl
  rotate_left
  · simp only [Act.put, List.setIfInBounds_toArray, List.set_cons_zero, List.set_cons_succ, i64_w, i32_w]
    rfl
  refine pure_ (i := 3) (N := some 12) (v := ?_) (a' := ?_) #[true, true, true, true, false, false, false, false, false, false, false, false, false, false, false] rfl rfl (any_of HT_.out (by kernel_rfl)) (fun _ _ _ h => h) (Or.inl ⟨by rfl, ?_⟩) ?_ ?_
  rotate_left
  · intro w'
    go_simp
    with_reducible rfl
  rotate_left
  · simp only [Act.put, List.setIfInBounds_toArray, List.set_cons_zero, List.set_cons_succ, i64_w, i32_w]
    rfl
  refine take_ (i := 5) (N := some 14) (v := ?_) (a' := ?_) #[true, true, true, true, false, true, false, false, false, false, false, false, false, false, false] rfl rfl (take_ofW HT_.out HW_.out (by kernel_rfl)) (fun _ _ _ h => h) (Or.inl ⟨by rfl, ?_⟩) hHeld ?_ ?_
  rotate_left
  · rintro w' ⟨s0, s1, s2, s3, s4, s5, s6, s7, s8, s9, s10, s11, s12, s13, s14, s15⟩
    go_simp
    with_reducible rfl
  rotate_left
  · simp only [Act.put, List.setIfInBounds_toArray, List.set_cons_zero, List.set_cons_succ, i64_w, i32_w]
    rfl
  refine take_ (i := 6) (N := some 15) (v := ?_) (a' := ?_) #[true, true, true, true, false, true, true, false, false, false, false, false, false, false, false] rfl rfl (take_ofW HT_.out HW_.out (by kernel_rfl)) (fun _ _ _ h => h) (Or.inl ⟨by rfl, ?_⟩) hHeld ?_ ?_
  rotate_left
  · rintro w' ⟨s0, s1, s2, s3, s4, s5, s6, s7, s8, s9, s10, s11, s12, s13, s14, s15⟩
    go_simp
    with_reducible rfl
  rotate_left
  · simp only [Act.put, List.setIfInBounds_toArray, List.set_cons_zero, List.set_cons_succ, i64_w, i32_w]
    rfl
  refine pure_ (i := 7) (N := some 16) (v := ?_) (a' := ?_) #[true, true, true, true, false, true, true, true, false, false, false, false, false, false, false] rfl rfl (any_of HT_.out (by kernel_rfl)) (fun _ _ _ h => h) (Or.inl ⟨by rfl, ?_⟩) ?_ ?_
  rotate_left
  · intro w'
    go_simp
    with_reducible rfl
  rotate_left
  · simp only [Act.put, List.setIfInBounds_toArray, List.set_cons_zero, List.set_cons_succ, i64_w, i32_w]
    rfl
  refine pure_ (i := 8) (N := some 17) (v := ?_) (a' := ?_) #[true, true, true, true, false, true, true, true, true, false, false, false, false, false, false] rfl rfl (any_of HT_.out (by kernel_rfl)) (fun _ _ _ h => h) (Or.inl ⟨by rfl, ?_⟩) ?_ ?_
  rotate_left
  · intro w'
    go_simp
    with_reducible rfl
  rotate_left
  · simp only [Act.put, List.setIfInBounds_toArray, List.set_cons_zero, List.set_cons_succ, i64_w, i32_w]
    rfl
  refine one_ (i := 4) (N := some 13) #[true, true, true, true, true, true, true, true, true, false, false, false, false, false, false] rfl rfl (one_of HT_.out (by kernel_rfl)) (by decide) (fun K hK => ?_)
  refine goes_ Try.func14 (by kernel_rfl) rfl #[.agg #[.int .i64 r.x, .int .i64 r.y, .int .i64 r.w, .int .i64 r.h], .agg #[.int .i64 h.minW, .int .i64 h.minH, .int .i64 h.maxW, .int .i64 h.maxH, .int .i64 h.baseW, .int .i64 h.baseH, .int .i64 h.incW, .int .i64 h.incH, .int .i64 h.lowX, .int .i64 h.lowY, .int .i64 h.highX, .int .i64 h.highY], .int .i64 dw, .int .i64 dt] (by rfl) rfl rfl (by (try simp only [List.map_toArray, List.map_cons, List.map_nil]); first | done | rfl) ?_
  refine (K1.out _).mono ?_
  rintro e wn ⟨rfl, hb⟩
  refine ⟨_, rfl, ?_⟩
  obtain ⟨s0, s1, s2, s3, s4, s5, s6, s7, s8, s9, s10, s11, s12, s13, s14, s15⟩ := hHeld
  replace s0 := cell_held hb s0
  replace s1 := cell_held hb s1
  replace s2 := cell_held hb s2
  replace s3 := cell_held hb s3
  replace s4 := cell_held hb s4
  replace s5 := cell_held hb s5
  replace s6 := cell_held hb s6
  replace s7 := cell_held hb s7
  replace s8 := cell_held hb s8
  replace s9 := cell_held hb s9
  replace s10 := cell_held hb s10
  replace s11 := cell_held hb s11
  replace s12 := cell_held hb s12
  replace s13 := cell_held hb s13
  replace s14 := cell_held hb s14
  replace s15 := cell_held hb s15
  replace qB := below_step (w := W) qB hb
  clear hb
  refine hK.out _ _ ⟨s0, s1, s2, s3, s4, s5, s6, s7, s8, s9, s10, s11, s12, s13, s14, s15⟩ (fun hHeld => ?_)
  clear hK K s0 s1 s2 s3 s4 s5 s6 s7 s8 s9 s10 s11 s12 s13 s14 s15
  refine norm_ (a' := ?_) ?_ ?_
  rotate_left
  · show Act.put _ (some 13) _ = _
    simp only [Act.put, List.setIfInBounds_toArray, List.set_cons_zero, List.set_cons_succ, i64_w, i32_w]
    rfl
  refine one_ (i := 9) (N := some 18) #[true, true, true, true, true, true, true, true, true, true, false, false, false, false, false] rfl rfl (one_of HT_.out (by kernel_rfl)) (by decide) (fun K hK => ?_)
  refine goes_ Try.func15 (by kernel_rfl) rfl #[.agg #[.int .i64 r.x, .int .i64 r.y, .int .i64 r.w, .int .i64 r.h], .agg #[.int .i64 h.minW, .int .i64 h.minH, .int .i64 h.maxW, .int .i64 h.maxH, .int .i64 h.baseW, .int .i64 h.baseH, .int .i64 h.incW, .int .i64 h.incH, .int .i64 h.lowX, .int .i64 h.lowY, .int .i64 h.highX, .int .i64 h.highY], .int .i64 dw, .int .i64 dt] (by rfl) rfl rfl (by (try simp only [List.map_toArray, List.map_cons, List.map_nil]); first | done | rfl) ?_
  refine (K2.out _).mono ?_
  rintro e wn ⟨rfl, hb⟩
  refine ⟨_, rfl, ?_⟩
  obtain ⟨s0, s1, s2, s3, s4, s5, s6, s7, s8, s9, s10, s11, s12, s13, s14, s15⟩ := hHeld
  replace s0 := cell_held hb s0
  replace s1 := cell_held hb s1
  replace s2 := cell_held hb s2
  replace s3 := cell_held hb s3
  replace s4 := cell_held hb s4
  replace s5 := cell_held hb s5
  replace s6 := cell_held hb s6
  replace s7 := cell_held hb s7
  replace s8 := cell_held hb s8
  replace s9 := cell_held hb s9
  replace s10 := cell_held hb s10
  replace s11 := cell_held hb s11
  replace s12 := cell_held hb s12
  replace s13 := cell_held hb s13
  replace s14 := cell_held hb s14
  replace s15 := cell_held hb s15
  replace qB := below_step (w := W) qB hb
  clear hb
  refine hK.out _ _ ⟨s0, s1, s2, s3, s4, s5, s6, s7, s8, s9, s10, s11, s12, s13, s14, s15⟩ (fun hHeld => ?_)
  clear hK K s0 s1 s2 s3 s4 s5 s6 s7 s8 s9 s10 s11 s12 s13 s14 s15
  refine norm_ (a' := ?_) ?_ ?_
  rotate_left
  · show Act.put _ (some 18) _ = _
    simp only [Act.put, List.setIfInBounds_toArray, List.set_cons_zero, List.set_cons_succ, i64_w, i32_w]
    rfl
  refine pure_ (i := 10) (N := some 19) (v := ?_) (a' := ?_) #[true, true, true, true, true, true, true, true, true, true, true, false, false, false, false] rfl rfl (any_of HT_.out (by kernel_rfl)) (fun _ _ _ h => h) (Or.inl ⟨by rfl, ?_⟩) ?_ ?_
  rotate_left
  · intro w'
    go_simp
    with_reducible rfl
  rotate_left
  · simp only [Act.put, List.setIfInBounds_toArray, List.set_cons_zero, List.set_cons_succ, i64_w, i32_w]
    rfl
  refine pure_ (i := 11) (N := some 20) (v := ?_) (a' := ?_) #[true, true, true, true, true, true, true, true, true, true, true, true, false, false, false] rfl rfl (any_of HT_.out (by kernel_rfl)) (fun _ _ _ h => h) (Or.inl ⟨by rfl, ?_⟩) ?_ ?_
  rotate_left
  · intro w'
    go_simp
    with_reducible rfl
  rotate_left
  · simp only [Act.put, List.setIfInBounds_toArray, List.set_cons_zero, List.set_cons_succ, i64_w, i32_w]
    rfl
  refine one_ (i := 12) (N := some 21) #[true, true, true, true, true, true, true, true, true, true, true, true, true, false, false] rfl rfl (one_of HT_.out (by kernel_rfl)) (by decide) (fun K hK => ?_)
  refine goes_ Try.func11 (by kernel_rfl) rfl #[] (by rfl) rfl rfl (by (try simp only [List.map_toArray, List.map_cons, List.map_nil]); first | done | rfl) ?_
  refine (c_awake _).mono ?_
  rintro e wn ⟨rfl, hb⟩
  refine ⟨_, rfl, ?_⟩
  obtain ⟨s0, s1, s2, s3, s4, s5, s6, s7, s8, s9, s10, s11, s12, s13, s14, s15⟩ := hHeld
  replace s0 := cell_held hb s0
  replace s1 := cell_held hb s1
  replace s2 := cell_held hb s2
  replace s3 := cell_held hb s3
  replace s4 := cell_held hb s4
  replace s5 := cell_held hb s5
  replace s6 := cell_held hb s6
  replace s7 := cell_held hb s7
  replace s8 := cell_held hb s8
  replace s9 := cell_held hb s9
  replace s10 := cell_held hb s10
  replace s11 := cell_held hb s11
  replace s12 := cell_held hb s12
  replace s13 := cell_held hb s13
  replace s14 := cell_held hb s14
  replace s15 := cell_held hb s15
  replace qB := below_step (w := W) qB hb
  clear hb
  refine hK.out _ _ ⟨s0, s1, s2, s3, s4, s5, s6, s7, s8, s9, s10, s11, s12, s13, s14, s15⟩ (fun hHeld => ?_)
  clear hK K s0 s1 s2 s3 s4 s5 s6 s7 s8 s9 s10 s11 s12 s13 s14 s15
  refine norm_ (a' := ?_) ?_ ?_
  rotate_left
  · show Act.put _ (some 21) _ = _
    simp only [Act.put, List.setIfInBounds_toArray, List.set_cons_zero, List.set_cons_succ, i64_w, i32_w]
    rfl
  refine pure_ (i := 13) (N := some 22) (v := ?_) (a' := ?_) #[true, true, true, true, true, true, true, true, true, true, true, true, true, true, false] rfl rfl (any_of HT_.out (by kernel_rfl)) (fun _ _ _ h => h) (Or.inl ⟨by rfl, ?_⟩) ?_ ?_
  rotate_left
  · intro w'
    go_simp
    with_reducible rfl
  rotate_left
  · simp only [Act.put, List.setIfInBounds_toArray, List.set_cons_zero, List.set_cons_succ, i64_w, i32_w]
    rfl
  refine pure_ (i := 14) (N := some 8) (v := ?_) (a' := ?_) #[true, true, true, true, true, true, true, true, true, true, true, true, true, true, true] rfl rfl (any_of HT_.out (by kernel_rfl)) (fun _ _ _ h => h) (Or.inl ⟨by rfl, ?_⟩) ?_ ?_
  rotate_left
  · intro w'
    go_simp
    with_reducible rfl
  rotate_left
  · simp only [Act.put, List.setIfInBounds_toArray, List.set_cons_zero, List.set_cons_succ, i64_w, i32_w]
    rfl
  refine done_ (done_of HT_.out (by kernel_rfl)) ?_
  go_wp2
  go_ret
  exact ⟨rfl, qB⟩
theorem FloatSizes_law (a0_0 : Int) (a0_1 : Int) (a0_2 : Int) (a0_3 : Int) (a1_0 : Int) (a1_1 : Int) (a1_2 : Int) (a1_3 : Int) (a1_4 : Int) (a1_5 : Int) (a1_6 : Int) (a1_7 : Int) (a1_8 : Int) (a1_9 : Int) (a1_10 : Int) (a1_11 : Int) (a2 : Int) (a3 : Int) (W : World) (w0_0 : (Lit.int .i64 a0_0).wf = true) (w0_1 : (Lit.int .i64 a0_1).wf = true) (w0_2 : (Lit.int .i64 a0_2).wf = true) (w0_3 : (Lit.int .i64 a0_3).wf = true) (w1_0 : (Lit.int .i64 a1_0).wf = true) (w1_1 : (Lit.int .i64 a1_1).wf = true) (w1_2 : (Lit.int .i64 a1_2).wf = true) (w1_3 : (Lit.int .i64 a1_3).wf = true) (w1_4 : (Lit.int .i64 a1_4).wf = true) (w1_5 : (Lit.int .i64 a1_5).wf = true) (w1_6 : (Lit.int .i64 a1_6).wf = true) (w1_7 : (Lit.int .i64 a1_7).wf = true) (w1_8 : (Lit.int .i64 a1_8).wf = true) (w1_9 : (Lit.int .i64 a1_9).wf = true) (w1_10 : (Lit.int .i64 a1_10).wf = true) (w1_11 : (Lit.int .i64 a1_11).wf = true) (w2 : (Lit.int .i64 a2).wf = true) (w3 : (Lit.int .i64 a3).wf = true) :
    Calls Try.prog 5 #[.agg #[.int .i64 a0_0, .int .i64 a0_1, .int .i64 a0_2, .int .i64 a0_3], .agg #[.int .i64 a1_0, .int .i64 a1_1, .int .i64 a1_2, .int .i64 a1_3, .int .i64 a1_4, .int .i64 a1_5, .int .i64 a1_6, .int .i64 a1_7, .int .i64 a1_8, .int .i64 a1_9, .int .i64 a1_10, .int .i64 a1_11], .int .i64 a2, .int .i64 a3] W fun e w' => e = .returned (.bool true) ∧ Below W.heap.size W w' :=
  sizes_any ⟨a0_0, a0_1, a0_2, a0_3⟩ ⟨a1_0, a1_1, a1_2, a1_3, a1_4, a1_5, a1_6, a1_7, a1_8, a1_9, a1_10, a1_11⟩ a2 a3 W
set_option maxHeartbeats 8000000 in
set_option maxRecDepth 100000 in
theorem good_any (o k : Rc) (h : Hn) (w t : Int) (W : World) : Calls Try.prog 6 #[.agg #[.int .i64 o.x, .int .i64 o.y, .int .i64 o.w, .int .i64 o.h], .agg #[.int .i64 k.x, .int .i64 k.y, .int .i64 k.w, .int .i64 k.h], .agg #[.int .i64 h.minW, .int .i64 h.minH, .int .i64 h.maxW, .int .i64 h.maxH, .int .i64 h.baseW, .int .i64 h.baseH, .int .i64 h.incW, .int .i64 h.incH, .int .i64 h.lowX, .int .i64 h.lowY, .int .i64 h.highX, .int .i64 h.highY], .int .i64 w, .int .i64 t] W fun e w' => e = .returned (.bool true) ∧ Below W.heap.size W w' := by
  have KN := c_rnormal h
  have KS := c_start o k h w t
  obtain ⟨ax, ay, ga, ra, wa, ha⟩ := start_dim o k h w t
  obtain ⟨a, haa⟩ : ∃ a, a = startP o k h w t := ⟨_, rfl⟩
  rw [← haa] at KS ra wa ha
  have KR := c_resize o h w t
  have rb := fun c => resize_dim (r := o) c h w t
  obtain ⟨b, hbb⟩ : ∃ b, b = resizeP o h w t := ⟨_, rfl⟩
  rw [← hbb] at KR
  simp only [← hbb] at rb
  have KGa := c_rgood (normal_nrm h) a.w a.h
  rw [goodB_true.2 (by rw [wa, ha]; exact ga)] at KGa
  have KRa := c_gRight a
  rw [ra] at KRa
  obtain ⟨N, hN⟩ : ∃ n, n = normal h := ⟨_, rfl⟩
  have KGb := c_rgood (normal_nrm h) b.w b.h
  rw [← hN] at KN KGa KGb
  have KO := c_gRight o
  have KRb := c_gRight b
  obtain ⟨bo, hbo⟩ : ∃ q, rightB o = q := ⟨_, rfl⟩
  have hb2 : bo = true → goodB N b.w b.h = true ∧ rightB b = true := fun q => by
    obtain ⟨x, y, g, r1, r2, r3⟩ := rb (hbo.trans q)
    exact ⟨by rw [hN, r2, r3]; exact goodB_true.2 g, r1⟩
  rw [hbo] at KO
  have KB : bo = false ∨ ((∀ w, Calls Try.prog 17 #[.agg #[.int .i64 N.minW, .int .i64 N.minH, .int .i64 N.maxW, .int .i64 N.maxH, .int .i64 N.baseW, .int .i64 N.baseH, .int .i64 N.incW, .int .i64 N.incH, .int .i64 N.lowX, .int .i64 N.lowY, .int .i64 N.highX, .int .i64 N.highY], .int .i64 b.w, .int .i64 b.h] w fun e w' => e = .returned (.bool true) ∧ Below w.heap.size w w') ∧ (∀ w, Calls Try.prog 18 #[.agg #[.int .i64 b.x, .int .i64 b.y, .int .i64 b.w, .int .i64 b.h]] w (RetB true w))) := by
    cases bo
    · exact Or.inl rfl
    · obtain ⟨q1, q2⟩ := hb2 rfl
      rw [q1] at KGb
      rw [q2] at KRb
      exact Or.inr ⟨KGb, KRb⟩
  replace KN := Aside0.mk KN; replace KS := Aside0.mk KS; replace KR := Aside0.mk KR; replace KGa := Aside0.mk KGa; replace KRa := Aside0.mk KRa; replace KO := Aside0.mk KO; replace KB := Aside0.mk KB
  clear ga ra wa ha haa rb hbb hN KGb KRb hbo hb2
  go_enter Try.func6, Try.ntmps6
  go_wp2_with fail
  refine (KN.out _).mono ?_
  rintro e w1 ⟨rfl, hb⟩
  have B5 := Aside0.mk (blk_below (g := W.heap.size) (o := .cells #[.int .i64 o.x, .int .i64 o.y, .int .i64 o.w, .int .i64 o.h] 23 (0, 0)) (by (repeat (first | exact new_at (by simp only [World.size_alloc, World.size_drew]; done) | refine blk_drew ?_ | refine blk_alloc ?_ _))) hb)
  have B6 := Aside0.mk (blk_below (g := W.heap.size + 1) (o := .cells #[.int .i64 k.x, .int .i64 k.y, .int .i64 k.w, .int .i64 k.h] 23 (0, 0)) (by (repeat (first | exact new_at (by simp only [World.size_alloc, World.size_drew]; done) | refine blk_drew ?_ | refine blk_alloc ?_ _))) hb)
  have B7 := Aside0.mk (blk_below (g := W.heap.size + 1 + 1) (o := .cells #[.int .i64 h.minW, .int .i64 h.minH, .int .i64 h.maxW, .int .i64 h.maxH, .int .i64 h.baseW, .int .i64 h.baseH, .int .i64 h.incW, .int .i64 h.incH, .int .i64 h.lowX, .int .i64 h.lowY, .int .i64 h.highX, .int .i64 h.highY] 25 (0, 0)) (by (repeat (first | exact new_at (by simp only [World.size_alloc, World.size_drew]; done) | refine blk_drew ?_ | refine blk_alloc ?_ _))) hb)
  have qB := below_step (w := W) (by (repeat (first | exact Below.refl _ _ | apply below_alloc))) hb
  clear hb
  replace B5 := Aside0.mk (blk_alloc B5.out (.cells #[.int .i64 N.minW, .int .i64 N.minH, .int .i64 N.maxW, .int .i64 N.maxH, .int .i64 N.baseW, .int .i64 N.baseH, .int .i64 N.incW, .int .i64 N.incH, .int .i64 N.lowX, .int .i64 N.lowY, .int .i64 N.highX, .int .i64 N.highY] 25 (0, 0))); replace B6 := Aside0.mk (blk_alloc B6.out (.cells #[.int .i64 N.minW, .int .i64 N.minH, .int .i64 N.maxW, .int .i64 N.maxH, .int .i64 N.baseW, .int .i64 N.baseH, .int .i64 N.incW, .int .i64 N.incH, .int .i64 N.lowX, .int .i64 N.lowY, .int .i64 N.highX, .int .i64 N.highY] 25 (0, 0))); replace B7 := Aside0.mk (blk_alloc B7.out (.cells #[.int .i64 N.minW, .int .i64 N.minH, .int .i64 N.maxW, .int .i64 N.maxH, .int .i64 N.baseW, .int .i64 N.baseH, .int .i64 N.incW, .int .i64 N.incH, .int .i64 N.lowX, .int .i64 N.lowY, .int .i64 N.highX, .int .i64 N.highY] 25 (0, 0)))
  have B11 := Aside0.mk (blk_new w1 (.cells #[.int .i64 N.minW, .int .i64 N.minH, .int .i64 N.maxW, .int .i64 N.maxH, .int .i64 N.baseW, .int .i64 N.baseH, .int .i64 N.incW, .int .i64 N.incH, .int .i64 N.lowX, .int .i64 N.lowY, .int .i64 N.highX, .int .i64 N.highY] 25 (0, 0)))
  replace qB := below_alloc qB (.cells #[.int .i64 N.minW, .int .i64 N.minH, .int .i64 N.maxW, .int .i64 N.maxH, .int .i64 N.baseW, .int .i64 N.baseH, .int .i64 N.incW, .int .i64 N.incH, .int .i64 N.lowX, .int .i64 N.lowY, .int .i64 N.highX, .int .i64 N.highY] 25 (0, 0))
  have p0 : (w1.alloc (.cells #[.int .i64 N.minW, .int .i64 N.minH, .int .i64 N.maxW, .int .i64 N.maxH, .int .i64 N.baseW, .int .i64 N.baseH, .int .i64 N.incW, .int .i64 N.incH, .int .i64 N.lowX, .int .i64 N.lowY, .int .i64 N.highX, .int .i64 N.highY] 25 (0, 0))).cell? ⟨W.heap.size, 0, none⟩ = some (.int .i64 (o.x)) := (blk_cell B5.out 0).trans rfl
  have p1 : (w1.alloc (.cells #[.int .i64 N.minW, .int .i64 N.minH, .int .i64 N.maxW, .int .i64 N.maxH, .int .i64 N.baseW, .int .i64 N.baseH, .int .i64 N.incW, .int .i64 N.incH, .int .i64 N.lowX, .int .i64 N.lowY, .int .i64 N.highX, .int .i64 N.highY] 25 (0, 0))).cell? ⟨W.heap.size, 1, none⟩ = some (.int .i64 (o.y)) := (blk_cell B5.out 1).trans rfl
  have p2 : (w1.alloc (.cells #[.int .i64 N.minW, .int .i64 N.minH, .int .i64 N.maxW, .int .i64 N.maxH, .int .i64 N.baseW, .int .i64 N.baseH, .int .i64 N.incW, .int .i64 N.incH, .int .i64 N.lowX, .int .i64 N.lowY, .int .i64 N.highX, .int .i64 N.highY] 25 (0, 0))).cell? ⟨W.heap.size, 2, none⟩ = some (.int .i64 (o.w)) := (blk_cell B5.out 2).trans rfl
  have p3 : (w1.alloc (.cells #[.int .i64 N.minW, .int .i64 N.minH, .int .i64 N.maxW, .int .i64 N.maxH, .int .i64 N.baseW, .int .i64 N.baseH, .int .i64 N.incW, .int .i64 N.incH, .int .i64 N.lowX, .int .i64 N.lowY, .int .i64 N.highX, .int .i64 N.highY] 25 (0, 0))).cell? ⟨W.heap.size, 3, none⟩ = some (.int .i64 (o.h)) := (blk_cell B5.out 3).trans rfl
  have k0 : (w1.alloc (.cells #[.int .i64 N.minW, .int .i64 N.minH, .int .i64 N.maxW, .int .i64 N.maxH, .int .i64 N.baseW, .int .i64 N.baseH, .int .i64 N.incW, .int .i64 N.incH, .int .i64 N.lowX, .int .i64 N.lowY, .int .i64 N.highX, .int .i64 N.highY] 25 (0, 0))).cell? ⟨W.heap.size + 1, 0, none⟩ = some (.int .i64 (k.x)) := (blk_cell B6.out 0).trans rfl
  have k1 : (w1.alloc (.cells #[.int .i64 N.minW, .int .i64 N.minH, .int .i64 N.maxW, .int .i64 N.maxH, .int .i64 N.baseW, .int .i64 N.baseH, .int .i64 N.incW, .int .i64 N.incH, .int .i64 N.lowX, .int .i64 N.lowY, .int .i64 N.highX, .int .i64 N.highY] 25 (0, 0))).cell? ⟨W.heap.size + 1, 1, none⟩ = some (.int .i64 (k.y)) := (blk_cell B6.out 1).trans rfl
  have k2 : (w1.alloc (.cells #[.int .i64 N.minW, .int .i64 N.minH, .int .i64 N.maxW, .int .i64 N.maxH, .int .i64 N.baseW, .int .i64 N.baseH, .int .i64 N.incW, .int .i64 N.incH, .int .i64 N.lowX, .int .i64 N.lowY, .int .i64 N.highX, .int .i64 N.highY] 25 (0, 0))).cell? ⟨W.heap.size + 1, 2, none⟩ = some (.int .i64 (k.w)) := (blk_cell B6.out 2).trans rfl
  have k3 : (w1.alloc (.cells #[.int .i64 N.minW, .int .i64 N.minH, .int .i64 N.maxW, .int .i64 N.maxH, .int .i64 N.baseW, .int .i64 N.baseH, .int .i64 N.incW, .int .i64 N.incH, .int .i64 N.lowX, .int .i64 N.lowY, .int .i64 N.highX, .int .i64 N.highY] 25 (0, 0))).cell? ⟨W.heap.size + 1, 3, none⟩ = some (.int .i64 (k.h)) := (blk_cell B6.out 3).trans rfl
  have u0 : (w1.alloc (.cells #[.int .i64 N.minW, .int .i64 N.minH, .int .i64 N.maxW, .int .i64 N.maxH, .int .i64 N.baseW, .int .i64 N.baseH, .int .i64 N.incW, .int .i64 N.incH, .int .i64 N.lowX, .int .i64 N.lowY, .int .i64 N.highX, .int .i64 N.highY] 25 (0, 0))).cell? ⟨W.heap.size + 1 + 1, 0, none⟩ = some (.int .i64 (h.minW)) := (blk_cell B7.out 0).trans rfl
  have u1 : (w1.alloc (.cells #[.int .i64 N.minW, .int .i64 N.minH, .int .i64 N.maxW, .int .i64 N.maxH, .int .i64 N.baseW, .int .i64 N.baseH, .int .i64 N.incW, .int .i64 N.incH, .int .i64 N.lowX, .int .i64 N.lowY, .int .i64 N.highX, .int .i64 N.highY] 25 (0, 0))).cell? ⟨W.heap.size + 1 + 1, 1, none⟩ = some (.int .i64 (h.minH)) := (blk_cell B7.out 1).trans rfl
  have u2 : (w1.alloc (.cells #[.int .i64 N.minW, .int .i64 N.minH, .int .i64 N.maxW, .int .i64 N.maxH, .int .i64 N.baseW, .int .i64 N.baseH, .int .i64 N.incW, .int .i64 N.incH, .int .i64 N.lowX, .int .i64 N.lowY, .int .i64 N.highX, .int .i64 N.highY] 25 (0, 0))).cell? ⟨W.heap.size + 1 + 1, 2, none⟩ = some (.int .i64 (h.maxW)) := (blk_cell B7.out 2).trans rfl
  have u3 : (w1.alloc (.cells #[.int .i64 N.minW, .int .i64 N.minH, .int .i64 N.maxW, .int .i64 N.maxH, .int .i64 N.baseW, .int .i64 N.baseH, .int .i64 N.incW, .int .i64 N.incH, .int .i64 N.lowX, .int .i64 N.lowY, .int .i64 N.highX, .int .i64 N.highY] 25 (0, 0))).cell? ⟨W.heap.size + 1 + 1, 3, none⟩ = some (.int .i64 (h.maxH)) := (blk_cell B7.out 3).trans rfl
  have u4 : (w1.alloc (.cells #[.int .i64 N.minW, .int .i64 N.minH, .int .i64 N.maxW, .int .i64 N.maxH, .int .i64 N.baseW, .int .i64 N.baseH, .int .i64 N.incW, .int .i64 N.incH, .int .i64 N.lowX, .int .i64 N.lowY, .int .i64 N.highX, .int .i64 N.highY] 25 (0, 0))).cell? ⟨W.heap.size + 1 + 1, 4, none⟩ = some (.int .i64 (h.baseW)) := (blk_cell B7.out 4).trans rfl
  have u5 : (w1.alloc (.cells #[.int .i64 N.minW, .int .i64 N.minH, .int .i64 N.maxW, .int .i64 N.maxH, .int .i64 N.baseW, .int .i64 N.baseH, .int .i64 N.incW, .int .i64 N.incH, .int .i64 N.lowX, .int .i64 N.lowY, .int .i64 N.highX, .int .i64 N.highY] 25 (0, 0))).cell? ⟨W.heap.size + 1 + 1, 5, none⟩ = some (.int .i64 (h.baseH)) := (blk_cell B7.out 5).trans rfl
  have u6 : (w1.alloc (.cells #[.int .i64 N.minW, .int .i64 N.minH, .int .i64 N.maxW, .int .i64 N.maxH, .int .i64 N.baseW, .int .i64 N.baseH, .int .i64 N.incW, .int .i64 N.incH, .int .i64 N.lowX, .int .i64 N.lowY, .int .i64 N.highX, .int .i64 N.highY] 25 (0, 0))).cell? ⟨W.heap.size + 1 + 1, 6, none⟩ = some (.int .i64 (h.incW)) := (blk_cell B7.out 6).trans rfl
  have u7 : (w1.alloc (.cells #[.int .i64 N.minW, .int .i64 N.minH, .int .i64 N.maxW, .int .i64 N.maxH, .int .i64 N.baseW, .int .i64 N.baseH, .int .i64 N.incW, .int .i64 N.incH, .int .i64 N.lowX, .int .i64 N.lowY, .int .i64 N.highX, .int .i64 N.highY] 25 (0, 0))).cell? ⟨W.heap.size + 1 + 1, 7, none⟩ = some (.int .i64 (h.incH)) := (blk_cell B7.out 7).trans rfl
  have u8 : (w1.alloc (.cells #[.int .i64 N.minW, .int .i64 N.minH, .int .i64 N.maxW, .int .i64 N.maxH, .int .i64 N.baseW, .int .i64 N.baseH, .int .i64 N.incW, .int .i64 N.incH, .int .i64 N.lowX, .int .i64 N.lowY, .int .i64 N.highX, .int .i64 N.highY] 25 (0, 0))).cell? ⟨W.heap.size + 1 + 1, 8, none⟩ = some (.int .i64 (h.lowX)) := (blk_cell B7.out 8).trans rfl
  have u9 : (w1.alloc (.cells #[.int .i64 N.minW, .int .i64 N.minH, .int .i64 N.maxW, .int .i64 N.maxH, .int .i64 N.baseW, .int .i64 N.baseH, .int .i64 N.incW, .int .i64 N.incH, .int .i64 N.lowX, .int .i64 N.lowY, .int .i64 N.highX, .int .i64 N.highY] 25 (0, 0))).cell? ⟨W.heap.size + 1 + 1, 9, none⟩ = some (.int .i64 (h.lowY)) := (blk_cell B7.out 9).trans rfl
  have u10 : (w1.alloc (.cells #[.int .i64 N.minW, .int .i64 N.minH, .int .i64 N.maxW, .int .i64 N.maxH, .int .i64 N.baseW, .int .i64 N.baseH, .int .i64 N.incW, .int .i64 N.incH, .int .i64 N.lowX, .int .i64 N.lowY, .int .i64 N.highX, .int .i64 N.highY] 25 (0, 0))).cell? ⟨W.heap.size + 1 + 1, 10, none⟩ = some (.int .i64 (h.highX)) := (blk_cell B7.out 10).trans rfl
  have u11 : (w1.alloc (.cells #[.int .i64 N.minW, .int .i64 N.minH, .int .i64 N.maxW, .int .i64 N.maxH, .int .i64 N.baseW, .int .i64 N.baseH, .int .i64 N.incW, .int .i64 N.incH, .int .i64 N.lowX, .int .i64 N.lowY, .int .i64 N.highX, .int .i64 N.highY] 25 (0, 0))).cell? ⟨W.heap.size + 1 + 1, 11, none⟩ = some (.int .i64 (h.highY)) := (blk_cell B7.out 11).trans rfl
  go_wp2_with fail
  refine (KS.out _).mono ?_
  rintro e w2 ⟨rfl, hb⟩
  clear p0 p1 p2 p3 k0 k1 k2 k3 u0 u1 u2 u3 u4 u5 u6 u7 u8 u9 u10 u11
  replace B5 := Aside0.mk (blk_below B5.out hb)
  replace B7 := Aside0.mk (blk_below B7.out hb)
  replace B11 := Aside0.mk (blk_below B11.out hb)
  replace qB := below_step (w := W) qB hb
  clear hb B6
  replace B5 := Aside0.mk (blk_alloc B5.out (.cells #[.int .i64 a.x, .int .i64 a.y, .int .i64 a.w, .int .i64 a.h] 23 (0, 0))); replace B7 := Aside0.mk (blk_alloc B7.out (.cells #[.int .i64 a.x, .int .i64 a.y, .int .i64 a.w, .int .i64 a.h] 23 (0, 0))); replace B11 := Aside0.mk (blk_alloc B11.out (.cells #[.int .i64 a.x, .int .i64 a.y, .int .i64 a.w, .int .i64 a.h] 23 (0, 0)))
  have B12 := Aside0.mk (blk_new w2 (.cells #[.int .i64 a.x, .int .i64 a.y, .int .i64 a.w, .int .i64 a.h] 23 (0, 0)))
  replace qB := below_alloc qB (.cells #[.int .i64 a.x, .int .i64 a.y, .int .i64 a.w, .int .i64 a.h] 23 (0, 0))
  have u0 : (w2.alloc (.cells #[.int .i64 a.x, .int .i64 a.y, .int .i64 a.w, .int .i64 a.h] 23 (0, 0))).cell? ⟨w1.heap.size, 0, none⟩ = some (.int .i64 (N.minW)) := (blk_cell B11.out 0).trans rfl
  have u1 : (w2.alloc (.cells #[.int .i64 a.x, .int .i64 a.y, .int .i64 a.w, .int .i64 a.h] 23 (0, 0))).cell? ⟨w1.heap.size, 1, none⟩ = some (.int .i64 (N.minH)) := (blk_cell B11.out 1).trans rfl
  have u2 : (w2.alloc (.cells #[.int .i64 a.x, .int .i64 a.y, .int .i64 a.w, .int .i64 a.h] 23 (0, 0))).cell? ⟨w1.heap.size, 2, none⟩ = some (.int .i64 (N.maxW)) := (blk_cell B11.out 2).trans rfl
  have u3 : (w2.alloc (.cells #[.int .i64 a.x, .int .i64 a.y, .int .i64 a.w, .int .i64 a.h] 23 (0, 0))).cell? ⟨w1.heap.size, 3, none⟩ = some (.int .i64 (N.maxH)) := (blk_cell B11.out 3).trans rfl
  have u4 : (w2.alloc (.cells #[.int .i64 a.x, .int .i64 a.y, .int .i64 a.w, .int .i64 a.h] 23 (0, 0))).cell? ⟨w1.heap.size, 4, none⟩ = some (.int .i64 (N.baseW)) := (blk_cell B11.out 4).trans rfl
  have u5 : (w2.alloc (.cells #[.int .i64 a.x, .int .i64 a.y, .int .i64 a.w, .int .i64 a.h] 23 (0, 0))).cell? ⟨w1.heap.size, 5, none⟩ = some (.int .i64 (N.baseH)) := (blk_cell B11.out 5).trans rfl
  have u6 : (w2.alloc (.cells #[.int .i64 a.x, .int .i64 a.y, .int .i64 a.w, .int .i64 a.h] 23 (0, 0))).cell? ⟨w1.heap.size, 6, none⟩ = some (.int .i64 (N.incW)) := (blk_cell B11.out 6).trans rfl
  have u7 : (w2.alloc (.cells #[.int .i64 a.x, .int .i64 a.y, .int .i64 a.w, .int .i64 a.h] 23 (0, 0))).cell? ⟨w1.heap.size, 7, none⟩ = some (.int .i64 (N.incH)) := (blk_cell B11.out 7).trans rfl
  have u8 : (w2.alloc (.cells #[.int .i64 a.x, .int .i64 a.y, .int .i64 a.w, .int .i64 a.h] 23 (0, 0))).cell? ⟨w1.heap.size, 8, none⟩ = some (.int .i64 (N.lowX)) := (blk_cell B11.out 8).trans rfl
  have u9 : (w2.alloc (.cells #[.int .i64 a.x, .int .i64 a.y, .int .i64 a.w, .int .i64 a.h] 23 (0, 0))).cell? ⟨w1.heap.size, 9, none⟩ = some (.int .i64 (N.lowY)) := (blk_cell B11.out 9).trans rfl
  have u10 : (w2.alloc (.cells #[.int .i64 a.x, .int .i64 a.y, .int .i64 a.w, .int .i64 a.h] 23 (0, 0))).cell? ⟨w1.heap.size, 10, none⟩ = some (.int .i64 (N.highX)) := (blk_cell B11.out 10).trans rfl
  have u11 : (w2.alloc (.cells #[.int .i64 a.x, .int .i64 a.y, .int .i64 a.w, .int .i64 a.h] 23 (0, 0))).cell? ⟨w1.heap.size, 11, none⟩ = some (.int .i64 (N.highY)) := (blk_cell B11.out 11).trans rfl
  go_wp2_with fail
  refine (KGa.out _).mono ?_
  rintro e w3 ⟨rfl, hb⟩
  clear u0 u1 u2 u3 u4 u5 u6 u7 u8 u9 u10 u11
  replace B5 := Aside0.mk (blk_below B5.out hb)
  replace B7 := Aside0.mk (blk_below B7.out hb)
  replace B11 := Aside0.mk (blk_below B11.out hb)
  replace B12 := Aside0.mk (blk_below B12.out hb)
  replace qB := below_step (w := W) qB hb
  clear hb
  have p0 : w3.cell? ⟨w2.heap.size, 0, none⟩ = some (.int .i64 (a.x)) := (blk_cell B12.out 0).trans rfl
  have p1 : w3.cell? ⟨w2.heap.size, 1, none⟩ = some (.int .i64 (a.y)) := (blk_cell B12.out 1).trans rfl
  have p2 : w3.cell? ⟨w2.heap.size, 2, none⟩ = some (.int .i64 (a.w)) := (blk_cell B12.out 2).trans rfl
  have p3 : w3.cell? ⟨w2.heap.size, 3, none⟩ = some (.int .i64 (a.h)) := (blk_cell B12.out 3).trans rfl
  go_wp2_with fail
  refine (KRa.out _).mono ?_
  rintro e w4 ⟨rfl, hb⟩
  clear p0 p1 p2 p3
  replace B5 := Aside0.mk (blk_below B5.out hb)
  replace B7 := Aside0.mk (blk_below B7.out hb)
  replace B11 := Aside0.mk (blk_below B11.out hb)
  replace qB := below_step (w := W) qB hb
  clear hb B12
  have p0 : w4.cell? ⟨W.heap.size, 0, none⟩ = some (.int .i64 (o.x)) := (blk_cell B5.out 0).trans rfl
  have p1 : w4.cell? ⟨W.heap.size, 1, none⟩ = some (.int .i64 (o.y)) := (blk_cell B5.out 1).trans rfl
  have p2 : w4.cell? ⟨W.heap.size, 2, none⟩ = some (.int .i64 (o.w)) := (blk_cell B5.out 2).trans rfl
  have p3 : w4.cell? ⟨W.heap.size, 3, none⟩ = some (.int .i64 (o.h)) := (blk_cell B5.out 3).trans rfl
  have u0 : w4.cell? ⟨W.heap.size + 1 + 1, 0, none⟩ = some (.int .i64 (h.minW)) := (blk_cell B7.out 0).trans rfl
  have u1 : w4.cell? ⟨W.heap.size + 1 + 1, 1, none⟩ = some (.int .i64 (h.minH)) := (blk_cell B7.out 1).trans rfl
  have u2 : w4.cell? ⟨W.heap.size + 1 + 1, 2, none⟩ = some (.int .i64 (h.maxW)) := (blk_cell B7.out 2).trans rfl
  have u3 : w4.cell? ⟨W.heap.size + 1 + 1, 3, none⟩ = some (.int .i64 (h.maxH)) := (blk_cell B7.out 3).trans rfl
  have u4 : w4.cell? ⟨W.heap.size + 1 + 1, 4, none⟩ = some (.int .i64 (h.baseW)) := (blk_cell B7.out 4).trans rfl
  have u5 : w4.cell? ⟨W.heap.size + 1 + 1, 5, none⟩ = some (.int .i64 (h.baseH)) := (blk_cell B7.out 5).trans rfl
  have u6 : w4.cell? ⟨W.heap.size + 1 + 1, 6, none⟩ = some (.int .i64 (h.incW)) := (blk_cell B7.out 6).trans rfl
  have u7 : w4.cell? ⟨W.heap.size + 1 + 1, 7, none⟩ = some (.int .i64 (h.incH)) := (blk_cell B7.out 7).trans rfl
  have u8 : w4.cell? ⟨W.heap.size + 1 + 1, 8, none⟩ = some (.int .i64 (h.lowX)) := (blk_cell B7.out 8).trans rfl
  have u9 : w4.cell? ⟨W.heap.size + 1 + 1, 9, none⟩ = some (.int .i64 (h.lowY)) := (blk_cell B7.out 9).trans rfl
  have u10 : w4.cell? ⟨W.heap.size + 1 + 1, 10, none⟩ = some (.int .i64 (h.highX)) := (blk_cell B7.out 10).trans rfl
  have u11 : w4.cell? ⟨W.heap.size + 1 + 1, 11, none⟩ = some (.int .i64 (h.highY)) := (blk_cell B7.out 11).trans rfl
  go_wp2_with fail
  refine (KR.out _).mono ?_
  rintro e w5 ⟨rfl, hb⟩
  clear p0 p1 p2 p3 u0 u1 u2 u3 u4 u5 u6 u7 u8 u9 u10 u11
  replace B5 := Aside0.mk (blk_below B5.out hb)
  replace B11 := Aside0.mk (blk_below B11.out hb)
  replace qB := below_step (w := W) qB hb
  clear hb B7
  replace B5 := Aside0.mk (blk_alloc B5.out (.cells #[.int .i64 b.x, .int .i64 b.y, .int .i64 b.w, .int .i64 b.h] 23 (0, 0))); replace B11 := Aside0.mk (blk_alloc B11.out (.cells #[.int .i64 b.x, .int .i64 b.y, .int .i64 b.w, .int .i64 b.h] 23 (0, 0)))
  have B13 := Aside0.mk (blk_new w5 (.cells #[.int .i64 b.x, .int .i64 b.y, .int .i64 b.w, .int .i64 b.h] 23 (0, 0)))
  replace qB := below_alloc qB (.cells #[.int .i64 b.x, .int .i64 b.y, .int .i64 b.w, .int .i64 b.h] 23 (0, 0))
  have p0 : (w5.alloc (.cells #[.int .i64 b.x, .int .i64 b.y, .int .i64 b.w, .int .i64 b.h] 23 (0, 0))).cell? ⟨W.heap.size, 0, none⟩ = some (.int .i64 (o.x)) := (blk_cell B5.out 0).trans rfl
  have p1 : (w5.alloc (.cells #[.int .i64 b.x, .int .i64 b.y, .int .i64 b.w, .int .i64 b.h] 23 (0, 0))).cell? ⟨W.heap.size, 1, none⟩ = some (.int .i64 (o.y)) := (blk_cell B5.out 1).trans rfl
  have p2 : (w5.alloc (.cells #[.int .i64 b.x, .int .i64 b.y, .int .i64 b.w, .int .i64 b.h] 23 (0, 0))).cell? ⟨W.heap.size, 2, none⟩ = some (.int .i64 (o.w)) := (blk_cell B5.out 2).trans rfl
  have p3 : (w5.alloc (.cells #[.int .i64 b.x, .int .i64 b.y, .int .i64 b.w, .int .i64 b.h] 23 (0, 0))).cell? ⟨W.heap.size, 3, none⟩ = some (.int .i64 (o.h)) := (blk_cell B5.out 3).trans rfl
  go_wp2_with fail
  refine (KO.out _).mono ?_
  rintro e w6 ⟨rfl, hb⟩
  clear p0 p1 p2 p3
  replace B11 := Aside0.mk (blk_below B11.out hb)
  replace B13 := Aside0.mk (blk_below B13.out hb)
  replace qB := below_step (w := W) qB hb
  clear hb B5
  have QB := Aside0.mk qB
  clear qB
  cases bo
  · go_wp2_with fail
    refine (c_awake _).mono ?_
    rintro e w9 ⟨rfl, hb⟩
    replace QB := Aside0.mk (below_step (w := W) QB.out hb)
    clear hb
    go_wp2
    go_ret
    exact ⟨rfl, QB.out⟩
  · rcases KB.out with q | ⟨q1, q2⟩
    · cases q
    · replace q1 := Aside0.mk q1; replace q2 := Aside0.mk q2
      have u0 : w6.cell? ⟨w1.heap.size, 0, none⟩ = some (.int .i64 (N.minW)) := (blk_cell B11.out 0).trans rfl
      have u1 : w6.cell? ⟨w1.heap.size, 1, none⟩ = some (.int .i64 (N.minH)) := (blk_cell B11.out 1).trans rfl
      have u2 : w6.cell? ⟨w1.heap.size, 2, none⟩ = some (.int .i64 (N.maxW)) := (blk_cell B11.out 2).trans rfl
      have u3 : w6.cell? ⟨w1.heap.size, 3, none⟩ = some (.int .i64 (N.maxH)) := (blk_cell B11.out 3).trans rfl
      have u4 : w6.cell? ⟨w1.heap.size, 4, none⟩ = some (.int .i64 (N.baseW)) := (blk_cell B11.out 4).trans rfl
      have u5 : w6.cell? ⟨w1.heap.size, 5, none⟩ = some (.int .i64 (N.baseH)) := (blk_cell B11.out 5).trans rfl
      have u6 : w6.cell? ⟨w1.heap.size, 6, none⟩ = some (.int .i64 (N.incW)) := (blk_cell B11.out 6).trans rfl
      have u7 : w6.cell? ⟨w1.heap.size, 7, none⟩ = some (.int .i64 (N.incH)) := (blk_cell B11.out 7).trans rfl
      have u8 : w6.cell? ⟨w1.heap.size, 8, none⟩ = some (.int .i64 (N.lowX)) := (blk_cell B11.out 8).trans rfl
      have u9 : w6.cell? ⟨w1.heap.size, 9, none⟩ = some (.int .i64 (N.lowY)) := (blk_cell B11.out 9).trans rfl
      have u10 : w6.cell? ⟨w1.heap.size, 10, none⟩ = some (.int .i64 (N.highX)) := (blk_cell B11.out 10).trans rfl
      have u11 : w6.cell? ⟨w1.heap.size, 11, none⟩ = some (.int .i64 (N.highY)) := (blk_cell B11.out 11).trans rfl
      have p0 : w6.cell? ⟨w5.heap.size, 0, none⟩ = some (.int .i64 (b.x)) := (blk_cell B13.out 0).trans rfl
      have p1 : w6.cell? ⟨w5.heap.size, 1, none⟩ = some (.int .i64 (b.y)) := (blk_cell B13.out 1).trans rfl
      have p2 : w6.cell? ⟨w5.heap.size, 2, none⟩ = some (.int .i64 (b.w)) := (blk_cell B13.out 2).trans rfl
      have p3 : w6.cell? ⟨w5.heap.size, 3, none⟩ = some (.int .i64 (b.h)) := (blk_cell B13.out 3).trans rfl
      go_wp2_with fail
      refine (q1.out _).mono ?_
      rintro e w7 ⟨rfl, hb⟩
      clear u0 u1 u2 u3 u4 u5 u6 u7 u8 u9 u10 u11 p0 p1 p2 p3
      replace B13 := Aside0.mk (blk_below B13.out hb)
      replace QB := Aside0.mk (below_step (w := W) QB.out hb)
      clear hb
      have p0 : w7.cell? ⟨w5.heap.size, 0, none⟩ = some (.int .i64 (b.x)) := (blk_cell B13.out 0).trans rfl
      have p1 : w7.cell? ⟨w5.heap.size, 1, none⟩ = some (.int .i64 (b.y)) := (blk_cell B13.out 1).trans rfl
      have p2 : w7.cell? ⟨w5.heap.size, 2, none⟩ = some (.int .i64 (b.w)) := (blk_cell B13.out 2).trans rfl
      have p3 : w7.cell? ⟨w5.heap.size, 3, none⟩ = some (.int .i64 (b.h)) := (blk_cell B13.out 3).trans rfl
      go_wp2_with fail
      refine (q2.out _).mono ?_
      rintro e w8 ⟨rfl, hb⟩
      clear p0 p1 p2 p3
      replace QB := Aside0.mk (below_step (w := W) QB.out hb)
      clear hb
      go_wp2_with fail
      refine (c_awake _).mono ?_
      rintro e w9 ⟨rfl, hb⟩
      replace QB := Aside0.mk (below_step (w := W) QB.out hb)
      clear hb
      go_wp2
      go_ret
      exact ⟨rfl, QB.out⟩
theorem FloatGood_law (a0_0 : Int) (a0_1 : Int) (a0_2 : Int) (a0_3 : Int) (a1_0 : Int) (a1_1 : Int) (a1_2 : Int) (a1_3 : Int) (a2_0 : Int) (a2_1 : Int) (a2_2 : Int) (a2_3 : Int) (a2_4 : Int) (a2_5 : Int) (a2_6 : Int) (a2_7 : Int) (a2_8 : Int) (a2_9 : Int) (a2_10 : Int) (a2_11 : Int) (a3 : Int) (a4 : Int) (W : World) (w0_0 : (Lit.int .i64 a0_0).wf = true) (w0_1 : (Lit.int .i64 a0_1).wf = true) (w0_2 : (Lit.int .i64 a0_2).wf = true) (w0_3 : (Lit.int .i64 a0_3).wf = true) (w1_0 : (Lit.int .i64 a1_0).wf = true) (w1_1 : (Lit.int .i64 a1_1).wf = true) (w1_2 : (Lit.int .i64 a1_2).wf = true) (w1_3 : (Lit.int .i64 a1_3).wf = true) (w2_0 : (Lit.int .i64 a2_0).wf = true) (w2_1 : (Lit.int .i64 a2_1).wf = true) (w2_2 : (Lit.int .i64 a2_2).wf = true) (w2_3 : (Lit.int .i64 a2_3).wf = true) (w2_4 : (Lit.int .i64 a2_4).wf = true) (w2_5 : (Lit.int .i64 a2_5).wf = true) (w2_6 : (Lit.int .i64 a2_6).wf = true) (w2_7 : (Lit.int .i64 a2_7).wf = true) (w2_8 : (Lit.int .i64 a2_8).wf = true) (w2_9 : (Lit.int .i64 a2_9).wf = true) (w2_10 : (Lit.int .i64 a2_10).wf = true) (w2_11 : (Lit.int .i64 a2_11).wf = true) (w3 : (Lit.int .i64 a3).wf = true) (w4 : (Lit.int .i64 a4).wf = true) :
    Calls Try.prog 6 #[.agg #[.int .i64 a0_0, .int .i64 a0_1, .int .i64 a0_2, .int .i64 a0_3], .agg #[.int .i64 a1_0, .int .i64 a1_1, .int .i64 a1_2, .int .i64 a1_3], .agg #[.int .i64 a2_0, .int .i64 a2_1, .int .i64 a2_2, .int .i64 a2_3, .int .i64 a2_4, .int .i64 a2_5, .int .i64 a2_6, .int .i64 a2_7, .int .i64 a2_8, .int .i64 a2_9, .int .i64 a2_10, .int .i64 a2_11], .int .i64 a3, .int .i64 a4] W fun e w' => e = .returned (.bool true) ∧ Below W.heap.size W w' :=
  good_any ⟨a0_0, a0_1, a0_2, a0_3⟩ ⟨a1_0, a1_1, a1_2, a1_3⟩ ⟨a2_0, a2_1, a2_2, a2_3, a2_4, a2_5, a2_6, a2_7, a2_8, a2_9, a2_10, a2_11⟩ a3 a4 W
end Go.Proofs.Ytajpnmiblepmkaa.Fl
