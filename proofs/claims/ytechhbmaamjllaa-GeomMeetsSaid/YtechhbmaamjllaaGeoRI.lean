/- The contracts of the reference of geom, but for what moves rectangles. -/
import Derived.Test.YtechhbmaamjllaaGeoB
import Derived.Test.YtechhbmaamjllaaPInterx1
namespace Go.Proofs.Ytechhbmaamjllaa.Geo
open Go.RowKit Go.Proofs.YtechhbmaamjllaaW.PrintMore Go.Proofs.YtechhbmaamjllaaW.PrintWords Go.Proofs.YtechhbmaamjllaaW.PrintLast
set_option linter.unusedVariables false
set_option linter.unusedSimpArgs false

/- The reference's Right, whatever printed text tells it. -/
theorem rright_body (x y w h : Int) : (if x < (-32768) then (some false) else (if x > 32767 then (some false) else (if y < (-32768) then (some false) else (if y > 32767 then (some false) else (if w < 0 then (some false) else (if h < 0 then (some false) else (if w > 65536 then (some false) else (if h > 65536 then (some false) else (if (wrap64 (x + w)) ≤ 32768 then (some (decide ((wrap64 (y + h)) ≤ 32768))) else (some false))))))))) : Option Bool) = some (rightB ⟨x, y, w, h⟩) := by
  by_cases c1 : x < -32768
  · rw [if_pos c1, rightB_false.2 (by dsimp only; omega)]
  rw [if_neg c1]
  by_cases c2 : x > 32767
  · rw [if_pos c2, rightB_false.2 (by dsimp only; omega)]
  rw [if_neg c2]
  by_cases c3 : y < -32768
  · rw [if_pos c3, rightB_false.2 (by dsimp only; omega)]
  rw [if_neg c3]
  by_cases c4 : y > 32767
  · rw [if_pos c4, rightB_false.2 (by dsimp only; omega)]
  rw [if_neg c4]
  by_cases c5 : w < 0
  · rw [if_pos c5, rightB_false.2 (by dsimp only; omega)]
  rw [if_neg c5]
  by_cases c6 : h < 0
  · rw [if_pos c6, rightB_false.2 (by dsimp only; omega)]
  rw [if_neg c6]
  by_cases c7 : w > 65536
  · rw [if_pos c7, rightB_false.2 (by dsimp only; omega)]
  rw [if_neg c7]
  by_cases c8 : h > 65536
  · rw [if_pos c8, rightB_false.2 (by dsimp only; omega)]
  rw [if_neg c8, wrap64_i (n := x + w) (by omega) (by omega), wrap64_i (n := y + h) (by omega) (by omega)]
  by_cases c9 : x + w ≤ 32768
  · rw [if_pos c9]
    congr 1
    by_cases c10 : y + h ≤ 32768
    · rw [rightB_true.2 (by dsimp only; omega)]; simpa using c10
    · rw [rightB_false.2 (by dsimp only; omega)]; simpa using c10
  · rw [if_neg c9, rightB_false.2 (by dsimp only; omega)]

section  -- by the print of the reference's Inter
theorem rI_right (a : Rc) : Go.Proofs.Ytechhbmaamjllaa.PInter.casementref01_Right.f a.x a.y a.w a.h = some (rightB a) := by
  unfold Go.Proofs.Ytechhbmaamjllaa.PInter.casementref01_Right.f; exact rright_body _ _ _ _
theorem rI_empty (a : Rc) : Go.Proofs.Ytechhbmaamjllaa.PInter.casementref01_Empty.f a.x a.y a.w a.h = some (emptyB a) := by
  unfold Go.Proofs.Ytechhbmaamjllaa.PInter.casementref01_Empty.f emptyB
  rw [rI_right]
  simp only [Option.bind_some]
  cases rightB a <;> simp
  by_cases h : a.w = 0 <;> simp [h]
theorem rI_least (p q : Int) : Go.Proofs.Ytechhbmaamjllaa.PInter.casementref01_least.f p q = some (min p q) := by
  unfold Go.Proofs.Ytechhbmaamjllaa.PInter.casementref01_least.f; split <;> (congr 1; omega)
theorem rI_most (p q : Int) : Go.Proofs.Ytechhbmaamjllaa.PInter.casementref01_most.f p q = some (max p q) := by
  unfold Go.Proofs.Ytechhbmaamjllaa.PInter.casementref01_most.f; split <;> (congr 1; omega)
theorem rI_from (x y u v : Int) : Go.Proofs.Ytechhbmaamjllaa.PInter.casementref01_From.f x y u v = some ((betweenP x y u v).x, (betweenP x y u v).y, (betweenP x y u v).w, (betweenP x y u v).h) := by
  unfold Go.Proofs.Ytechhbmaamjllaa.PInter.casementref01_From.f betweenP
  by_cases h : x < u ∧ y < v ∧ -32768 ≤ x ∧ -32768 ≤ y ∧ u ≤ 32768 ∧ v ≤ 32768
  · rw [if_neg (by omega), if_neg (by omega), if_neg (by omega), if_neg (by omega), if_neg (by omega), if_neg (by omega), if_pos h, wrap64_i (by omega) (by omega), wrap64_i (by omega) (by omega)]
  · rw [if_neg h]
    by_cases c1 : x ≥ u
    · rw [if_pos c1]; rfl
    by_cases c2 : y ≥ v
    · rw [if_neg c1, if_pos c2]; rfl
    by_cases c3 : x < -32768
    · rw [if_neg c1, if_neg c2, if_pos c3]; rfl
    by_cases c4 : y < -32768
    · rw [if_neg c1, if_neg c2, if_neg c3, if_pos c4]; rfl
    by_cases c5 : u > 32768
    · rw [if_neg c1, if_neg c2, if_neg c3, if_neg c4, if_pos c5]; rfl
    · rw [if_neg c1, if_neg c2, if_neg c3, if_neg c4, if_neg c5, if_pos (by omega)]; rfl
theorem rI_inter (a b : Rc) : Go.Proofs.Ytechhbmaamjllaa.PInter.casementref01_Inter.f 1 a.x a.y a.w a.h b.x b.y b.w b.h = some ((interP a b).x, (interP a b).y, (interP a b).w, (interP a b).h) := by
  unfold Go.Proofs.Ytechhbmaamjllaa.PInter.casementref01_Inter.f interP
  rw [rI_empty]
  simp only [Option.bind_some]
  by_cases h : emptyB a = true
  · simp [Go.Proofs.Ytechhbmaamjllaa.PInter.casementref01_Inter.j0, h, z4]
  · rw [if_neg h, rI_empty]
    simp only [Option.bind_some]
    by_cases h' : emptyB b = true
    · simp [Go.Proofs.Ytechhbmaamjllaa.PInter.casementref01_Inter.j0, h', z4]
    · simp only [Bool.not_eq_true] at h h'
      have g1 := nonempty h
      have g2 := nonempty h'
      simp only [Go.Proofs.Ytechhbmaamjllaa.PInter.casementref01_Inter.j0, h, h', Bool.false_eq_true, if_false, Bool.or_self]
      rw [wrap64_i (n := a.x + a.w) (by omega) (by omega), wrap64_i (n := a.y + a.h) (by omega) (by omega), wrap64_i (n := b.x + b.w) (by omega) (by omega), wrap64_i (n := b.y + b.h) (by omega) (by omega)]
      simp only [rI_least, rI_most, rI_from, Option.bind_some]
end
theorem c_rRight (a : Rc) (w : World) : Calls Try.prog 22 #[.agg #[.int .i64 a.x, .int .i64 a.y, .int .i64 a.w, .int .i64 a.h]] w (RetB (rightB a) w) :=
  (Go.Proofs.Ytechhbmaamjllaa.PInter.casementref01_Right.calls a.x a.y a.w a.h _ w (rI_right a)).mono fun e w' h => ⟨h.1, by first | exact h.2 | (obtain ⟨n, rfl⟩ := h.2.out; exact pw_below_drewN (Below.refl _ _) n)⟩
theorem c_rInter (a b : Rc) (w : World) : Calls Try.prog 31 #[.agg #[.int .i64 a.x, .int .i64 a.y, .int .i64 a.w, .int .i64 a.h], .agg #[.int .i64 b.x, .int .i64 b.y, .int .i64 b.w, .int .i64 b.h]] w (RetR (interP a b) w) := Go.Proofs.Ytechhbmaamjllaa.PInter.casementref01_Inter.calls 1 a.x a.y a.w a.h b.x b.y b.w b.h _ _ _ _ w (rI_inter a b)
theorem c_rEmpty (a : Rc) (w : World) : Calls Try.prog 23 #[.agg #[.int .i64 a.x, .int .i64 a.y, .int .i64 a.w, .int .i64 a.h]] w (RetB (emptyB a) w) := Go.Proofs.Ytechhbmaamjllaa.PInter.casementref01_Empty.calls a.x a.y a.w a.h _ w (rI_empty a)
theorem c_rFrom (x y u v : Int) (w : World) : Calls Try.prog 29 #[.int .i64 x, .int .i64 y, .int .i64 u, .int .i64 v] w (RetR (betweenP x y u v) w) := Go.Proofs.Ytechhbmaamjllaa.PInter.casementref01_From.calls x y u v _ _ _ _ w (rI_from x y u v)
theorem c_rLeast (p q : Int) (w : World) : Calls Try.prog 46 #[.int .i64 p, .int .i64 q] w (RetI (min p q) w) :=
  (Go.Proofs.Ytechhbmaamjllaa.PInter.casementref01_least.calls p q _ w (rI_least p q)).mono fun e w' h => ⟨h.1, by first | exact h.2 | (obtain ⟨n, rfl⟩ := h.2.out; exact pw_below_drewN (Below.refl _ _) n)⟩
theorem c_rMost (p q : Int) (w : World) : Calls Try.prog 45 #[.int .i64 p, .int .i64 q] w (RetI (max p q) w) :=
  (Go.Proofs.Ytechhbmaamjllaa.PInter.casementref01_most.calls p q _ w (rI_most p q)).mono fun e w' h => ⟨h.1, by first | exact h.2 | (obtain ⟨n, rfl⟩ := h.2.out; exact pw_below_drewN (Below.refl _ _) n)⟩

set_option maxHeartbeats 400000 in
theorem c_rSpan (v l m : Int) (w : World) : Calls Try.prog 17 #[.int .i64 v, .int .i64 l, .int .i64 m] w (RetI (spanP v l m) w) := by
  unfold RetI
  by_cases h1 : m < v
  · by_cases h3 : m < l
    · rw [show spanP v l m = l by unfold spanP; omega]
      go_enter Try.func17, Try.ntmps17
      go_wp2
      go_ret
      exact ⟨rfl, Below.refl _ _⟩
    · rw [show spanP v l m = m by unfold spanP; omega]
      go_enter Try.func17, Try.ntmps17
      go_wp2
      go_ret
      exact ⟨rfl, Below.refl _ _⟩
  · by_cases h2 : v < l
    · rw [show spanP v l m = l by unfold spanP; omega]
      go_enter Try.func17, Try.ntmps17
      go_wp2
      go_ret
      exact ⟨rfl, Below.refl _ _⟩
    · rw [show spanP v l m = v by unfold spanP; omega]
      go_enter Try.func17, Try.ntmps17
      go_wp2
      go_ret
      exact ⟨rfl, Below.refl _ _⟩

set_option maxHeartbeats 400000 in
theorem c_rArea (a : Rc) (w : World) : Calls Try.prog 25 #[.agg #[.int .i64 a.x, .int .i64 a.y, .int .i64 a.w, .int .i64 a.h]] w (RetI (areaP a) w) := by
  unfold RetI
  by_cases h : emptyB a = true
  · rw [show areaP a = 0 by unfold areaP; rw [if_pos h]]
    go_enter Try.func25, Try.ntmps25
    go_wp2_with fail
    refine (c_rEmpty a _).mono ?_
    rintro e w1 ⟨rfl, hb⟩
    go_wp2_with fail
    go_ret
    exact ⟨rfl, below_step (below_alloc (Below.refl _ _) _) hb⟩
  · simp only [Bool.not_eq_true] at h
    have g := nonempty h
    have e0 : areaP a = wrap64 (a.h * a.w) := by
      unfold areaP; rw [if_neg (by rw [h]; decide), wrap64_i]
      · exact Int.mul_comm _ _
      · have := Int.mul_nonneg (show 0 ≤ a.h by omega) (show 0 ≤ a.w by omega); omega
      · have := Int.mul_le_mul (show a.h ≤ 65536 by omega) (show a.w ≤ 65536 by omega) (by omega) (by omega); omega
    rw [e0]
    clear e0 g
    go_enter Try.func25, Try.ntmps25
    go_wp2_with fail
    refine (c_rEmpty a _).mono ?_
    rintro e w1 ⟨rfl, hb⟩
    obtain ⟨hc, hf⟩ := bcell hb
    have HB := Aside0.mk (below_step (below_alloc (Below.refl _ _) _) hb)
    clear hb
    go_wp2_with fail
    go_ret
    exact ⟨rfl, HB.out⟩
theorem has_eq (a : Rc) (px py : Int) : hasB a px py = (rightB a && decide (a.x ≤ px ∧ px < a.x + a.w ∧ a.y ≤ py ∧ py < a.y + a.h)) := by
  unfold hasB emptyB
  rw [Bool.eq_iff_iff]
  by_cases h : rightB a = true
  · have := rightB_true.1 h
    simp [h]; omega
  · simp [h]
set_option maxHeartbeats 1000000 in
theorem c_rHas (a : Rc) (px py : Int) (w : World) : Calls Try.prog 27 #[.agg #[.int .i64 a.x, .int .i64 a.y, .int .i64 a.w, .int .i64 a.h], .agg #[.int .i64 px, .int .i64 py]] w (RetB (hasB a px py) w) := by
  unfold RetB
  rw [has_eq]
  by_cases h : rightB a = true
  · have g := rightB_true.1 h
    rw [h, Bool.true_and]
    obtain ⟨⟨g1, g2, g3, g4⟩, g5, g6, g7, g8⟩ := g
    rcases (show (¬ (a.x ≤ px)) ∨ ((a.x ≤ px) ∧ ¬ (px < a.x + a.w)) ∨ ((a.x ≤ px) ∧ (px < a.x + a.w) ∧ ¬ (a.y ≤ py)) ∨ ((a.x ≤ px) ∧ (px < a.x + a.w) ∧ (a.y ≤ py) ∧ ¬ (py < a.y + a.h)) ∨ ((a.x ≤ px) ∧ (px < a.x + a.w) ∧ (a.y ≤ py) ∧ (py < a.y + a.h)) from by omega) with c0 | ⟨c0, c1⟩ | ⟨c0, c1, c2⟩ | ⟨c0, c1, c2, c3⟩ | ⟨c0, c1, c2, c3⟩
    · rw [show decide (a.x ≤ px ∧ px < a.x + a.w ∧ a.y ≤ py ∧ py < a.y + a.h) = false from decide_eq_false (by omega)]
      have d0 : decide (a.x ≤ px) = false := decide_eq_false c0
      clear c0
      go_enter Try.func27, Try.ntmps27
      go_wp2_with fail
      refine (c_rRight a _).mono ?_
      rintro e w1 ⟨rfl, hb⟩
      obtain ⟨hc, hf⟩ := bcell hb
      have HB := Aside0.mk (below_step (below_alloc (below_alloc (Below.refl _ _) _) _) hb)
      clear hb
      go_wp2_with fail
      go_ret
      exact ⟨rfl, HB.out⟩
    · rw [show decide (a.x ≤ px ∧ px < a.x + a.w ∧ a.y ≤ py ∧ py < a.y + a.h) = false from decide_eq_false (by omega)]
      have d0 : decide (a.x ≤ px) = true := decide_eq_true c0
      have d1 : decide (px < a.x + a.w) = false := decide_eq_false c1
      clear c0 c1
      go_enter Try.func27, Try.ntmps27
      go_wp2_with fail
      refine (c_rRight a _).mono ?_
      rintro e w1 ⟨rfl, hb⟩
      obtain ⟨hc, hf⟩ := bcell hb
      have HB := Aside0.mk (below_step (below_alloc (below_alloc (Below.refl _ _) _) _) hb)
      clear hb
      go_wp2_with fail
      go_ret
      exact ⟨rfl, HB.out⟩
    · rw [show decide (a.x ≤ px ∧ px < a.x + a.w ∧ a.y ≤ py ∧ py < a.y + a.h) = false from decide_eq_false (by omega)]
      have d0 : decide (a.x ≤ px) = true := decide_eq_true c0
      have d1 : decide (px < a.x + a.w) = true := decide_eq_true c1
      have d2 : decide (a.y ≤ py) = false := decide_eq_false c2
      clear c0 c1 c2
      go_enter Try.func27, Try.ntmps27
      go_wp2_with fail
      refine (c_rRight a _).mono ?_
      rintro e w1 ⟨rfl, hb⟩
      obtain ⟨hc, hf⟩ := bcell hb
      have HB := Aside0.mk (below_step (below_alloc (below_alloc (Below.refl _ _) _) _) hb)
      clear hb
      go_wp2_with fail
      go_ret
      exact ⟨rfl, HB.out⟩
    · rw [show decide (a.x ≤ px ∧ px < a.x + a.w ∧ a.y ≤ py ∧ py < a.y + a.h) = false from decide_eq_false (by omega)]
      have d0 : decide (a.x ≤ px) = true := decide_eq_true c0
      have d1 : decide (px < a.x + a.w) = true := decide_eq_true c1
      have d2 : decide (a.y ≤ py) = true := decide_eq_true c2
      have d3 : decide (py < a.y + a.h) = false := decide_eq_false c3
      clear c0 c1 c2 c3
      go_enter Try.func27, Try.ntmps27
      go_wp2_with fail
      refine (c_rRight a _).mono ?_
      rintro e w1 ⟨rfl, hb⟩
      obtain ⟨hc, hf⟩ := bcell hb
      have HB := Aside0.mk (below_step (below_alloc (below_alloc (Below.refl _ _) _) _) hb)
      clear hb
      go_wp2_with fail
      go_ret
      exact ⟨rfl, HB.out⟩
    · rw [show decide (a.x ≤ px ∧ px < a.x + a.w ∧ a.y ≤ py ∧ py < a.y + a.h) = true from decide_eq_true (by omega)]
      have d0 : decide (a.x ≤ px) = true := decide_eq_true c0
      have d1 : decide (px < a.x + a.w) = true := decide_eq_true c1
      have d2 : decide (a.y ≤ py) = true := decide_eq_true c2
      have d3 : decide (py < a.y + a.h) = true := decide_eq_true c3
      clear c0 c1 c2 c3
      go_enter Try.func27, Try.ntmps27
      go_wp2_with fail
      refine (c_rRight a _).mono ?_
      rintro e w1 ⟨rfl, hb⟩
      obtain ⟨hc, hf⟩ := bcell hb
      have HB := Aside0.mk (below_step (below_alloc (below_alloc (Below.refl _ _) _) _) hb)
      clear hb
      go_wp2_with fail
      go_ret
      exact ⟨rfl, HB.out⟩
  · simp only [Bool.not_eq_true] at h
    rw [h, Bool.false_and]
    go_enter Try.func27, Try.ntmps27
    go_wp2_with fail
    refine (c_rRight a _).mono ?_
    rintro e w1 ⟨rfl, hb⟩
    go_wp2_with fail
    go_ret
    exact ⟨rfl, below_step (below_alloc (below_alloc (Below.refl _ _) _) _) hb⟩
end Go.Proofs.Ytechhbmaamjllaa.Geo
