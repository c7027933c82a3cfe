/- Rectangles, for clients that stand free: the contracts of geom and of its reference that they use. -/
import Derived.Test.YtajpnmiblepmkaaSzG
import Derived.Test.YtajpnmiblepmkaaFlP
import Derived.Test.YtajpnmiblepmkaaPMovex1
import Derived.Test.YtajpnmiblepmkaaPMovex2
import Derived.Test.YtajpnmiblepmkaaPKeepx1
namespace Go.Proofs.Ytajpnmiblepmkaa.Geo
open Go.RowKit Go.Proofs.YtajpnmiblepmkaaW.PrintMore Go.Proofs.YtajpnmiblepmkaaW.PrintWords Go.Proofs.YtajpnmiblepmkaaW.PrintLast Go.Proofs.Ytajpnmiblepmkaa.Fl
set_option linter.unusedVariables false
set_option linter.unusedSimpArgs false
attribute [local go_sem] max2_int min2_int max_two min_two max_three min_three

theorem mx_eq (a b : Int) : mx a b = max a b := by unfold mx; omega
theorem mn_eq (a b : Int) : mn a b = min a b := by unfold mn; omega
def RetB (b : Bool) (w : World) (e : Ending) (w' : World) : Prop := e = .returned (.bool b) ∧ Below w.heap.size w w'
def RetI (n : Int) (w : World) (e : Ending) (w' : World) : Prop := e = .returned (.int .i64 n) ∧ Below w.heap.size w w'
def RetR (a : Rc) (w : World) (e : Ending) (w' : World) : Prop := e = .returned (.agg #[.int .i64 a.x, .int .i64 a.y, .int .i64 a.w, .int .i64 a.h]) ∧ Below w.heap.size w w'
theorem cell_held {W w1 : World} {a : Addr} {v : Value} (hb : Below W.heap.size W w1) (h : W.cell? a = some v) : w1.cell? a = some v := (hb.cell (World.block_lt_of_cell? W _ h)).trans h

section  -- by the print of the program's Move
theorem side_eq (p n : Int) : Go.Proofs.Ytajpnmiblepmkaa.PMove.geom_side.f p n = some (sideB p n) := by
  unfold Go.Proofs.Ytajpnmiblepmkaa.PMove.geom_side.f sideB
  split
  · split
    · split
      · rw [wrap64_i (n := 32767 - p) (by omega) (by omega), wrap64_i (by omega) (by omega)]
        congr 1; simp only [decide_eq_decide]; omega
      · congr 1; simp; omega
    · congr 1; simp; omega
  · congr 1; simp; omega
theorem right_eq (a : Rc) : Go.Proofs.Ytajpnmiblepmkaa.PMove.geom_Right.f a.x a.y a.w a.h = some (rightB a) := by
  unfold Go.Proofs.Ytajpnmiblepmkaa.PMove.geom_Right.f rightB
  rw [side_eq, side_eq]
  simp only [Option.bind_some]
  cases sideB a.x a.w <;> simp
theorem empty_eq (a : Rc) : Go.Proofs.Ytajpnmiblepmkaa.PMove.geom_Empty.f a.x a.y a.w a.h = some (emptyB a) := by
  unfold Go.Proofs.Ytajpnmiblepmkaa.PMove.geom_Empty.f emptyB
  rw [right_eq]
  simp only [Option.bind_some]
  cases rightB a <;> simp
  by_cases h : a.w = 0 <;> simp [h]
theorem span_eq (v l m : Int) : Go.Proofs.Ytajpnmiblepmkaa.PMove.geom_Span.f v l m = some (spanP v l m) := by
  unfold Go.Proofs.Ytajpnmiblepmkaa.PMove.geom_Span.f Go.Proofs.Ytajpnmiblepmkaa.PMove.geom_between_int.f spanP
  simp only [Option.bind_some, mx_eq, mn_eq, Int.min_comm]
theorem slide_eq (p n d : Int) (h : sideB p n = true) : (Go.Proofs.Ytajpnmiblepmkaa.PMove.geom_slide.f p n d).map (fun v => mn v 32767) = some (slideP p n d) := by
  have := sideB_true.1 h
  unfold Go.Proofs.Ytajpnmiblepmkaa.PMove.geom_slide.f slideP
  rw [wrap64_i (n := 32767 - n) (by omega) (by omega), wrap64_i (n := 32767 - n + 1) (by omega) (by omega), wrap64_i (n := 32767 - n + 1 - p) (by omega) (by omega), wrap64_i (n := -32768 - p) (by omega) (by omega)]
  simp only [mn_eq]
  by_cases c1 : d > 32768 - n - p
  · rw [if_pos (show d > 32767 - n + 1 - p by omega), if_pos c1]; simp only [Option.map_some]; congr 1; omega
  · rw [if_neg (show ¬ d > 32767 - n + 1 - p by omega), if_neg c1]
    by_cases c2 : d < -32768 - p
    · rw [if_pos c2, if_pos c2]; rfl
    · rw [if_neg c2, if_neg c2, wrap64_i (n := p + d) (by omega) (by omega)]; simp only [Option.map_some]; congr 1; omega
theorem shift_eq (a : Rc) (dx dy : Int) : Go.Proofs.Ytajpnmiblepmkaa.PMove.geom_Shift.f a.x a.y a.w a.h dx dy = some ((shiftP a dx dy).x, (shiftP a dx dy).y, (shiftP a dx dy).w, (shiftP a dx dy).h) := by
  unfold Go.Proofs.Ytajpnmiblepmkaa.PMove.geom_Shift.f shiftP
  rw [right_eq]
  simp only [Option.bind_some]
  by_cases h : rightB a = true
  · simp only [if_pos h]
    have h1 : sideB a.x a.w = true ∧ sideB a.y a.h = true := by simpa [rightB] using h
    have e1 := slide_eq a.x a.w dx h1.1
    have e2 := slide_eq a.y a.h dy h1.2
    obtain ⟨v1, q1, q2⟩ := Option.map_eq_some_iff.1 e1
    obtain ⟨v2, q3, q4⟩ := Option.map_eq_some_iff.1 e2
    rw [q1, q3]; simp only [Option.bind_some]; rw [q2, q4]
  · simp only [if_neg h]; rfl

theorem laid_eq (x y w t : Int) (hx : -1000000 ≤ x ∧ x ≤ 1000000) (hy : -1000000 ≤ y ∧ y ≤ 1000000) : Go.Proofs.Ytajpnmiblepmkaa.PMove.float_laid.f x y w t = some ((laidP x y w t).x, (laidP x y w t).y, (laidP x y w t).w, (laidP x y w t).h) := by
  unfold Go.Proofs.Ytajpnmiblepmkaa.PMove.float_laid.f laidP
  rw [wrap64_i (n := x - -32768) (by omega) (by omega), wrap64_i (n := y - -32768) (by omega) (by omega), show x - -32768 = x + 32768 by omega, show y - -32768 = y + 32768 by omega]
  have := shift_eq ⟨-32768, -32768, w, t⟩ (x + 32768) (y + 32768)
  dsimp only at this
  rw [this]
  rfl
theorem grip_eq (p n i m : Int) (h : sideB p n = true) (h' : sideB i m = true) : Go.Proofs.Ytajpnmiblepmkaa.PMove.float_grip.f p n i m = some (gripP p n i m) := by
  have := sideB_true.1 h
  have := sideB_true.1 h'
  unfold Go.Proofs.Ytajpnmiblepmkaa.PMove.float_grip.f gripP
  rw [mn_eq, mn_eq, wrap64_i (n := i - n) (by omega) (by omega), wrap64_i (n := i + m) (by omega) (by omega), wrap64_i (by omega) (by omega), wrap64_i (by omega) (by omega), span_eq]
  simp only [Option.bind_some]
  rw [show min (min 16 n) m = min 16 (min n m) by omega]
theorem grip_bd {p n i m : Int} (h : sideB p n = true) (h' : sideB i m = true) : -1000000 ≤ gripP p n i m ∧ gripP p n i m ≤ 1000000 := by
  have := sideB_true.1 h
  have := sideB_true.1 h'
  unfold gripP spanP
  omega
theorem shift_right {r : Rc} {dx dy : Int} (h : emptyB (shiftP r dx dy) = false) : rightB (shiftP r dx dy) = true := (emptyB_false.1 h).1
theorem move_eq (r work : Rc) (dx dy : Int) : Go.Proofs.Ytajpnmiblepmkaa.PMove.float_Move.f 1 r.x r.y r.w r.h work.x work.y work.w work.h dx dy = some ((moveP r work dx dy).x, (moveP r work dx dy).y, (moveP r work dx dy).w, (moveP r work dx dy).h) := by
  unfold Go.Proofs.Ytajpnmiblepmkaa.PMove.float_Move.f moveP
  rw [shift_eq]
  simp only [Option.bind_some]
  obtain ⟨s, hs⟩ : ∃ s, s = shiftP r dx dy := ⟨_, rfl⟩
  rw [← hs, empty_eq]
  simp only [Option.bind_some]
  by_cases h : emptyB s = true
  · rw [if_pos h, h]
    simp only [Go.Proofs.Ytajpnmiblepmkaa.PMove.float_Move.j0, if_true, Bool.true_or]
  · rw [if_neg h, empty_eq]
    simp only [Option.bind_some]
    simp only [Bool.not_eq_true] at h
    by_cases h' : emptyB work = true
    · rw [h, h']
      simp only [Go.Proofs.Ytajpnmiblepmkaa.PMove.float_Move.j0, if_true, Bool.or_true]
    · simp only [Bool.not_eq_true] at h'
      rw [h, h']
      have g1 : sideB s.x s.w = true ∧ sideB s.y s.h = true := by have := (emptyB_false.1 h).1; simpa [rightB] using this
      have g2 : sideB work.x work.w = true ∧ sideB work.y work.h = true := by have := (emptyB_false.1 h').1; simpa [rightB] using this
      simp only [Go.Proofs.Ytajpnmiblepmkaa.PMove.float_Move.j0, Bool.or_self, Bool.false_eq_true, if_false]
      rw [grip_eq _ _ _ _ g1.1 g2.1, grip_eq _ _ _ _ g1.2 g2.2]
      simp only [Option.bind_some]
      rw [laid_eq _ _ _ _ (grip_bd g1.1 g2.1) (grip_bd g1.2 g2.2)]
      simp only [Option.bind_some]
end
theorem c_gRight (a : Rc) (w : World) : Calls Try.prog 18 #[.agg #[.int .i64 a.x, .int .i64 a.y, .int .i64 a.w, .int .i64 a.h]] w (RetB (rightB a) w) :=
  (Go.Proofs.Ytajpnmiblepmkaa.PMove.geom_Right.calls a.x a.y a.w a.h _ w (right_eq a)).mono fun e w' h => ⟨h.1, by first | exact h.2 | (rw [← h.2]; exact Below.refl _ _) | (obtain ⟨n, rfl⟩ := h.2.out; exact pw_below_drewN (Below.refl _ _) n)⟩
theorem c_gEmpty (a : Rc) (w : World) : Calls Try.prog 19 #[.agg #[.int .i64 a.x, .int .i64 a.y, .int .i64 a.w, .int .i64 a.h]] w (RetB (emptyB a) w) :=
  (Go.Proofs.Ytajpnmiblepmkaa.PMove.geom_Empty.calls a.x a.y a.w a.h _ w (empty_eq a)).mono fun e w' h => ⟨h.1, by first | exact h.2 | (rw [← h.2]; exact Below.refl _ _) | (obtain ⟨n, rfl⟩ := h.2.out; exact pw_below_drewN (Below.refl _ _) n)⟩
theorem c_gShift (a : Rc) (dx dy : Int) (w : World) : Calls Try.prog 20 #[.agg #[.int .i64 a.x, .int .i64 a.y, .int .i64 a.w, .int .i64 a.h], .int .i64 dx, .int .i64 dy] w (RetR (shiftP a dx dy) w) := Go.Proofs.Ytajpnmiblepmkaa.PMove.geom_Shift.calls a.x a.y a.w a.h dx dy _ _ _ _ w (shift_eq a dx dy)
theorem c_laid (x y wd t : Int) (hx : -1000000 ≤ x ∧ x ≤ 1000000) (hy : -1000000 ≤ y ∧ y ≤ 1000000) (w : World) : Calls Try.prog 28 #[.int .i64 x, .int .i64 y, .int .i64 wd, .int .i64 t] w (RetR (laidP x y wd t) w) := Go.Proofs.Ytajpnmiblepmkaa.PMove.float_laid.calls x y wd t _ _ _ _ w (laid_eq x y wd t hx hy)
theorem c_move (r k : Rc) (dx dy : Int) (w : World) : Calls Try.prog 12 #[.agg #[.int .i64 r.x, .int .i64 r.y, .int .i64 r.w, .int .i64 r.h], .agg #[.int .i64 k.x, .int .i64 k.y, .int .i64 k.w, .int .i64 k.h], .int .i64 dx, .int .i64 dy] w (RetR (moveP r k dx dy) w) := Go.Proofs.Ytajpnmiblepmkaa.PMove.float_Move.calls 1 r.x r.y r.w r.h k.x k.y k.w k.h dx dy _ _ _ _ w (move_eq r k dx dy)

/- The reference. -/
theorem rright_body (x y w h : Int) : (if x < (-32768) then (some false) else (if x > 32767 then (some false) else (if y < (-32768) then (some false) else (if y > 32767 then (some false) else (if w < 0 then (some false) else (if h < 0 then (some false) else (if w > 65536 then (some false) else (if h > 65536 then (some false) else (if (wrap64 (x + w)) ≤ 32768 then (some (decide ((wrap64 (y + h)) ≤ 32768))) else (some false))))))))) : Option Bool) = some (rightB ⟨x, y, w, h⟩) := by
  by_cases c1 : x < -32768
  · rw [if_pos c1, rightB_false.2 (by dsimp only; omega)]
  rw [if_neg c1]
  by_cases c2 : x > 32767
  · rw [if_pos c2, rightB_false.2 (by dsimp only; omega)]
  rw [if_neg c2]
  by_cases c3 : y < -32768
  · rw [if_pos c3, rightB_false.2 (by dsimp only; omega)]
  rw [if_neg c3]
  by_cases c4 : y > 32767
  · rw [if_pos c4, rightB_false.2 (by dsimp only; omega)]
  rw [if_neg c4]
  by_cases c5 : w < 0
  · rw [if_pos c5, rightB_false.2 (by dsimp only; omega)]
  rw [if_neg c5]
  by_cases c6 : h < 0
  · rw [if_pos c6, rightB_false.2 (by dsimp only; omega)]
  rw [if_neg c6]
  by_cases c7 : w > 65536
  · rw [if_pos c7, rightB_false.2 (by dsimp only; omega)]
  rw [if_neg c7]
  by_cases c8 : h > 65536
  · rw [if_pos c8, rightB_false.2 (by dsimp only; omega)]
  rw [if_neg c8, wrap64_i (n := x + w) (by omega) (by omega), wrap64_i (n := y + h) (by omega) (by omega)]
  by_cases c9 : x + w ≤ 32768
  · rw [if_pos c9]
    congr 1
    by_cases c10 : y + h ≤ 32768
    · rw [rightB_true.2 (by dsimp only; omega)]; simpa using c10
    · rw [rightB_false.2 (by dsimp only; omega)]; simpa using c10
  · rw [if_neg c9, rightB_false.2 (by dsimp only; omega)]

section  -- by the print of the reference's Keep
theorem rK_right (a : Rc) : Go.Proofs.Ytajpnmiblepmkaa.PKeep.casementref01_Right.f a.x a.y a.w a.h = some (rightB a) := by
  unfold Go.Proofs.Ytajpnmiblepmkaa.PKeep.casementref01_Right.f; exact rright_body _ _ _ _
theorem rK_least (p q : Int) : Go.Proofs.Ytajpnmiblepmkaa.PKeep.casementref01_least.f p q = some (min p q) := by
  unfold Go.Proofs.Ytajpnmiblepmkaa.PKeep.casementref01_least.f; split <;> (congr 1; omega)
theorem rK_most (p q : Int) : Go.Proofs.Ytajpnmiblepmkaa.PKeep.casementref01_most.f p q = some (max p q) := by
  unfold Go.Proofs.Ytajpnmiblepmkaa.PKeep.casementref01_most.f; split <;> (congr 1; omega)
theorem rK_slide (p n d : Int) (hd : I64 d) (h : sideB p n = true) : Go.Proofs.Ytajpnmiblepmkaa.PKeep.casementref01_slide.f 1 p n d = some (slideP p n d) := by
  have := sideB_true.1 h
  unfold I64 at hd
  unfold Go.Proofs.Ytajpnmiblepmkaa.PKeep.casementref01_slide.f slideP
  rw [wrap64_i (n := 32768 - n) (by omega) (by omega)]
  by_cases c1 : d > 140000
  · rw [if_pos c1]
    simp only [Go.Proofs.Ytajpnmiblepmkaa.PKeep.casementref01_slide.j0]
    rw [if_neg (by omega), wrap64_i (n := p + 140000) (by omega) (by omega), rK_least]
    simp only [Option.bind_some, rK_most, rK_least]
    congr 1; rw [if_pos (by omega)]; omega
  · rw [if_neg c1]
    simp only [Go.Proofs.Ytajpnmiblepmkaa.PKeep.casementref01_slide.j0]
    by_cases c2 : d < -140000
    · rw [if_pos c2, wrap64_i (n := p + -140000) (by omega) (by omega), rK_least]
      simp only [Option.bind_some, rK_most, rK_least]
      congr 1; rw [if_neg (by omega), if_pos (by omega)]; omega
    · rw [if_neg c2, wrap64_i (n := p + d) (by omega) (by omega), rK_least]
      simp only [Option.bind_some, rK_most, rK_least]
      congr 1
      by_cases c3 : d > 32768 - n - p
      · rw [if_pos c3]; omega
      · rw [if_neg c3]
        by_cases c4 : d < -32768 - p
        · rw [if_pos c4]; omega
        · rw [if_neg c4]; omega
theorem rK_shift (a : Rc) (dx dy : Int) (hx : I64 dx) (hy : I64 dy) : Go.Proofs.Ytajpnmiblepmkaa.PKeep.casementref01_Shift.f 1 a.x a.y a.w a.h dx dy = some ((shiftP a dx dy).x, (shiftP a dx dy).y, (shiftP a dx dy).w, (shiftP a dx dy).h) := by
  unfold Go.Proofs.Ytajpnmiblepmkaa.PKeep.casementref01_Shift.f shiftP
  rw [rK_right]
  simp only [Option.bind_some]
  by_cases h : rightB a = true
  · simp only [if_pos h]
    have h1 : sideB a.x a.w = true ∧ sideB a.y a.h = true := by simpa [rightB] using h
    rw [rK_slide _ _ _ hx h1.1, rK_slide _ _ _ hy h1.2]; rfl
  · simp only [if_neg h]; rfl
end
theorem c_rRight (a : Rc) (w : World) : Calls Try.prog 41 #[.agg #[.int .i64 a.x, .int .i64 a.y, .int .i64 a.w, .int .i64 a.h]] w (RetB (rightB a) w) :=
  (Go.Proofs.Ytajpnmiblepmkaa.PKeep.casementref01_Right.calls a.x a.y a.w a.h _ w (rK_right a)).mono fun e w' h => ⟨h.1, by first | exact h.2 | (rw [← h.2]; exact Below.refl _ _) | (obtain ⟨n, rfl⟩ := h.2.out; exact pw_below_drewN (Below.refl _ _) n)⟩
theorem c_rShift (a : Rc) (dx dy : Int) (hx : I64 dx) (hy : I64 dy) (w : World) : Calls Try.prog 38 #[.agg #[.int .i64 a.x, .int .i64 a.y, .int .i64 a.w, .int .i64 a.h], .int .i64 dx, .int .i64 dy] w (RetR (shiftP a dx dy) w) := Go.Proofs.Ytajpnmiblepmkaa.PKeep.casementref01_Shift.calls 1 a.x a.y a.w a.h dx dy _ _ _ _ w (rK_shift a dx dy hx hy)
end Go.Proofs.Ytajpnmiblepmkaa.Geo
