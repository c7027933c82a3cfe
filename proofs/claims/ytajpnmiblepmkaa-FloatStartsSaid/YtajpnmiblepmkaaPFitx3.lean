-- PRINTED BY print.sh 35421559b90ae4d0a3588c463048766b98c2df88dd9212a6774a882060cdf62d: not written by this session
import Derived.Test.YtajpnmiblepmkaaPFitx0
namespace Go.Proofs.Ytajpnmiblepmkaa.PFit
open Go.RowKit Go.Proofs.YtajpnmiblepmkaaW.PrintWords Go.Proofs.YtajpnmiblepmkaaW.PrintLast Go.Proofs.YtajpnmiblepmkaaW.PrintMore
attribute [local go_sem] max2_int min2_int max_two min_two max_three min_three max_four min_four   -- for this text's walks alone
set_option linter.unusedVariables false
set_option linter.unusedSimpArgs false

/-! ### casementref09_along: function 45 -/
def casementref09_along.f (a0 : Int) (a1 : Int) (a2 : Int) (a3 : Int) (a4 : Int) : Option (Bool) := if a2 = 0 then (if a0 ≥ a1 then (if a0 ≤ 65535 then (if a0 ≥ a3 then (if a4 = 0 then (none) else (some ((Int.tmod (wrap64 (a0 - a3)) a4) == 0))) else (some false)) else (some false)) else (some false)) else (if a0 ≥ a1 then (if a0 ≤ a2 then (if a0 ≥ a3 then (if a4 = 0 then (none) else (some ((Int.tmod (wrap64 (a0 - a3)) a4) == 0))) else (some false)) else (some false)) else (some false))
set_option maxHeartbeats 8000000 in
set_option maxRecDepth 100000 in
theorem casementref09_along.calls (a0 : Int) (a1 : Int) (a2 : Int) (a3 : Int) (a4 : Int) (r : Bool) (w : World) (h : casementref09_along.f a0 a1 a2 a3 a4 = some r) :
    Calls Try.prog 45 #[.int .i64 a0, .int .i64 a1, .int .i64 a2, .int .i64 a3, .int .i64 a4] w fun e w' => e = .returned (.bool r) ∧ Drawn0 w w' := by
  have H : (if a2 = 0 then (if a0 ≥ a1 then (if a0 ≤ 65535 then (if a0 ≥ a3 then (if a4 = 0 then (none) else (some ((Int.tmod (wrap64 (a0 - a3)) a4) == 0))) else (some false)) else (some false)) else (some false)) else (if a0 ≥ a1 then (if a0 ≤ a2 then (if a0 ≥ a3 then (if a4 = 0 then (none) else (some ((Int.tmod (wrap64 (a0 - a3)) a4) == 0))) else (some false)) else (some false)) else (some false))) = some r := h
  clear h
  by_cases c6 : a2 = 0
  · rw [if_pos c6] at H
    have c6b0 : (a2 == 0) = true := beq_iff_eq.mpr c6
    have c6b1 : (a2 != 0) = false := bne_eq_false_iff_eq.mpr c6
    clear c6
    by_cases c7 : a0 ≥ a1
    · rw [if_pos c7] at H
      have c7b0 : decide (a1 ≤ a0) = true := decide_eq_true c7
      clear c7
      by_cases c8 : a0 ≤ 65535
      · rw [if_pos c8] at H
        have c8b0 : decide (a0 ≤ 65535) = true := decide_eq_true c8
        clear c8
        by_cases c9 : a0 ≥ a3
        · rw [if_pos c9] at H
          have c9b0 : decide (a3 ≤ a0) = true := decide_eq_true c9
          clear c9
          by_cases c10 : a4 = 0
          · rw [if_pos c10] at H
            exact absurd H (by simp)
          · rw [if_neg c10] at H
            have c10b0 : (a4 == 0) = false := beq_eq_false_iff_ne.mpr c10
            have c10b1 : (a4 != 0) = true := bne_iff_ne.mpr c10
            obtain rfl := Option.some.inj H
            go_enter Try.func45, Try.ntmps45
            go_wp2
            go_ret
            exact ⟨by first | rfl | (simp; done) | (simp [*]; done), by repeat (first | exact Drawn0.refl _ | apply Drawn0.step)⟩
        · rw [if_neg c9] at H
          have c9b0 : decide (a3 ≤ a0) = false := decide_eq_false c9
          clear c9
          obtain rfl := Option.some.inj H
          go_enter Try.func45, Try.ntmps45
          go_wp2
          go_ret
          exact ⟨by first | rfl | (simp; done) | (simp [*]; done), by repeat (first | exact Drawn0.refl _ | apply Drawn0.step)⟩
      · rw [if_neg c8] at H
        have c8b0 : decide (a0 ≤ 65535) = false := decide_eq_false c8
        clear c8
        obtain rfl := Option.some.inj H
        go_enter Try.func45, Try.ntmps45
        go_wp2
        go_ret
        exact ⟨by first | rfl | (simp; done) | (simp [*]; done), by repeat (first | exact Drawn0.refl _ | apply Drawn0.step)⟩
    · rw [if_neg c7] at H
      have c7b0 : decide (a1 ≤ a0) = false := decide_eq_false c7
      clear c7
      obtain rfl := Option.some.inj H
      go_enter Try.func45, Try.ntmps45
      go_wp2
      go_ret
      exact ⟨by first | rfl | (simp; done) | (simp [*]; done), by repeat (first | exact Drawn0.refl _ | apply Drawn0.step)⟩
  · rw [if_neg c6] at H
    have c6b0 : (a2 == 0) = false := beq_eq_false_iff_ne.mpr c6
    have c6b1 : (a2 != 0) = true := bne_iff_ne.mpr c6
    by_cases c11 : a0 ≥ a1
    · rw [if_pos c11] at H
      have c11b0 : decide (a1 ≤ a0) = true := decide_eq_true c11
      clear c11
      by_cases c12 : a0 ≤ a2
      · rw [if_pos c12] at H
        have c12b0 : decide (a0 ≤ a2) = true := decide_eq_true c12
        clear c12
        by_cases c13 : a0 ≥ a3
        · rw [if_pos c13] at H
          have c13b0 : decide (a3 ≤ a0) = true := decide_eq_true c13
          clear c13
          by_cases c14 : a4 = 0
          · rw [if_pos c14] at H
            exact absurd H (by simp)
          · rw [if_neg c14] at H
            have c14b0 : (a4 == 0) = false := beq_eq_false_iff_ne.mpr c14
            have c14b1 : (a4 != 0) = true := bne_iff_ne.mpr c14
            obtain rfl := Option.some.inj H
            go_enter Try.func45, Try.ntmps45
            go_wp2
            go_ret
            exact ⟨by first | rfl | (simp; done) | (simp [*]; done), by repeat (first | exact Drawn0.refl _ | apply Drawn0.step)⟩
        · rw [if_neg c13] at H
          have c13b0 : decide (a3 ≤ a0) = false := decide_eq_false c13
          clear c13
          obtain rfl := Option.some.inj H
          go_enter Try.func45, Try.ntmps45
          go_wp2
          go_ret
          exact ⟨by first | rfl | (simp; done) | (simp [*]; done), by repeat (first | exact Drawn0.refl _ | apply Drawn0.step)⟩
      · rw [if_neg c12] at H
        have c12b0 : decide (a0 ≤ a2) = false := decide_eq_false c12
        clear c12
        obtain rfl := Option.some.inj H
        go_enter Try.func45, Try.ntmps45
        go_wp2
        go_ret
        exact ⟨by first | rfl | (simp; done) | (simp [*]; done), by repeat (first | exact Drawn0.refl _ | apply Drawn0.step)⟩
    · rw [if_neg c11] at H
      have c11b0 : decide (a1 ≤ a0) = false := decide_eq_false c11
      clear c11
      obtain rfl := Option.some.inj H
      go_enter Try.func45, Try.ntmps45
      go_wp2
      go_ret
      exact ⟨by first | rfl | (simp; done) | (simp [*]; done), by repeat (first | exact Drawn0.refl _ | apply Drawn0.step)⟩

end Go.Proofs.Ytajpnmiblepmkaa.PFit
