/- Rectangles, for clients that stand free: the contract of the reference's Keep. -/
import Derived.Test.YtajpnmiblepmkaaFlG
import Derived.Test.YtajpnmiblepmkaaPKeepx1
import Derived.Test.YtajpnmiblepmkaaPKeepx2
namespace Go.Proofs.Ytajpnmiblepmkaa.Geo
open Go.RowKit Go.Proofs.YtajpnmiblepmkaaW.PrintMore Go.Proofs.YtajpnmiblepmkaaW.PrintWords Go.Proofs.YtajpnmiblepmkaaW.PrintLast Go.Proofs.Ytajpnmiblepmkaa.Fl
set_option linter.unusedVariables false
set_option linter.unusedSimpArgs false
attribute [local go_sem] max2_int min2_int max_two min_two max_three min_three

theorem rK_into (p n i m : Int) (h : sideB p n = true) (h' : sideB i m = true) : Go.Proofs.Ytajpnmiblepmkaa.PKeep.casementref01_into.f 1 p n i m = some (keepI p n i m) := by
  have := sideB_true.1 h
  have := sideB_true.1 h'
  unfold Go.Proofs.Ytajpnmiblepmkaa.PKeep.casementref01_into.f keepI
  by_cases c1 : n ≥ m
  · rw [if_pos c1]; simp only [Go.Proofs.Ytajpnmiblepmkaa.PKeep.casementref01_into.j0, if_true]; congr 1; omega
  · rw [if_neg c1]; simp only [Go.Proofs.Ytajpnmiblepmkaa.PKeep.casementref01_into.j0]
    by_cases c2 : p < i
    · rw [if_pos (by simpa using c2)]; congr 1; omega
    · rw [if_neg (by simpa using c2), wrap64_i (n := p + n) (by omega) (by omega), wrap64_i (n := i + m) (by omega) (by omega), wrap64_i (n := i + m - n) (by omega) (by omega)]
      split <;> (congr 1; omega)
theorem rK_keep (a b : Rc) : Go.Proofs.Ytajpnmiblepmkaa.PKeep.casementref01_Keep.f 2 a.x a.y a.w a.h b.x b.y b.w b.h = some ((keepP a b).x, (keepP a b).y, (keepP a b).w, (keepP a b).h) := by
  unfold Go.Proofs.Ytajpnmiblepmkaa.PKeep.casementref01_Keep.f keepP
  rw [rK_right]
  simp only [Option.bind_some]
  by_cases h : rightB a = true
  · rw [if_pos h, rK_right]
    simp only [Option.bind_some]
    by_cases h' : rightB b = true
    · have h1 : sideB a.x a.w = true ∧ sideB a.y a.h = true := by simpa [rightB] using h
      have h2 : sideB b.x b.w = true ∧ sideB b.y b.h = true := by simpa [rightB] using h'
      have g1 := sideB_true.1 h1.1
      have g2 := sideB_true.1 h1.2
      have g3 := sideB_true.1 h2.1
      have g4 := sideB_true.1 h2.2
      simp only [Go.Proofs.Ytajpnmiblepmkaa.PKeep.casementref01_Keep.j0, h, h', Bool.not_true, Bool.false_eq_true, if_false, Bool.and_self, if_true]
      rw [rK_into _ _ _ _ h1.1 h2.1, rK_into _ _ _ _ h1.2 h2.2]
      simp only [Option.bind_some]
      rw [wrap64_i (n := keepI a.x a.w b.x b.w - a.x) (by unfold keepI; omega) (by unfold keepI; omega), wrap64_i (n := keepI a.y a.h b.y b.h - a.y) (by unfold keepI; omega) (by unfold keepI; omega), rK_shift _ _ _ (by unfold I64 keepI; omega) (by unfold I64 keepI; omega)]
      simp only [Option.bind_some]
    · simp only [Bool.not_eq_true] at h'
      simp [Go.Proofs.Ytajpnmiblepmkaa.PKeep.casementref01_Keep.j0, h, h', z4]
  · simp only [Bool.not_eq_true] at h
    simp [Go.Proofs.Ytajpnmiblepmkaa.PKeep.casementref01_Keep.j0, h, z4]
theorem c_rKeep (a b : Rc) (w : World) : Calls Try.prog 35 #[.agg #[.int .i64 a.x, .int .i64 a.y, .int .i64 a.w, .int .i64 a.h], .agg #[.int .i64 b.x, .int .i64 b.y, .int .i64 b.w, .int .i64 b.h]] w (RetR (keepP a b) w) := Go.Proofs.Ytajpnmiblepmkaa.PKeep.casementref01_Keep.calls 2 a.x a.y a.w a.h b.x b.y b.w b.h _ _ _ _ w (rK_keep a b)

end Go.Proofs.Ytajpnmiblepmkaa.Geo
