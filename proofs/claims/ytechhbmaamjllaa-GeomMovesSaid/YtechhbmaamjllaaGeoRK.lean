/- The contracts of the reference's Shift and Keep. -/
import Derived.Test.YtechhbmaamjllaaGeoRI
import Derived.Test.YtechhbmaamjllaaPKeepx1
import Derived.Test.YtechhbmaamjllaaPKeepx2
namespace Go.Proofs.Ytechhbmaamjllaa.Geo
open Go.RowKit Go.Proofs.YtechhbmaamjllaaW.PrintMore Go.Proofs.YtechhbmaamjllaaW.PrintWords Go.Proofs.YtechhbmaamjllaaW.PrintLast
set_option linter.unusedVariables false
set_option linter.unusedSimpArgs false

section  -- by the print of the reference's Keep
theorem rK_right (a : Rc) : Go.Proofs.Ytechhbmaamjllaa.PKeep.casementref01_Right.f a.x a.y a.w a.h = some (rightB a) := by
  unfold Go.Proofs.Ytechhbmaamjllaa.PKeep.casementref01_Right.f; exact rright_body _ _ _ _
theorem rK_least (p q : Int) : Go.Proofs.Ytechhbmaamjllaa.PKeep.casementref01_least.f p q = some (min p q) := by
  unfold Go.Proofs.Ytechhbmaamjllaa.PKeep.casementref01_least.f; split <;> (congr 1; omega)
theorem rK_most (p q : Int) : Go.Proofs.Ytechhbmaamjllaa.PKeep.casementref01_most.f p q = some (max p q) := by
  unfold Go.Proofs.Ytechhbmaamjllaa.PKeep.casementref01_most.f; split <;> (congr 1; omega)
theorem rK_slide (p n d : Int) (hd : I64 d) (h : sideB p n = true) : Go.Proofs.Ytechhbmaamjllaa.PKeep.casementref01_slide.f 1 p n d = some (slideP p n d) := by
  have := sideB_true.1 h
  unfold I64 at hd
  unfold Go.Proofs.Ytechhbmaamjllaa.PKeep.casementref01_slide.f slideP
  rw [wrap64_i (n := 32768 - n) (by omega) (by omega)]
  by_cases c1 : d > 140000
  · rw [if_pos c1]
    simp only [Go.Proofs.Ytechhbmaamjllaa.PKeep.casementref01_slide.j0]
    rw [if_neg (by omega), wrap64_i (n := p + 140000) (by omega) (by omega), rK_least]
    simp only [Option.bind_some, rK_most, rK_least]
    congr 1; rw [if_pos (by omega)]; omega
  · rw [if_neg c1]
    simp only [Go.Proofs.Ytechhbmaamjllaa.PKeep.casementref01_slide.j0]
    by_cases c2 : d < -140000
    · rw [if_pos c2, wrap64_i (n := p + -140000) (by omega) (by omega), rK_least]
      simp only [Option.bind_some, rK_most, rK_least]
      congr 1; rw [if_neg (by omega), if_pos (by omega)]; omega
    · rw [if_neg c2, wrap64_i (n := p + d) (by omega) (by omega), rK_least]
      simp only [Option.bind_some, rK_most, rK_least]
      congr 1
      by_cases c3 : d > 32768 - n - p
      · rw [if_pos c3]; omega
      · rw [if_neg c3]
        by_cases c4 : d < -32768 - p
        · rw [if_pos c4]; omega
        · rw [if_neg c4]; omega
theorem rK_shift (a : Rc) (dx dy : Int) (hx : I64 dx) (hy : I64 dy) : Go.Proofs.Ytechhbmaamjllaa.PKeep.casementref01_Shift.f 1 a.x a.y a.w a.h dx dy = some ((shiftP a dx dy).x, (shiftP a dx dy).y, (shiftP a dx dy).w, (shiftP a dx dy).h) := by
  unfold Go.Proofs.Ytechhbmaamjllaa.PKeep.casementref01_Shift.f shiftP
  rw [rK_right]
  simp only [Option.bind_some]
  by_cases h : rightB a = true
  · simp only [if_pos h]
    have h1 : sideB a.x a.w = true ∧ sideB a.y a.h = true := by simpa [rightB] using h
    rw [rK_slide _ _ _ hx h1.1, rK_slide _ _ _ hy h1.2]; rfl
  · simp only [if_neg h]; rfl
theorem rK_into (p n i m : Int) (h : sideB p n = true) (h' : sideB i m = true) : Go.Proofs.Ytechhbmaamjllaa.PKeep.casementref01_into.f 1 p n i m = some (keepI p n i m) := by
  have := sideB_true.1 h
  have := sideB_true.1 h'
  unfold Go.Proofs.Ytechhbmaamjllaa.PKeep.casementref01_into.f keepI
  by_cases c1 : n ≥ m
  · rw [if_pos c1]; simp only [Go.Proofs.Ytechhbmaamjllaa.PKeep.casementref01_into.j0, if_true]; congr 1; omega
  · rw [if_neg c1]; simp only [Go.Proofs.Ytechhbmaamjllaa.PKeep.casementref01_into.j0]
    by_cases c2 : p < i
    · rw [if_pos (by simpa using c2)]; congr 1; omega
    · rw [if_neg (by simpa using c2), wrap64_i (n := p + n) (by omega) (by omega), wrap64_i (n := i + m) (by omega) (by omega), wrap64_i (n := i + m - n) (by omega) (by omega)]
      split <;> (congr 1; omega)
theorem rK_keep (a b : Rc) : Go.Proofs.Ytechhbmaamjllaa.PKeep.casementref01_Keep.f 2 a.x a.y a.w a.h b.x b.y b.w b.h = some ((keepP a b).x, (keepP a b).y, (keepP a b).w, (keepP a b).h) := by
  unfold Go.Proofs.Ytechhbmaamjllaa.PKeep.casementref01_Keep.f keepP
  rw [rK_right]
  simp only [Option.bind_some]
  by_cases h : rightB a = true
  · rw [if_pos h, rK_right]
    simp only [Option.bind_some]
    by_cases h' : rightB b = true
    · have h1 : sideB a.x a.w = true ∧ sideB a.y a.h = true := by simpa [rightB] using h
      have h2 : sideB b.x b.w = true ∧ sideB b.y b.h = true := by simpa [rightB] using h'
      have g1 := sideB_true.1 h1.1
      have g2 := sideB_true.1 h1.2
      have g3 := sideB_true.1 h2.1
      have g4 := sideB_true.1 h2.2
      simp only [Go.Proofs.Ytechhbmaamjllaa.PKeep.casementref01_Keep.j0, h, h', Bool.not_true, Bool.false_eq_true, if_false, Bool.and_self, if_true]
      rw [rK_into _ _ _ _ h1.1 h2.1, rK_into _ _ _ _ h1.2 h2.2]
      simp only [Option.bind_some]
      rw [wrap64_i (n := keepI a.x a.w b.x b.w - a.x) (by unfold keepI; omega) (by unfold keepI; omega), wrap64_i (n := keepI a.y a.h b.y b.h - a.y) (by unfold keepI; omega) (by unfold keepI; omega), rK_shift _ _ _ (by unfold I64 keepI; omega) (by unfold I64 keepI; omega)]
      simp only [Option.bind_some]
    · simp only [Bool.not_eq_true] at h'
      simp [Go.Proofs.Ytechhbmaamjllaa.PKeep.casementref01_Keep.j0, h, h', z4]
  · simp only [Bool.not_eq_true] at h
    simp [Go.Proofs.Ytechhbmaamjllaa.PKeep.casementref01_Keep.j0, h, z4]
end
theorem c_rShift (a : Rc) (dx dy : Int) (hx : I64 dx) (hy : I64 dy) (w : World) : Calls Try.prog 10 #[.agg #[.int .i64 a.x, .int .i64 a.y, .int .i64 a.w, .int .i64 a.h], .int .i64 dx, .int .i64 dy] w (RetR (shiftP a dx dy) w) := Go.Proofs.Ytechhbmaamjllaa.PKeep.casementref01_Shift.calls 1 a.x a.y a.w a.h dx dy _ _ _ _ w (rK_shift a dx dy hx hy)
theorem c_rKeep (a b : Rc) (w : World) : Calls Try.prog 14 #[.agg #[.int .i64 a.x, .int .i64 a.y, .int .i64 a.w, .int .i64 a.h], .agg #[.int .i64 b.x, .int .i64 b.y, .int .i64 b.w, .int .i64 b.h]] w (RetR (keepP a b) w) := Go.Proofs.Ytechhbmaamjllaa.PKeep.casementref01_Keep.calls 2 a.x a.y a.w a.h b.x b.y b.w b.h _ _ _ _ w (rK_keep a b)
end Go.Proofs.Ytechhbmaamjllaa.Geo
