/- What two rectangles have in common: the contract of geom's Inter, by its print. -/
import Derived.Test.YtajpnmiblepmkaaFcG
import Derived.Test.YtajpnmiblepmkaaPInterx1
import Derived.Test.YtajpnmiblepmkaaPInterx2
namespace Go.Proofs.Ytajpnmiblepmkaa.Geo
open Go.RowKit Go.Proofs.YtajpnmiblepmkaaW.PrintMore Go.Proofs.YtajpnmiblepmkaaW.PrintWords
set_option linter.unusedVariables false
set_option linter.unusedSimpArgs false
theorem emptyI_eq (a : Rc) : Go.Proofs.Ytajpnmiblepmkaa.PInter.geom_Empty.f a.x a.y a.w a.h = some (emptyB a) := empty_eq a
theorem between_eq (x y u v : Int) (hx : I64 x) (hy : I64 y) (hu : I64 u) (hv : I64 v) : Go.Proofs.Ytajpnmiblepmkaa.PInter.geom_Between.f x y u v = some ((betweenP x y u v).x, (betweenP x y u v).y, (betweenP x y u v).w, (betweenP x y u v).h) := by
  unfold I64 at hx hy hu hv
  unfold Go.Proofs.Ytajpnmiblepmkaa.PInter.geom_Between.f betweenP
  by_cases h1 : x < u
  · rw [if_neg (by omega)]
    by_cases h2 : y < v
    · rw [if_neg (by omega), emptyI_eq ⟨x, y, wrap64 (u - x), wrap64 (v - y)⟩]
      simp only [Option.bind_some]
      by_cases h : -32768 ≤ x ∧ -32768 ≤ y ∧ u ≤ 32768 ∧ v ≤ 32768
      · rw [wrap64_i (n := u - x) (by omega) (by omega), wrap64_i (n := v - y) (by omega) (by omega)]
        rw [if_neg (by rw [emptyB_mk (by dsimp only; omega)]; decide), if_pos (by omega)]
      · rw [if_pos, if_neg (by omega)]; rfl
        rw [emptyB_true]
        left
        rw [rightB_false]
        dsimp only
        unfold wrap64
        omega
    · rw [if_pos (by omega), if_neg (by omega)]; rfl
  · rw [if_pos (by omega), if_neg (by omega)]; rfl
theorem inter_eqk (k : Nat) (a b : Rc) : Go.Proofs.Ytajpnmiblepmkaa.PInter.geom_Inter.f (k + 1) a.x a.y a.w a.h b.x b.y b.w b.h = some ((interP a b).x, (interP a b).y, (interP a b).w, (interP a b).h) := by
  unfold Go.Proofs.Ytajpnmiblepmkaa.PInter.geom_Inter.f interP
  rw [emptyI_eq]
  simp only [Option.bind_some]
  by_cases h : emptyB a = true
  · simp [Go.Proofs.Ytajpnmiblepmkaa.PInter.geom_Inter.j0, h, z4]
  · rw [if_neg h, emptyI_eq]
    simp only [Option.bind_some]
    by_cases h' : emptyB b = true
    · simp [Go.Proofs.Ytajpnmiblepmkaa.PInter.geom_Inter.j0, h', z4]
    · simp only [Bool.not_eq_true] at h h'
      have g1 := nonempty h
      have g2 := nonempty h'
      simp only [Go.Proofs.Ytajpnmiblepmkaa.PInter.geom_Inter.j0, Go.Proofs.Ytajpnmiblepmkaa.PInter.geom_end.f, h, h', Bool.false_eq_true, if_false, Bool.or_self, Option.bind_some]
      rw [wrap64_i (n := a.x + a.w) (by omega) (by omega), wrap64_i (n := a.y + a.h) (by omega) (by omega), wrap64_i (n := b.x + b.w) (by omega) (by omega), wrap64_i (n := b.y + b.h) (by omega) (by omega)]
      simp only [mx_eq, mn_eq]
      rw [between_eq _ _ _ _ (by unfold I64; omega) (by unfold I64; omega) (by unfold I64; omega) (by unfold I64; omega)]
      simp only [Option.bind_some]

theorem c_gInter (a b : Rc) (w : World) : Calls Try.prog 21 #[.agg #[.int .i64 a.x, .int .i64 a.y, .int .i64 a.w, .int .i64 a.h], .agg #[.int .i64 b.x, .int .i64 b.y, .int .i64 b.w, .int .i64 b.h]] w (RetR (interP a b) w) := Go.Proofs.Ytajpnmiblepmkaa.PInter.geom_Inter.calls 1 a.x a.y a.w a.h b.x b.y b.w b.h _ _ _ _ w (inter_eqk 0 a b)
end Go.Proofs.Ytajpnmiblepmkaa.Geo
