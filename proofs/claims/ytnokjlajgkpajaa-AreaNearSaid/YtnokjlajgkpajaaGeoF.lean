/- What the printed functions of geom and of its reference tell, in the words of GeoP. -/
import Derived.Test.YtnokjlajgkpajaaGeoP
import Derived.Test.YtnokjlajgkpajaaPAreaNearx2
import Derived.Test.YtnokjlajgkpajaaPAreaNearx3
namespace Go.Proofs.Ytnokjlajgkpajaa.Geo
open Go.RowKit Go.Proofs.YtnokjlajgkpajaaW.PrintMore Go.Proofs.YtnokjlajgkpajaaW.PrintWords
set_option linter.unusedVariables false
set_option linter.unusedSimpArgs false

theorem mx_eq (a b : Int) : mx a b = max a b := by unfold mx; omega
theorem mn_eq (a b : Int) : mn a b = min a b := by unfold mn; omega

theorem side_eq (p n : Int) : Go.Proofs.Ytnokjlajgkpajaa.PAreaNear.geom_side.f p n = some (sideB p n) := by
  unfold Go.Proofs.Ytnokjlajgkpajaa.PAreaNear.geom_side.f sideB
  split
  · split
    · split
      · rw [wrap64_i (n := 32767 - p) (by omega) (by omega), wrap64_i (by omega) (by omega)]
        congr 1; simp only [decide_eq_decide]; omega
      · congr 1; simp; omega
    · congr 1; simp; omega
  · congr 1; simp; omega
theorem right_eq (a : Rc) : Go.Proofs.Ytnokjlajgkpajaa.PAreaNear.geom_Right.f a.x a.y a.w a.h = some (rightB a) := by
  unfold Go.Proofs.Ytnokjlajgkpajaa.PAreaNear.geom_Right.f rightB
  rw [side_eq, side_eq]
  simp only [Option.bind_some]
  cases sideB a.x a.w <;> simp
theorem empty_eq (a : Rc) : Go.Proofs.Ytnokjlajgkpajaa.PAreaNear.geom_Empty.f a.x a.y a.w a.h = some (emptyB a) := by
  unfold Go.Proofs.Ytnokjlajgkpajaa.PAreaNear.geom_Empty.f emptyB
  rw [right_eq]
  simp only [Option.bind_some]
  cases rightB a <;> simp
  by_cases h : a.w = 0 <;> simp [h]
theorem span_eq (v l m : Int) : Go.Proofs.Ytnokjlajgkpajaa.PAreaNear.geom_Span.f v l m = some (spanP v l m) := by
  unfold Go.Proofs.Ytnokjlajgkpajaa.PAreaNear.geom_Span.f Go.Proofs.Ytnokjlajgkpajaa.PAreaNear.geom_between_int.f spanP
  simp only [Option.bind_some, mx_eq, mn_eq, Int.min_comm]
theorem take_eq (p n f l : Int) (h : sideB p n = true) : Go.Proofs.Ytnokjlajgkpajaa.PAreaNear.geom_take.f p n f l = some (p + spanP f 0 n, n - spanP f 0 n - spanP l 0 (n - spanP f 0 n)) := by
  have := sideB_true.1 h
  unfold Go.Proofs.Ytnokjlajgkpajaa.PAreaNear.geom_take.f
  rw [span_eq]; simp only [Option.bind_some]
  have h1 : 0 ≤ spanP f 0 n ∧ spanP f 0 n ≤ n := by unfold spanP; omega
  rw [wrap64_i (n := n - spanP f 0 n) (by omega) (by omega), span_eq]; simp only [Option.bind_some]
  have h2 : 0 ≤ spanP l 0 (n - spanP f 0 n) ∧ spanP l 0 (n - spanP f 0 n) ≤ n - spanP f 0 n := by unfold spanP at *; omega
  rw [wrap64_i (by omega) (by omega), wrap64_i (by omega) (by omega)]
theorem inset_eq (a : Rc) (l t r b : Int) : Go.Proofs.Ytnokjlajgkpajaa.PAreaNear.geom_Inset.f a.x a.y a.w a.h l t r b = some ((insetP a l t r b).x, (insetP a l t r b).y, (insetP a l t r b).w, (insetP a l t r b).h) := by
  unfold Go.Proofs.Ytnokjlajgkpajaa.PAreaNear.geom_Inset.f insetP
  rw [right_eq]
  simp only [Option.bind_some]
  by_cases h : rightB a = true
  · simp only [if_pos h]
    have h1 : sideB a.x a.w = true ∧ sideB a.y a.h = true := by simpa [rightB] using h
    rw [take_eq _ _ _ _ h1.1, take_eq _ _ _ _ h1.2]
    simp only [Option.bind_some, mn_eq, Int.min_comm]
  · simp only [if_neg h]; rfl
theorem between_eq (x y u v : Int) (hx : I64 x) (hy : I64 y) (hu : I64 u) (hv : I64 v) : Go.Proofs.Ytnokjlajgkpajaa.PAreaNear.geom_Between.f x y u v = some ((betweenP x y u v).x, (betweenP x y u v).y, (betweenP x y u v).w, (betweenP x y u v).h) := by
  unfold I64 at hx hy hu hv
  unfold Go.Proofs.Ytnokjlajgkpajaa.PAreaNear.geom_Between.f betweenP
  by_cases h1 : x < u
  · rw [if_neg (by omega)]
    by_cases h2 : y < v
    · rw [if_neg (by omega), empty_eq ⟨x, y, wrap64 (u - x), wrap64 (v - y)⟩]
      simp only [Option.bind_some]
      by_cases h : -32768 ≤ x ∧ -32768 ≤ y ∧ u ≤ 32768 ∧ v ≤ 32768
      · rw [wrap64_i (n := u - x) (by omega) (by omega), wrap64_i (n := v - y) (by omega) (by omega)]
        rw [if_neg (by rw [emptyB_mk (by dsimp only; omega)]; decide), if_pos (by omega)]
      · rw [if_pos, if_neg (by omega)]; rfl
        rw [emptyB_true]
        left
        rw [rightB_false]
        dsimp only
        unfold wrap64
        omega
    · rw [if_pos (by omega), if_neg (by omega)]; rfl
  · rw [if_pos (by omega), if_neg (by omega)]; rfl
theorem inter_eqk (k : Nat) (a b : Rc) : Go.Proofs.Ytnokjlajgkpajaa.PAreaNear.geom_Inter.f (k + 1) a.x a.y a.w a.h b.x b.y b.w b.h = some ((interP a b).x, (interP a b).y, (interP a b).w, (interP a b).h) := by
  unfold Go.Proofs.Ytnokjlajgkpajaa.PAreaNear.geom_Inter.f interP
  rw [empty_eq]
  simp only [Option.bind_some]
  by_cases h : emptyB a = true
  · simp [Go.Proofs.Ytnokjlajgkpajaa.PAreaNear.geom_Inter.j0, h, z4]
  · rw [if_neg h, empty_eq]
    simp only [Option.bind_some]
    by_cases h' : emptyB b = true
    · simp [Go.Proofs.Ytnokjlajgkpajaa.PAreaNear.geom_Inter.j0, h', z4]
    · simp only [Bool.not_eq_true] at h h'
      have g1 := nonempty h
      have g2 := nonempty h'
      simp only [Go.Proofs.Ytnokjlajgkpajaa.PAreaNear.geom_Inter.j0, Go.Proofs.Ytnokjlajgkpajaa.PAreaNear.geom_end.f, h, h', Bool.false_eq_true, if_false, Bool.or_self, Option.bind_some]
      rw [wrap64_i (n := a.x + a.w) (by omega) (by omega), wrap64_i (n := a.y + a.h) (by omega) (by omega), wrap64_i (n := b.x + b.w) (by omega) (by omega), wrap64_i (n := b.y + b.h) (by omega) (by omega)]
      simp only [mx_eq, mn_eq]
      rw [between_eq _ _ _ _ (by unfold I64; omega) (by unfold I64; omega) (by unfold I64; omega) (by unfold I64; omega)]
      simp only [Option.bind_some]

theorem inter_eq (a b : Rc) : Go.Proofs.Ytnokjlajgkpajaa.PAreaNear.geom_Inter.f 1 a.x a.y a.w a.h b.x b.y b.w b.h = some ((interP a b).x, (interP a b).y, (interP a b).w, (interP a b).h) := inter_eqk 0 a b
theorem area_bound (a : Rc) : 0 ≤ areaP a ∧ areaP a ≤ 4294967296 := by
  unfold areaP
  by_cases h : emptyB a = true
  · rw [if_pos h]; omega
  · rw [if_neg h]
    simp only [Bool.not_eq_true] at h
    have g := nonempty h
    constructor
    · exact Int.mul_nonneg (by omega) (by omega)
    · have := Int.mul_le_mul (show a.w ≤ 65536 by omega) (show a.h ≤ 65536 by omega) (by omega) (by omega); omega
theorem area_eq (a : Rc) : Go.Proofs.Ytnokjlajgkpajaa.PAreaNear.geom_Area.f a.x a.y a.w a.h = some (areaP a) := by
  unfold Go.Proofs.Ytnokjlajgkpajaa.PAreaNear.geom_Area.f
  rw [empty_eq]
  simp only [Option.bind_some]
  have b := area_bound a
  unfold areaP at b ⊢
  by_cases h : emptyB a = true
  · rw [if_pos h, if_pos h]
  · rw [if_neg h] at b
    rw [if_neg h, if_neg h, wrap64_i (by omega) (by omega)]
end Go.Proofs.Ytnokjlajgkpajaa.Geo
