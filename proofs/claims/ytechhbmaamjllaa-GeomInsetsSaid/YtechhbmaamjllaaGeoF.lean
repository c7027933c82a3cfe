/- What the printed functions of geom and of its reference tell, in the words of GeoP. -/
import Derived.Test.YtechhbmaamjllaaGeoP
import Derived.Test.YtechhbmaamjllaaPGeomMeetsx2
import Derived.Test.YtechhbmaamjllaaPGeomMeetsx3
import Derived.Test.YtechhbmaamjllaaPGeomMeetsx4
namespace Go.Proofs.Ytechhbmaamjllaa.Geo
open Go.RowKit Go.Proofs.YtechhbmaamjllaaW.PrintMore Go.Proofs.YtechhbmaamjllaaW.PrintWords
set_option linter.unusedVariables false
set_option linter.unusedSimpArgs false

theorem mx_eq (a b : Int) : mx a b = max a b := by unfold mx; omega
theorem mn_eq (a b : Int) : mn a b = min a b := by unfold mn; omega

theorem side_eq (p n : Int) : Go.Proofs.Ytechhbmaamjllaa.PGeomMeets.geom_side.f p n = some (sideB p n) := by
  unfold Go.Proofs.Ytechhbmaamjllaa.PGeomMeets.geom_side.f sideB
  split
  · split
    · split
      · rw [wrap64_i (n := 32767 - p) (by omega) (by omega), wrap64_i (by omega) (by omega)]
        congr 1; simp only [decide_eq_decide]; omega
      · congr 1; simp; omega
    · congr 1; simp; omega
  · congr 1; simp; omega
theorem right_eq (a : Rc) : Go.Proofs.Ytechhbmaamjllaa.PGeomMeets.geom_Right.f a.x a.y a.w a.h = some (rightB a) := by
  unfold Go.Proofs.Ytechhbmaamjllaa.PGeomMeets.geom_Right.f rightB
  rw [side_eq, side_eq]
  simp only [Option.bind_some]
  cases sideB a.x a.w <;> simp
theorem empty_eq (a : Rc) : Go.Proofs.Ytechhbmaamjllaa.PGeomMeets.geom_Empty.f a.x a.y a.w a.h = some (emptyB a) := by
  unfold Go.Proofs.Ytechhbmaamjllaa.PGeomMeets.geom_Empty.f emptyB
  rw [right_eq]
  simp only [Option.bind_some]
  cases rightB a <;> simp
  by_cases h : a.w = 0 <;> simp [h]
theorem span_eq (v l m : Int) : Go.Proofs.Ytechhbmaamjllaa.PGeomMeets.geom_Span.f v l m = some (spanP v l m) := by
  unfold Go.Proofs.Ytechhbmaamjllaa.PGeomMeets.geom_Span.f Go.Proofs.Ytechhbmaamjllaa.PGeomMeets.geom_between_int.f spanP
  simp only [Option.bind_some, mx_eq, mn_eq, Int.min_comm]
theorem slide_eq (p n d : Int) (h : sideB p n = true) : (Go.Proofs.Ytechhbmaamjllaa.PGeomMeets.geom_slide.f p n d).map (fun v => mn v 32767) = some (slideP p n d) := by
  have := sideB_true.1 h
  unfold Go.Proofs.Ytechhbmaamjllaa.PGeomMeets.geom_slide.f slideP
  rw [wrap64_i (n := 32767 - n) (by omega) (by omega), wrap64_i (n := 32767 - n + 1) (by omega) (by omega), wrap64_i (n := 32767 - n + 1 - p) (by omega) (by omega), wrap64_i (n := -32768 - p) (by omega) (by omega)]
  simp only [mn_eq]
  by_cases c1 : d > 32768 - n - p
  · rw [if_pos (show d > 32767 - n + 1 - p by omega), if_pos c1]; simp only [Option.map_some]; congr 1; omega
  · rw [if_neg (show ¬ d > 32767 - n + 1 - p by omega), if_neg c1]
    by_cases c2 : d < -32768 - p
    · rw [if_pos c2, if_pos c2]; rfl
    · rw [if_neg c2, if_neg c2, wrap64_i (n := p + d) (by omega) (by omega)]; simp only [Option.map_some]; congr 1; omega
theorem shift_eq (a : Rc) (dx dy : Int) : Go.Proofs.Ytechhbmaamjllaa.PGeomMeets.geom_Shift.f a.x a.y a.w a.h dx dy = some ((shiftP a dx dy).x, (shiftP a dx dy).y, (shiftP a dx dy).w, (shiftP a dx dy).h) := by
  unfold Go.Proofs.Ytechhbmaamjllaa.PGeomMeets.geom_Shift.f shiftP
  rw [right_eq]
  simp only [Option.bind_some]
  by_cases h : rightB a = true
  · simp only [if_pos h]
    have h1 : sideB a.x a.w = true ∧ sideB a.y a.h = true := by simpa [rightB] using h
    have e1 := slide_eq a.x a.w dx h1.1
    have e2 := slide_eq a.y a.h dy h1.2
    obtain ⟨v1, q1, q2⟩ := Option.map_eq_some_iff.1 e1
    obtain ⟨v2, q3, q4⟩ := Option.map_eq_some_iff.1 e2
    rw [q1, q3]; simp only [Option.bind_some]; rw [q2, q4]
  · simp only [if_neg h]; rfl
theorem take_eq (p n f l : Int) (h : sideB p n = true) : Go.Proofs.Ytechhbmaamjllaa.PGeomMeets.geom_take.f p n f l = some (p + spanP f 0 n, n - spanP f 0 n - spanP l 0 (n - spanP f 0 n)) := by
  have := sideB_true.1 h
  unfold Go.Proofs.Ytechhbmaamjllaa.PGeomMeets.geom_take.f
  rw [span_eq]; simp only [Option.bind_some]
  have h1 : 0 ≤ spanP f 0 n ∧ spanP f 0 n ≤ n := by unfold spanP; omega
  rw [wrap64_i (n := n - spanP f 0 n) (by omega) (by omega), span_eq]; simp only [Option.bind_some]
  have h2 : 0 ≤ spanP l 0 (n - spanP f 0 n) ∧ spanP l 0 (n - spanP f 0 n) ≤ n - spanP f 0 n := by unfold spanP at *; omega
  rw [wrap64_i (by omega) (by omega), wrap64_i (by omega) (by omega)]
theorem inset_eq (a : Rc) (l t r b : Int) : Go.Proofs.Ytechhbmaamjllaa.PGeomMeets.geom_Inset.f a.x a.y a.w a.h l t r b = some ((insetP a l t r b).x, (insetP a l t r b).y, (insetP a l t r b).w, (insetP a l t r b).h) := by
  unfold Go.Proofs.Ytechhbmaamjllaa.PGeomMeets.geom_Inset.f insetP
  rw [right_eq]
  simp only [Option.bind_some]
  by_cases h : rightB a = true
  · simp only [if_pos h]
    have h1 : sideB a.x a.w = true ∧ sideB a.y a.h = true := by simpa [rightB] using h
    rw [take_eq _ _ _ _ h1.1, take_eq _ _ _ _ h1.2]
    simp only [Option.bind_some, mn_eq, Int.min_comm]
  · simp only [if_neg h]; rfl
theorem keepI_eq (p n i m : Int) (h : sideB p n = true) (h' : sideB i m = true) : Go.Proofs.Ytechhbmaamjllaa.PGeomMeets.geom_keep.f p n i m = some (keepI p n i m) := by
  have := sideB_true.1 h
  have := sideB_true.1 h'
  unfold Go.Proofs.Ytechhbmaamjllaa.PGeomMeets.geom_keep.f keepI
  rw [wrap64_i (n := i + m) (by omega) (by omega), wrap64_i (by omega) (by omega), mx_eq, mn_eq]
theorem keep_eq (a b : Rc) : Go.Proofs.Ytechhbmaamjllaa.PGeomMeets.geom_Keep.f 1 a.x a.y a.w a.h b.x b.y b.w b.h = some ((keepP a b).x, (keepP a b).y, (keepP a b).w, (keepP a b).h) := by
  unfold Go.Proofs.Ytechhbmaamjllaa.PGeomMeets.geom_Keep.f keepP
  rw [right_eq]
  simp only [Option.bind_some]
  by_cases h : rightB a = true
  · rw [if_pos h, right_eq]
    simp only [Option.bind_some]
    by_cases h' : rightB b = true
    · have h1 : sideB a.x a.w = true ∧ sideB a.y a.h = true := by simpa [rightB] using h
      have h2 : sideB b.x b.w = true ∧ sideB b.y b.h = true := by simpa [rightB] using h'
      have g1 := sideB_true.1 h1.1
      have g2 := sideB_true.1 h1.2
      have g3 := sideB_true.1 h2.1
      have g4 := sideB_true.1 h2.2
      simp only [Go.Proofs.Ytechhbmaamjllaa.PGeomMeets.geom_Keep.j0, h, h', Bool.not_true, Bool.false_eq_true, if_false, Bool.and_self, if_true]
      rw [keepI_eq _ _ _ _ h1.1 h2.1, keepI_eq _ _ _ _ h1.2 h2.2]
      simp only [Option.bind_some]
      rw [wrap64_i (n := keepI a.x a.w b.x b.w - a.x) (by unfold keepI; omega) (by unfold keepI; omega), wrap64_i (n := keepI a.y a.h b.y b.h - a.y) (by unfold keepI; omega) (by unfold keepI; omega), shift_eq]
      simp only [Option.bind_some]
    · simp only [Bool.not_eq_true] at h'
      simp [Go.Proofs.Ytechhbmaamjllaa.PGeomMeets.geom_Keep.j0, h, h', z4]
  · simp only [Bool.not_eq_true] at h
    simp [Go.Proofs.Ytechhbmaamjllaa.PGeomMeets.geom_Keep.j0, h, z4]
theorem between_eq (x y u v : Int) (hx : I64 x) (hy : I64 y) (hu : I64 u) (hv : I64 v) : Go.Proofs.Ytechhbmaamjllaa.PGeomMeets.geom_Between.f x y u v = some ((betweenP x y u v).x, (betweenP x y u v).y, (betweenP x y u v).w, (betweenP x y u v).h) := by
  unfold I64 at hx hy hu hv
  unfold Go.Proofs.Ytechhbmaamjllaa.PGeomMeets.geom_Between.f betweenP
  by_cases h1 : x < u
  · rw [if_neg (by omega)]
    by_cases h2 : y < v
    · rw [if_neg (by omega), empty_eq ⟨x, y, wrap64 (u - x), wrap64 (v - y)⟩]
      simp only [Option.bind_some]
      by_cases h : -32768 ≤ x ∧ -32768 ≤ y ∧ u ≤ 32768 ∧ v ≤ 32768
      · rw [wrap64_i (n := u - x) (by omega) (by omega), wrap64_i (n := v - y) (by omega) (by omega)]
        rw [if_neg (by rw [emptyB_mk (by dsimp only; omega)]; decide), if_pos (by omega)]
      · rw [if_pos, if_neg (by omega)]; rfl
        rw [emptyB_true]
        left
        rw [rightB_false]
        dsimp only
        unfold wrap64
        omega
    · rw [if_pos (by omega), if_neg (by omega)]; rfl
  · rw [if_pos (by omega), if_neg (by omega)]; rfl
theorem inter_eq (a b : Rc) : Go.Proofs.Ytechhbmaamjllaa.PGeomMeets.geom_Inter.f 1 a.x a.y a.w a.h b.x b.y b.w b.h = some ((interP a b).x, (interP a b).y, (interP a b).w, (interP a b).h) := by
  unfold Go.Proofs.Ytechhbmaamjllaa.PGeomMeets.geom_Inter.f interP
  rw [empty_eq]
  simp only [Option.bind_some]
  by_cases h : emptyB a = true
  · simp [Go.Proofs.Ytechhbmaamjllaa.PGeomMeets.geom_Inter.j0, h, z4]
  · rw [if_neg h, empty_eq]
    simp only [Option.bind_some]
    by_cases h' : emptyB b = true
    · simp [Go.Proofs.Ytechhbmaamjllaa.PGeomMeets.geom_Inter.j0, h', z4]
    · simp only [Bool.not_eq_true] at h h'
      have g1 := nonempty h
      have g2 := nonempty h'
      simp only [Go.Proofs.Ytechhbmaamjllaa.PGeomMeets.geom_Inter.j0, Go.Proofs.Ytechhbmaamjllaa.PGeomMeets.geom_end.f, h, h', Bool.false_eq_true, if_false, Bool.or_self, Option.bind_some]
      rw [wrap64_i (n := a.x + a.w) (by omega) (by omega), wrap64_i (n := a.y + a.h) (by omega) (by omega), wrap64_i (n := b.x + b.w) (by omega) (by omega), wrap64_i (n := b.y + b.h) (by omega) (by omega)]
      simp only [mx_eq, mn_eq]
      rw [between_eq _ _ _ _ (by unfold I64; omega) (by unfold I64; omega) (by unfold I64; omega) (by unfold I64; omega)]
      simp only [Option.bind_some]

end Go.Proofs.Ytechhbmaamjllaa.Geo
