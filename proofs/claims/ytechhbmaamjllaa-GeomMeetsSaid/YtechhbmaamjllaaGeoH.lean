/- The contract of geom.Hull. -/
import Derived.Test.YtechhbmaamjllaaGeoB
import Derived.Test.YtechhbmaamjllaaPGeomMeetsx7
import Derived.Test.YtechhbmaamjllaaPGeomMeetsx3
namespace Go.Proofs.Ytechhbmaamjllaa.Geo
open Go.RowKit Go.Proofs.YtechhbmaamjllaaW.PrintMore Go.Proofs.YtechhbmaamjllaaW.PrintWords Go.Proofs.YtechhbmaamjllaaW.PrintLast
set_option linter.unusedVariables false
set_option linter.unusedSimpArgs false

theorem hull_eq (a b : Rc) : Go.Proofs.Ytechhbmaamjllaa.PGeomMeets.geom_Hull.f 1 a.x a.y a.w a.h b.x b.y b.w b.h = some ((hullP a b).x, (hullP a b).y, (hullP a b).w, (hullP a b).h) := by
  unfold Go.Proofs.Ytechhbmaamjllaa.PGeomMeets.geom_Hull.f hullP
  rw [empty_eq]
  simp only [Option.bind_some]
  by_cases h : emptyB a = true
  · rw [if_pos h, empty_eq]
    simp only [Option.bind_some]
    by_cases h' : emptyB b = true
    · simp [Go.Proofs.Ytechhbmaamjllaa.PGeomMeets.geom_Hull.j0, h, h', z4]
    · simp only [Bool.not_eq_true] at h'
      simp [Go.Proofs.Ytechhbmaamjllaa.PGeomMeets.geom_Hull.j0, h, h', empty_eq]
  · simp only [Bool.not_eq_true] at h
    simp only [h, Bool.false_eq_true, if_false, Go.Proofs.Ytechhbmaamjllaa.PGeomMeets.geom_Hull.j0, empty_eq, Option.bind_some, Bool.false_and]
    by_cases h' : emptyB b = true
    · simp only [h', if_true]
    · simp only [Bool.not_eq_true] at h'
      have g1 := nonempty h
      have g2 := nonempty h'
      simp only [h', Bool.false_eq_true, if_false, Go.Proofs.Ytechhbmaamjllaa.PGeomMeets.geom_end.f, Option.bind_some]
      rw [wrap64_i (n := a.x + a.w) (by omega) (by omega), wrap64_i (n := a.y + a.h) (by omega) (by omega), wrap64_i (n := b.x + b.w) (by omega) (by omega), wrap64_i (n := b.y + b.h) (by omega) (by omega)]
      simp only [mx_eq, mn_eq]
      rw [between_eq _ _ _ _ (by unfold I64; omega) (by unfold I64; omega) (by unfold I64; omega) (by unfold I64; omega)]
      simp only [Option.bind_some]
theorem c_gHull (a b : Rc) (w : World) : Calls Try.prog 32 #[.agg #[.int .i64 a.x, .int .i64 a.y, .int .i64 a.w, .int .i64 a.h], .agg #[.int .i64 b.x, .int .i64 b.y, .int .i64 b.w, .int .i64 b.h]] w (RetR (hullP a b) w) := Go.Proofs.Ytechhbmaamjllaa.PGeomMeets.geom_Hull.calls 1 a.x a.y a.w a.h b.x b.y b.w b.h _ _ _ _ w (hull_eq a b)
end Go.Proofs.Ytechhbmaamjllaa.Geo
