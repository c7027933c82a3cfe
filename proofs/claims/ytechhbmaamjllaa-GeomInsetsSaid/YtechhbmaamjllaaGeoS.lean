/- What is inside, told by what both have in common. -/
import Derived.Test.YtechhbmaamjllaaGeoP
namespace Go.Proofs.Ytechhbmaamjllaa.Geo

/-- All of a is in b: what both have in common is a. -/
theorem inter_self_iff (a b : Rc) (h : emptyB a = false) : (interP a b = a) ↔ (rightB b = true ∧ b.x ≤ a.x ∧ b.y ≤ a.y ∧ a.x + a.w ≤ b.x + b.w ∧ a.y + a.h ≤ b.y + b.h) := by
  have g := nonempty h
  by_cases h' : emptyB b = true
  · have e : interP a b = z4 := by unfold interP; simp [h']
    rw [e]
    constructor
    · intro q; rw [← q] at g; exact absurd g.1.2.2.1 (by decide)
    · rintro ⟨q1, q2, q3, q4, q5⟩
      rcases emptyB_true.1 h' with q | q | q
      · rw [q1] at q; cases q
      · omega
      · omega
  · simp only [Bool.not_eq_true] at h'
    have g' := nonempty h'
    have e : interP a b = betweenP (max a.x b.x) (max a.y b.y) (min (a.x + a.w) (b.x + b.w)) (min (a.y + a.h) (b.y + b.h)) := by unfold interP; simp [h, h']
    rw [e]; unfold betweenP
    constructor
    · intro q
      refine ⟨(emptyB_false.1 h').1, ?_⟩
      split at q
      · have q1 := congrArg Rc.x q; have q2 := congrArg Rc.y q; have q3 := congrArg Rc.w q; have q4 := congrArg Rc.h q
        dsimp only at q1 q2 q3 q4
        omega
      · rw [← q] at g; exact absurd g.1.2.2.1 (by decide)
    · rintro ⟨q1, q2, q3, q4, q5⟩
      rw [if_pos (by omega)]
      apply Rc.ext' <;> dsimp only <;> omega
end Go.Proofs.Ytechhbmaamjllaa.Geo
