/- Sizes by hints: what the laws of the chapter say, over plain whole numbers. -/
import Derived.Test.YtajpnmiblepmkaaSzP
namespace Go.Proofs.Ytajpnmiblepmkaa.Sz
open Go.RowKit
set_option linter.unusedVariables false
set_option linter.unusedSimpArgs false

open Classical in
noncomputable def goodB (h : Hn) (x y : Int) : Bool := decide (goodP h x y)
theorem goodB_true {h : Hn} {x y : Int} : goodB h x y = true ↔ goodP h x y := by unfold goodB; simp
theorem goodB_false {h : Hn} {x y : Int} : goodB h x y = false ↔ ¬ goodP h x y := by unfold goodB; simp

theorem near_height {h : Hn} {w t x y o : Int} (f : Found h w t x y) (g : goodP h x o) : ¬ (y < o ∧ o ≤ t) ∧ ¬ (t < y ∧ o < y) := by
  obtain ⟨_, _, q⟩ := f
  have p := g.2.2.2.2.2
  rcases q with ⟨a, b⟩ | ⟨a, b⟩
  · exact ⟨fun ⟨c, d⟩ => by have := b o p d; omega, fun ⟨c, d⟩ => by omega⟩
  · exact ⟨fun ⟨c, d⟩ => by omega, fun ⟨c, d⟩ => by have := b o p; omega⟩
theorem near_width {h : Hn} {w t x y o v : Int} (f : Found h w t x y) (g : goodP h o v) : ¬ (x < o ∧ o ≤ w) ∧ ¬ (w < x ∧ o < x) := by
  obtain ⟨⟨_, q⟩, _⟩ := f
  have p : wideP h o ∧ ∃ y, highP h o y := ⟨g.2.2.2.2.1, v, g.2.2.2.2.2⟩
  rcases q with ⟨a, b⟩ | ⟨a, b⟩
  · exact ⟨fun ⟨c, d⟩ => by have := b o p d; omega, fun ⟨c, d⟩ => by omega⟩
  · exact ⟨fun ⟨c, d⟩ => by omega, fun ⟨c, d⟩ => by have := b o p; omega⟩
theorem fit_stays {h : Hn} {w t x y : Int} (e : fit h w t = (x, y, true)) : fit h x y = (x, y, true) := by
  obtain ⟨x', y', g, e'⟩ := fit_good h w t
  rw [e] at e'
  injection e' with e1 e2
  injection e2 with e2 e3
  subst e1 e2
  exact fit_of g
theorem fit_near {h : Hn} {w t x y : Int} (hw : 0 ≤ w ∧ w ≤ 65535) (ht : 0 ≤ t ∧ t ≤ 65535) (e : fit h w t = (x, y, true)) : Found (normal h) w t x y := by
  obtain ⟨x', y', g, e'⟩ := fit_found h w t
  rw [e] at e'
  injection e' with e1 e2
  injection e2 with e2 e3
  subst e1 e2
  rw [show spanI w 0 65535 = w by unfold spanI; omega, show spanI t 0 65535 = t by unfold spanI; omega] at g
  exact g
theorem fit_all (h : Hn) (w t : Int) : ∃ x y, fit h w t = (x, y, true) := by
  obtain ⟨x, y, _, e⟩ := fit_good h w t
  exact ⟨x, y, e⟩
/- The least size alone. -/
def hfree (a b : Int) : Hn := ⟨a, b, 0, 0, 0, 0, 0, 0, 0, 0, 0, 0⟩
theorem free_normal {a b : Int} (ha : 0 ≤ a ∧ a ≤ 65535) (hb : 0 ≤ b ∧ b ≤ 65535) : normal (hfree a b) = ⟨max 1 a, max 1 b, 0, 0, 0, 0, 1, 1, 0, 0, 0, 0⟩ := by
  have e : span0 (hfree a b) = ⟨max 1 a, max 1 b, 0, 0, 0, 0, 1, 1, 0, 0, 0, 0⟩ := by
    unfold span0 boundI spanI hfree
    dsimp only
    rw [show max 1 (min a 65535) = max 1 a by omega, show max 1 (min b 65535) = max 1 b by omega]
    rfl
  have n : Nrm ⟨max 1 a, max 1 b, 0, 0, 0, 0, 1, 1, 0, 0, 0, 0⟩ := by
    unfold Nrm Nrm0
    dsimp only
    exact ⟨by omega, Or.inl ⟨rfl, rfl, rfl, rfl⟩⟩
  have s : ¬ Nil ⟨max 1 a, max 1 b, 0, 0, 0, 0, 1, 1, 0, 0, 0, 0⟩ := free1_some n.1
  have q := normal_of n s
  rw [← e] at q ⊢
  unfold normal at q ⊢
  rw [span0_of (span0_nrm _)] at q
  exact q
theorem fit_free {a b w t : Int} (ha : 0 ≤ a ∧ a ≤ 65535) (hb : 0 ≤ b ∧ b ≤ 65535) (hw : 0 ≤ w ∧ w ≤ 65535) (ht : 0 ≤ t ∧ t ≤ 65535) : fit (hfree a b) w t = (max (max 1 a) w, max (max 1 b) t, true) := by
  unfold fit
  rw [free_normal ha hb, show spanI w 0 65535 = w by unfold spanI; omega, show spanI t 0 65535 = t by unfold spanI; omega]
  apply best_of
  have hi : ∀ y, highP ⟨max 1 a, max 1 b, 0, 0, 0, 0, 1, 1, 0, 0, 0, 0⟩ (max (max 1 a) w) y ↔ max 1 b ≤ y ∧ y ≤ 65535 := by
    intro y
    unfold highP along asp topP
    dsimp only
    rw [if_pos rfl]
    constructor
    · rintro ⟨⟨p, q, _⟩, _⟩; exact ⟨p, q⟩
    · rintro ⟨p, q⟩; exact ⟨⟨p, q, by omega, Int.emod_one _⟩, Or.inl rfl⟩
  have hi' : ∀ x, (wideP ⟨max 1 a, max 1 b, 0, 0, 0, 0, 1, 1, 0, 0, 0, 0⟩ x ∧ ∃ y, highP ⟨max 1 a, max 1 b, 0, 0, 0, 0, 1, 1, 0, 0, 0, 0⟩ x y) ↔ max 1 a ≤ x ∧ x ≤ 65535 := by
    intro x
    unfold wideP highP along asp topP
    dsimp only
    rw [if_pos rfl]
    constructor
    · rintro ⟨⟨p, q, _⟩, _⟩; exact ⟨p, q⟩
    · rintro ⟨p, q⟩
      exact ⟨⟨p, q, by omega, Int.emod_one _⟩, max 1 b, ⟨by omega, by omega, by omega, Int.emod_one _⟩, Or.inl rfl⟩
  refine ⟨IsNear.congr (fun x => (hi' x).symm) ?_, IsNear.congr (fun y => (hi y).symm) ?_⟩
  · refine ⟨by omega, ?_⟩
    by_cases c : max 1 a ≤ w
    · exact Or.inl ⟨by omega, fun z hz _ => by omega⟩
    · exact Or.inr ⟨by omega, fun z hz => by omega⟩
  · refine ⟨by omega, ?_⟩
    by_cases c : max 1 b ≤ t
    · exact Or.inl ⟨by omega, fun z hz _ => by omega⟩
    · exact Or.inr ⟨by omega, fun z hz => by omega⟩
/- The examples of the chapter. -/
def hA : Hn := ⟨10, 10, 0, 0, 4, 4, 5, 5, 0, 0, 0, 0⟩
def hB : Hn := ⟨0, 0, 0, 0, 0, 0, 0, 0, 1, 1, 1, 1⟩
def hB' : Hn := ⟨1, 1, 0, 0, 0, 0, 1, 1, 1, 1, 1, 1⟩
theorem fit_A : fit hA 30 3 = (29, 14, true) := by
  have n : Nrm hA := by unfold Nrm Nrm0 Asp0 hA; dsimp only; omega
  have f : Found hA 30 3 29 14 := by
    have hi : ∀ x y, highP hA x y ↔ 10 ≤ y ∧ y ≤ 65535 ∧ (y - 4) % 5 = 0 := by
      intro x y
      unfold highP along asp topP hA
      dsimp only
      rw [if_pos rfl]
      omega
    have hi' : ∀ x, (wideP hA x ∧ ∃ y, highP hA x y) ↔ 10 ≤ x ∧ x ≤ 65535 ∧ (x - 4) % 5 = 0 := by
      intro x
      have : wideP hA x ↔ 10 ≤ x ∧ x ≤ 65535 ∧ (x - 4) % 5 = 0 := by
        unfold wideP along topP hA
        dsimp only
        rw [if_pos rfl]
        omega
      rw [this]
      exact ⟨fun q => q.1, fun q => ⟨q, 14, (hi x 14).2 (by decide)⟩⟩
    exact ⟨IsNear.congr (fun x => (hi' x).symm) ⟨by decide, Or.inl ⟨by decide, fun z hz hl => by omega⟩⟩, IsNear.congr (fun y => (hi 29 y).symm) ⟨by decide, Or.inr ⟨by decide, fun z hz => by omega⟩⟩⟩
  have e : normal hA = hA := normal_of n fun q => by
    obtain ⟨⟨a, b⟩, _⟩ := f.1
    obtain ⟨y, b⟩ := b
    exact q _ a y b
  unfold fit
  rw [e]
  exact best_of f
theorem fit_B : fit hB 30 20 = (30, 30, true) := by
  have n : Nrm hB' := by unfold Nrm Nrm0 Asp0 Asp1 hB'; dsimp only; omega
  have f : Found hB' 30 20 30 30 := by
    have hw : ∀ x, wideP hB' x ↔ 1 ≤ x ∧ x ≤ 65535 := by
      intro x
      unfold wideP along topP hB'
      dsimp only
      rw [if_pos rfl]
      omega
    have hi : ∀ x y, highP hB' x y ↔ 1 ≤ y ∧ y ≤ 65535 ∧ y = x := by
      intro x y
      unfold highP along asp topP hB'
      dsimp only
      rw [if_pos rfl]
      omega
    refine ⟨⟨⟨(hw _).2 (by decide), 30, (hi _ _).2 (by decide)⟩, Or.inl ⟨by decide, fun z hz hl => hl⟩⟩, IsNear.congr (fun y => (hi 30 y).symm) ⟨by decide, Or.inr ⟨by decide, fun z hz => by omega⟩⟩⟩
  have e : normal hB = hB' := by
    have q := normal_of n fun q => by
      obtain ⟨⟨a, b⟩, _⟩ := f.1
      obtain ⟨y, b⟩ := b
      exact q _ a y b
    have e : span0 hB = hB' := rfl
    unfold normal at q ⊢
    rw [span0_of n.1] at q
    rw [e]
    exact q
  unfold fit
  rw [e]
  exact best_of f
end Go.Proofs.Ytajpnmiblepmkaa.Sz
