/- AreaNear: no screen has more of a rectangle than the one that is nearest to it: in plain numbers and lists. -/
import Derived.Test.YtnokjlajgkpajaaGeoF
import Derived.Test.YtnokjlajgkpajaaPAreaNearx4
import Derived.Test.YtnokjlajgkpajaaPAreaNearx5
import Derived.Test.YtnokjlajgkpajaaPAreaNearx2
import Derived.Test.YtnokjlajgkpajaaPAreaNearx6
namespace Go.Proofs.Ytnokjlajgkpajaa.Near
open Go.RowKit Go.Proofs.YtnokjlajgkpajaaW.PrintMore Go.Proofs.YtnokjlajgkpajaaW.PrintWords Go.Proofs.Ytnokjlajgkpajaa.Geo Go.Proofs.Ytnokjlajgkpajaa.PAreaNear
set_option linter.unusedVariables false
set_option linter.unusedSimpArgs false

/-- The i-th screen's rectangle. -/
def rc (l : List S25) (i : Int) : Rc := ⟨(rd_T25 l i).f1.f0, (rd_T25 l i).f1.f1, (rd_T25 l i).f1.f2, (rd_T25 l i).f1.f3⟩
def gapP (p n o m : Int) : Int := max (max 0 (o - (p + n))) (p - (o + m))
def distP (r o : Rc) : Int := gapP r.x r.w o.x o.w * gapP r.x r.w o.x o.w + gapP r.y r.h o.y o.h * gapP r.y r.h o.y o.h
def awayP (r o : Rc) : Int := if areaP (interP r o) > 0 then -areaP (interP r o) else distP r o

theorem gap_eq {p n o m : Int} (h : sideB p n = true) (h' : sideB o m = true) : Go.Proofs.Ytnokjlajgkpajaa.PAreaNear.area_gap.f p n o m = some (gapP p n o m) := by
  have := sideB_true.1 h
  have := sideB_true.1 h'
  unfold Go.Proofs.Ytnokjlajgkpajaa.PAreaNear.area_gap.f gapP
  rw [wrap64_i (n := p + n) (by omega) (by omega), wrap64_i (n := o + m) (by omega) (by omega), wrap64_i (n := o - (p + n)) (by omega) (by omega), wrap64_i (n := p - (o + m)) (by omega) (by omega)]
  simp only [mx_eq]
theorem gap_bound {p n o m : Int} (h : sideB p n = true) (h' : sideB o m = true) : 0 ≤ gapP p n o m ∧ gapP p n o m ≤ 131072 := by
  have := sideB_true.1 h
  have := sideB_true.1 h'
  unfold gapP
  omega
theorem sq_bound {g : Int} (h : 0 ≤ g ∧ g ≤ 131072) : 0 ≤ g * g ∧ g * g ≤ 17179869184 := by
  constructor
  · exact Int.mul_nonneg h.1 h.1
  · have := Int.mul_le_mul h.2 h.2 h.1 (by omega); omega
theorem dist_nonneg {r o : Rc} (h : rightB r = true) (h' : rightB o = true) : 0 ≤ distP r o := by
  simp only [rightB, Bool.and_eq_true] at h h'
  have b1 := sq_bound (gap_bound h.1 h'.1)
  have b2 := sq_bound (gap_bound h.2 h'.2)
  unfold distP; omega
theorem away_eq (k : Nat) {r o : Rc} (h : rightB r = true) (h' : rightB o = true) : Go.Proofs.Ytnokjlajgkpajaa.PAreaNear.area_away.f (k + 1) r.x r.y r.w r.h o.x o.y o.w o.h = some (awayP r o) := by
  unfold Go.Proofs.Ytnokjlajgkpajaa.PAreaNear.area_away.f awayP
  rw [inter_eqk]
  simp only [Option.bind_some]
  rw [area_eq (interP r o)]
  simp only [Option.bind_some]
  have b := area_bound (interP r o)
  by_cases c : areaP (interP r o) > 0
  · rw [if_pos c, if_pos c, wrap64_i (by omega) (by omega)]
  · rw [if_neg c, if_neg c]
    simp only [rightB, Bool.and_eq_true] at h h'
    rw [gap_eq h.1 h'.1, gap_eq h.2 h'.2]
    simp only [Option.bind_some]
    have b1 := sq_bound (gap_bound h.1 h'.1)
    have b2 := sq_bound (gap_bound h.2 h'.2)
    rw [wrap64_i (n := gapP r.x r.w o.x o.w * gapP r.x r.w o.x o.w) (by omega) (by omega), wrap64_i (n := gapP r.y r.h o.y o.h * gapP r.y r.h o.y o.h) (by omega) (by omega), wrap64_i (by omega) (by omega)]
    rfl
theorem wrap_next {i : Int} {n : Nat} (h0 : 0 ≤ i) (h : i < (n : Int)) (hn : n * 48 ≤ 140737488351232) : wrap64 (i + 1) = i + 1 := by
  apply wrap64_i <;> omega
/-- What the loop tells from place i on, with the best one among those before it. -/
theorem near_loop (l : List S25) (hn : l.length * 48 ≤ 140737488351232) (r : Rc) (hr : rightB r = true) (d : Nat) : ∀ (k : Nat) (b i : Int), 0 ≤ i → i ≤ l.length → (l.length : Int) - i = d → d + 1 < k → 0 ≤ b → b < l.length →
    rightB (rc l b) = true ∨ i = 0 →
    (∀ j : Int, 0 ≤ j → j < i → awayP r (rc l b) ≤ awayP r (rc l j) ∧ rightB (rc l j) = true) → (∀ j : Int, 0 ≤ j → j < b → j < i → awayP r (rc l b) < awayP r (rc l j)) → (b < i ∨ (i = 0 ∧ b = 0)) →
    Go.Proofs.Ytnokjlajgkpajaa.PAreaNear.area_Nearest.l0 k l b l (l.length : Int) i r.x r.y r.w r.h = some (0, false) ∨
    ∃ c : Int, 0 ≤ c ∧ c < l.length ∧ Go.Proofs.Ytnokjlajgkpajaa.PAreaNear.area_Nearest.l0 k l b l (l.length : Int) i r.x r.y r.w r.h = some (c, true) ∧ (∀ j : Int, 0 ≤ j → j < l.length → rightB (rc l j) = true ∧ awayP r (rc l c) ≤ awayP r (rc l j)) ∧ (∀ j : Int, 0 ≤ j → j < c → awayP r (rc l c) < awayP r (rc l j)) := by
  induction d with
  | zero =>
    intro k b i h0 h1 hd hk hb0 hb1 hbr hle hlt hbi
    obtain ⟨k, rfl⟩ : ∃ m, k = m + 1 := ⟨k - 1, by omega⟩
    right
    refine ⟨b, hb0, hb1, ?_, fun j hj0 hj1 => ⟨(hle j hj0 (by omega)).2, (hle j hj0 (by omega)).1⟩, fun j hj0 hj1 => hlt j hj0 hj1 (by omega)⟩
    simp only [Go.Proofs.Ytnokjlajgkpajaa.PAreaNear.area_Nearest.l0]
    rw [if_neg (by omega)]
  | succ d ih =>
    intro k b i h0 h1 hd hk hb0 hb1 hbr hle hlt hbi
    obtain ⟨k, rfl⟩ : ∃ m, k = m + 2 := ⟨k - 2, by omega⟩
    have hil : i < (l.length : Int) := by omega
    have e : Go.Proofs.Ytnokjlajgkpajaa.PAreaNear.area_Nearest.l0 (k + 2) l b l (l.length : Int) i r.x r.y r.w r.h = (Go.Proofs.Ytnokjlajgkpajaa.PAreaNear.geom_Right.f (rc l i).x (rc l i).y (rc l i).w (rc l i).h).bind fun t171 => (if t171 = true then ((Go.Proofs.Ytnokjlajgkpajaa.PAreaNear.area_away.f (k + 1) r.x r.y r.w r.h (rc l i).x (rc l i).y (rc l i).w (rc l i).h).bind fun t172 => ((Go.Proofs.Ytnokjlajgkpajaa.PAreaNear.area_away.f (k + 1) r.x r.y r.w r.h (rc l b).x (rc l b).y (rc l b).w (rc l b).h).bind fun t174 => (if t172 < t174 then (Go.Proofs.Ytnokjlajgkpajaa.PAreaNear.area_Nearest.l0 (k + 1) l i l (l.length : Int) (wrap64 (i + 1)) r.x r.y r.w r.h) else (Go.Proofs.Ytnokjlajgkpajaa.PAreaNear.area_Nearest.l0 (k + 1) l b l (l.length : Int) (wrap64 (i + 1)) r.x r.y r.w r.h)))) else (some (0, false))) := by
      conv => lhs; unfold Go.Proofs.Ytnokjlajgkpajaa.PAreaNear.area_Nearest.l0
      simp only [hil, h0, hb0, hb1, if_true]
      rfl
    rw [e, right_eq (rc l i)]
    simp only [Option.bind_some]
    by_cases hri : rightB (rc l i) = true
    · rw [if_pos hri]
      have hrb : rightB (rc l b) = true := by
        rcases hbr with h | h
        · exact h
        · rcases hbi with h' | h'
          · omega
          · rw [h'.2, ← h]; exact hri
      rw [away_eq k hr hri, away_eq k hr hrb]
      simp only [Option.bind_some]
      rw [wrap_next h0 hil hn]
      by_cases c : awayP r (rc l i) < awayP r (rc l b)
      · rw [if_pos c]
        refine ih (k + 1) i (i + 1) (by omega) (by omega) (by omega) (by omega) h0 hil (Or.inl hri) ?_ ?_ (by omega)
        · intro j hj0 hj1
          by_cases ej : j = i
          · subst ej; exact ⟨Int.le_refl _, hri⟩
          · have := hle j hj0 (by omega); exact ⟨by omega, this.2⟩
        · intro j hj0 hj1 _
          have := hle j hj0 hj1; omega
      · rw [if_neg c]
        refine ih (k + 1) b (i + 1) (by omega) (by omega) (by omega) (by omega) hb0 hb1 (Or.inl hrb) ?_ ?_ (by omega)
        · intro j hj0 hj1
          by_cases ej : j = i
          · subst ej; exact ⟨by omega, hri⟩
          · exact hle j hj0 (by omega)
        · intro j hj0 hj1 hj2
          by_cases ej : j = i
          · subst ej
            rcases hbi with h' | h' <;> omega
          · exact hlt j hj0 hj1 (by omega)
    · rw [if_neg hri]; exact Or.inl rfl
theorem awake_eq (k : Nat) : Go.Proofs.Ytnokjlajgkpajaa.PAreaNear.casementlaw13_awake.f (k + 4) = some true := by
  have h4 : Go.Proofs.Ytnokjlajgkpajaa.PAreaNear.casementlaw13_awake.f 4 = some true := by kernel_rfl
  induction k with
  | zero => exact h4
  | succ k ih => exact Go.Proofs.Ytnokjlajgkpajaa.PAreaNear.casementlaw13_awake.mono (k + 4) _ ih
theorem check_loop (l : List S25) (hn : l.length * 48 ≤ 140737488351232) (r : Rc) (c most : Int) (hm : ∀ j : Int, 0 ≤ j → j < l.length → areaP (interP (rc l j) r) ≤ most ∧ (areaP (interP (rc l j) r) = most → most > 0 → c ≤ j)) (d : Nat) : ∀ (k : Nat) (i : Int), 0 ≤ i → i ≤ l.length → (l.length : Int) - i = d → d + 5 < k →
    Go.Proofs.Ytnokjlajgkpajaa.PAreaNear.casementlaw13_AreaNear.l0 k l c most i r.x r.y r.w r.h = some true := by
  induction d with
  | zero =>
    intro k i h0 h1 hd hk
    obtain ⟨k, rfl⟩ : ∃ m, k = m + 5 := ⟨k - 5, by omega⟩
    unfold Go.Proofs.Ytnokjlajgkpajaa.PAreaNear.casementlaw13_AreaNear.l0
    rw [if_neg (by omega), awake_eq]; rfl
  | succ d ih =>
    intro k i h0 h1 hd hk
    obtain ⟨k, rfl⟩ : ∃ m, k = m + 2 := ⟨k - 2, by omega⟩
    have hil : i < (l.length : Int) := by omega
    unfold Go.Proofs.Ytnokjlajgkpajaa.PAreaNear.casementlaw13_AreaNear.l0
    rw [if_pos hil, if_pos h0]
    have e := inter_eqk k (rc l i) r
    unfold rc at e
    dsimp only at e
    rw [e]
    simp only [Option.bind_some]
    have e2 := area_eq (interP (rc l i) r)
    unfold rc at e2
    rw [e2]
    simp only [Option.bind_some]
    have q := hm i h0 hil
    unfold rc at q
    rw [if_neg (by omega), wrap_next h0 hil hn]
    have ih' := ih (k + 1) (i + 1) (by omega) (by omega) (by omega) (by omega)
    split
    · split
      · rw [if_neg (by rename_i a b; have := q.2 a (by omega); omega)]; exact ih'
      · exact ih'
    · exact ih'
theorem inter_area_comm (a b : Rc) : areaP (interP a b) = areaP (interP b a) := by
  have : interP a b = interP b a := by
    unfold interP
    rw [Bool.or_comm, Int.max_comm a.x, Int.max_comm a.y, Int.min_comm (a.x + a.w), Int.min_comm (a.y + a.h)]
  rw [this]
theorem near_true (l : List S25) (hn : l.length * 48 ≤ 140737488351232) (r : Rc) : ∃ k, Go.Proofs.Ytnokjlajgkpajaa.PAreaNear.casementlaw13_AreaNear.f k l r.x r.y r.w r.h = some true := by
  refine ⟨l.length + 10, ?_⟩
  unfold Go.Proofs.Ytnokjlajgkpajaa.PAreaNear.casementlaw13_AreaNear.f Go.Proofs.Ytnokjlajgkpajaa.PAreaNear.area_Nearest.f
  by_cases h0 : (l.length : Int) = 0
  · rw [if_pos h0]
    simp only [Go.Proofs.Ytnokjlajgkpajaa.PAreaNear.area_Nearest.j0, if_true, Option.bind_some]
    rw [if_neg (by decide), awake_eq]; rfl
  · rw [if_neg h0, right_eq]
    simp only [Option.bind_some]
    by_cases hr : rightB r = true
    · rw [hr]
      simp only [Go.Proofs.Ytnokjlajgkpajaa.PAreaNear.area_Nearest.j0, Bool.not_true, Bool.false_eq_true, if_false]
      rcases near_loop l hn r hr l.length (l.length + 9) 0 0 (by omega) (by omega) (by omega) (by omega) (by omega) (by omega) (Or.inr rfl) (fun j h1 h2 => by omega) (fun j h1 h2 h3 => by omega) (Or.inr ⟨rfl, rfl⟩) with q | ⟨c, c0, c1, q, hle, hlt⟩
      · rw [q]
        simp only [Option.bind_some]
        rw [if_neg (by decide)]; simp only [if_true]; rw [awake_eq]; rfl
      · rw [q]
        simp only [Option.bind_some, if_true]
        rw [if_pos c0, if_pos c1]
        have e := inter_eqk (l.length + 9) (rc l c) r
        unfold rc at e
        dsimp only at e
        rw [e]
        simp only [Option.bind_some]
        have e2 := area_eq (interP (rc l c) r)
        unfold rc at e2
        rw [e2]
        simp only [Option.bind_some]
        refine check_loop l hn r c _ ?_ l.length (l.length + 10) 0 (by omega) (by omega) (by omega) (by omega)
        intro j j0 j1
        have g := hle j j0 j1
        have gc := hle c c0 c1
        have b1 := area_bound (interP r (rc l j))
        have b2 := area_bound (interP r (rc l c))
        have n1 := dist_nonneg hr g.1
        have n2 := dist_nonneg hr gc.1
        have k1 := inter_area_comm (rc l j) r
        have k2 := inter_area_comm (rc l c) r
        have w1 := g.2
        have w2 := hlt j j0
        unfold awayP at w1 w2
        rw [k1]
        show _ ≤ areaP (interP (rc l c) r) ∧ (_ = areaP (interP (rc l c) r) → areaP (interP (rc l c) r) > 0 → _)
        rw [k2]
        constructor
        · split at w1 <;> split at w1 <;> omega
        · intro e0 hp
          rcases Int.lt_or_le j c with hj | hj
          · have := w2 hj
            rw [e0, if_pos hp, if_pos hp] at this
            omega
          · exact hj
    · simp only [Bool.not_eq_true] at hr
      rw [hr]
      simp only [Go.Proofs.Ytnokjlajgkpajaa.PAreaNear.area_Nearest.j0, Bool.not_false, if_true, Option.bind_some]
      rw [if_neg (by decide), awake_eq]; rfl
end Go.Proofs.Ytnokjlajgkpajaa.Near
