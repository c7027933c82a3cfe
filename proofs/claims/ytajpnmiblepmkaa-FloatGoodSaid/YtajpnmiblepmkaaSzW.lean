/- Sizes by hints: the contracts of Fit and Good, of the program and of its reference, and the chapter's examples. -/
import Derived.Test.YtajpnmiblepmkaaSzM
import Derived.Test.YtajpnmiblepmkaaWEqStruct
import Derived.Test.YtajpnmiblepmkaaPGoodx1
import Derived.Test.YtajpnmiblepmkaaPFitx3
namespace Go.Proofs.Ytajpnmiblepmkaa.Sz
open Go.RowKit Go.Proofs.YtajpnmiblepmkaaW.PrintMore Go.Proofs.YtajpnmiblepmkaaW.PrintWords Go.Proofs.YtajpnmiblepmkaaW.PrintLast Go.Proofs.Ytajpnmiblepmkaa.Geo
set_option linter.unusedVariables false
set_option linter.unusedSimpArgs false

theorem rgood_f {h : Hn} (hn : Nrm h) (w t : Int) : Go.Proofs.Ytajpnmiblepmkaa.PGood.casementref09_Good.f h.minW h.minH h.maxW h.maxH h.baseW h.baseH h.incW h.incH h.lowX h.lowY h.highX h.highY w t = some (goodB h w t) := by
  have al : ∀ n l m b i, Go.Proofs.Ytajpnmiblepmkaa.PGood.casementref09_along.f n l m b i = Go.Proofs.Ytajpnmiblepmkaa.PFit.casementref09_along.f n l m b i := fun _ _ _ _ _ => rfl
  have q := hn.1
  unfold Nrm0 at q
  have no : ∀ b : Bool, b = true → ¬ goodP h w t → some false = some (goodB h w t) := fun b _ n => by rw [goodB_false.2 n]
  unfold Go.Proofs.Ytajpnmiblepmkaa.PGood.casementref09_Good.f
  by_cases c1 : w < 1
  · rw [if_pos c1]; exact no true rfl fun g => by have := g.1; omega
  rw [if_neg c1]
  by_cases c2 : t < 1
  · rw [if_pos c2]; exact no true rfl fun g => by have := g.2.1; omega
  rw [if_neg c2]
  by_cases c3 : w > 65535
  · rw [if_pos c3]; exact no true rfl fun g => by have := g.2.2.1; omega
  rw [if_neg c3]
  by_cases c4 : t > 65535
  · rw [if_pos c4]; exact no true rfl fun g => by have := g.2.2.2.1; omega
  rw [if_neg c4, al, al]
  obtain ⟨b, e, eb⟩ := along_f (n := w) (least := h.minW) (most := h.maxW) (base := h.baseW) (inc := h.incW) (by omega) (by omega) (by omega)
  obtain ⟨b', e', eb'⟩ := along_f (n := t) (least := h.minH) (most := h.maxH) (base := h.baseH) (inc := h.incH) (by omega) (by omega) (by omega)
  rw [e]
  simp only [Option.bind_some]
  cases b
  · rw [if_neg (by decide)]; exact no true rfl fun g => absurd (eb.2 g.2.2.2.2.1) (by decide)
  rw [if_pos rfl, e']
  simp only [Option.bind_some]
  cases b'
  · rw [if_neg (by decide)]; exact no true rfl fun g => absurd (eb'.2 g.2.2.2.2.2.1) (by decide)
  rw [if_pos rfl]
  have yes : asp h w t → goodP h w t := fun a => ⟨by omega, by omega, by omega, by omega, eb.1 rfl, eb'.1 rfl, a⟩
  by_cases c5 : h.lowX = 0
  · rw [if_pos c5, goodB_true.2 (yes (Or.inl c5))]
  rw [if_neg c5]
  have ha := hn.2.resolve_left fun a => c5 a.1
  obtain ⟨a1, a2, a3, a4, _⟩ := ha
  have m1 := mul_bd (show 0 ≤ w by omega) (by omega) (b := h.lowY) (by omega) (by omega)
  have m2 := mul_bd (show 0 ≤ h.lowX by omega) a1.2 (b := t) (by omega) (by omega)
  have m3 := mul_bd (show 0 ≤ w by omega) (by omega) (b := h.highY) (by omega) (by omega)
  have m4 := mul_bd (show 0 ≤ h.highX by omega) a3.2 (b := t) (by omega) (by omega)
  rw [wrap64_i (n := w * h.lowY) (by omega) (by omega), wrap64_i (n := h.lowX * t) (by omega) (by omega), wrap64_i (n := w * h.highY) (by omega) (by omega), wrap64_i (n := h.highX * t) (by omega) (by omega)]
  by_cases c6 : w * h.lowY ≥ h.lowX * t
  · rw [if_pos c6]
    by_cases c7 : w * h.highY ≤ h.highX * t
    · rw [decide_eq_true c7, goodB_true.2 (yes (Or.inr ⟨c6, c7⟩))]
    · rw [decide_eq_false c7]
      exact no true rfl fun g => by
        rcases g.2.2.2.2.2.2 with p | p
        · exact c5 p
        · exact c7 p.2
  · rw [if_neg c6]
    exact no true rfl fun g => by
      rcases g.2.2.2.2.2.2 with p | p
      · exact c5 p
      · exact c6 p.1

theorem c_rgood {h : Hn} (hn : Nrm h) (x y : Int) (w : World) : Calls Try.prog 17 #[.agg #[.int .i64 h.minW, .int .i64 h.minH, .int .i64 h.maxW, .int .i64 h.maxH, .int .i64 h.baseW, .int .i64 h.baseH, .int .i64 h.incW, .int .i64 h.incH, .int .i64 h.lowX, .int .i64 h.lowY, .int .i64 h.highX, .int .i64 h.highY], .int .i64 x, .int .i64 y] w fun e w' => e = .returned (.bool (goodB h x y)) ∧ Below w.heap.size w w' :=
  (Go.Proofs.Ytajpnmiblepmkaa.PGood.casementref09_Good.calls h.minW h.minH h.maxW h.maxH h.baseW h.baseH h.incW h.incH h.lowX h.lowY h.highX h.highY x y _ w (rgood_f hn x y)).mono fun e w' h => ⟨h.1, by first | exact h.2 | (rw [← h.2]; exact Below.refl _ _) | (obtain ⟨n, rfl⟩ := h.2.out; exact pw_below_drewN (Below.refl _ _) n)⟩
set_option maxHeartbeats 2000000 in
theorem c_fit {h : Hn} {w t x y : Int} (e : fit h w t = (x, y, true)) (W : World) : Calls Try.prog 26 #[.agg #[.int .i64 h.minW, .int .i64 h.minH, .int .i64 h.maxW, .int .i64 h.maxH, .int .i64 h.baseW, .int .i64 h.baseH, .int .i64 h.incW, .int .i64 h.incH, .int .i64 h.lowX, .int .i64 h.lowY, .int .i64 h.highX, .int .i64 h.highY], .int .i64 w, .int .i64 t] W fun e w' => e = .returned (.tuple #[.int .i64 x, .int .i64 y]) ∧ Below W.heap.size W w' := by
  have HB := Aside0.mk (below_alloc (Below.refl W.heap.size W) (.cells #[.int .i64 h.minW, .int .i64 h.minH, .int .i64 h.maxW, .int .i64 h.maxH, .int .i64 h.baseW, .int .i64 h.baseH, .int .i64 h.incW, .int .i64 h.incH, .int .i64 h.lowX, .int .i64 h.lowY, .int .i64 h.highX, .int .i64 h.highY] 25))
  have KN := Aside0.mk (c_normal h)
  have K1 := Aside0.mk (fun w' => c_gspan w 0 65535 w')
  have K2 := Aside0.mk (fun w' => c_gspan t 0 65535 w')
  have KF := Aside0.mk (c_find (normal_nrm h) (w := spanI w 0 65535) (t := spanI t 0 65535) (by unfold spanI; omega) (by unfold spanI; omega) (by unfold spanI; omega) e)
  clear e
  go_enter Try.func26, Try.ntmps26
  go_wp2_with fail
  refine (KN.out _).mono ?_
  rintro e w1 ⟨rfl, hb⟩
  replace HB := Aside0.mk (below_step HB.out hb)
  clear hb
  go_wp2_with fail
  refine (K1.out _).mono ?_
  rintro e w2 ⟨rfl, rfl⟩
  go_wp2_with fail
  refine (K2.out _).mono ?_
  rintro e w2 ⟨rfl, rfl⟩
  go_wp2_with fail
  refine (KF.out _).mono ?_
  rintro e w2 ⟨rfl, hb⟩
  replace HB := Aside0.mk (below_step HB.out hb)
  clear hb
  go_wp2_with fail
  go_ret2
  exact ⟨rfl, HB.out⟩
set_option maxHeartbeats 2000000 in
theorem c_rfit {h : Hn} {w t x y : Int} (e : fit h w t = (x, y, true)) (W : World) : Calls Try.prog 31 #[.agg #[.int .i64 h.minW, .int .i64 h.minH, .int .i64 h.maxW, .int .i64 h.maxH, .int .i64 h.baseW, .int .i64 h.baseH, .int .i64 h.incW, .int .i64 h.incH, .int .i64 h.lowX, .int .i64 h.lowY, .int .i64 h.highX, .int .i64 h.highY], .int .i64 w, .int .i64 t] W fun e w' => e = .returned (.tuple #[.int .i64 x, .int .i64 y]) ∧ Below W.heap.size W w' := by
  have HB := Aside0.mk (below_alloc (Below.refl W.heap.size W) (.cells #[.int .i64 h.minW, .int .i64 h.minH, .int .i64 h.maxW, .int .i64 h.maxH, .int .i64 h.baseW, .int .i64 h.baseH, .int .i64 h.incW, .int .i64 h.incH, .int .i64 h.lowX, .int .i64 h.lowY, .int .i64 h.highX, .int .i64 h.highY] 25))
  have KN := Aside0.mk (c_rnormal h)
  have K1 := Aside0.mk (fun w' => c_rspan w 0 65535 w')
  have K2 := Aside0.mk (fun w' => c_rspan t 0 65535 w')
  have KF := Aside0.mk (c_rfind (normal_nrm h) (w := spanI w 0 65535) (t := spanI t 0 65535) (by unfold spanI; omega) (by unfold spanI; omega) (by unfold spanI; omega) (by unfold spanI; omega) e)
  clear e
  go_enter Try.func31, Try.ntmps31
  go_wp2_with fail
  refine (KN.out _).mono ?_
  rintro e w1 ⟨rfl, hb⟩
  replace HB := Aside0.mk (below_step HB.out hb)
  clear hb
  go_wp2_with fail
  refine (K1.out _).mono ?_
  rintro e w2 ⟨rfl, rfl⟩
  go_wp2_with fail
  refine (K2.out _).mono ?_
  rintro e w2 ⟨rfl, rfl⟩
  go_wp2_with fail
  refine (KF.out _).mono ?_
  rintro e w2 ⟨rfl, hb⟩
  replace HB := Aside0.mk (below_step HB.out hb)
  clear hb
  go_wp2_with fail
  go_ret2
  exact ⟨rfl, HB.out⟩
end Go.Proofs.Ytajpnmiblepmkaa.Sz
