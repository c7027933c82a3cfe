/- Sizes by hints: the contract of the program's high, walked by hand. -/
import Derived.Test.YtajpnmiblepmkaaSzC
import Derived.StillTailTactics

namespace Go.Proofs.Ytajpnmiblepmkaa.Sz
open Go.RowKit Go.Proofs.YtajpnmiblepmkaaW.PrintMore Go.Proofs.YtajpnmiblepmkaaW.PrintWords Go.Proofs.YtajpnmiblepmkaaW.PrintLast Go.Proofs.Ytajpnmiblepmkaa.Geo
set_option linter.unusedVariables false
set_option linter.unusedSimpArgs false

attribute [local go_sem] max2_int min2_int max_two min_two max_three min_three
set_option maxHeartbeats 4000000 in
theorem c_high0 (h : Hn) (h0 : h.lowX = 0) (x : Int) (w : World) : Calls Try.prog 66 #[.agg #[.int .i64 h.minW, .int .i64 h.minH, .int .i64 h.maxW, .int .i64 h.maxH, .int .i64 h.baseW, .int .i64 h.baseH, .int .i64 h.incW, .int .i64 h.incH, .int .i64 h.lowX, .int .i64 h.lowY, .int .i64 h.highX, .int .i64 h.highY], .int .i64 x] w fun e w' => e = .returned (.agg #[.int .i64 h.minH, .int .i64 (topP h.maxH), .int .i64 h.baseH, .int .i64 h.incH]) ∧ Below w.heap.size w w' := by
  obtain ⟨minW, minH, maxW, maxH, baseW, baseH, incW, incH, lowX, lowY, highX, highY⟩ := h
  dsimp only at h0 ⊢
  subst h0
  unfold topP
  by_cases c : maxH = 0
  · rw [if_pos c]
    subst c
    go_enter Try.func66, Try.ntmps66
    go_wp2
    exact bodyPost_ret (v := .agg #[.int .i64 minH, .int .i64 65535, .int .i64 baseH, .int .i64 incH]) (by simp [results, Try.results66, go_sem]) rfl ⟨rfl, by (repeat (first | exact Below.refl _ _ | apply below_alloc | (refine below_set ?_ (by simp))))⟩
  · rw [if_neg c]
    have e : (maxH == 0) = false := by simp [c]
    go_enter Try.func66, Try.ntmps66
    go_wp2
    exact bodyPost_ret (v := .agg #[.int .i64 minH, .int .i64 maxH, .int .i64 baseH, .int .i64 incH]) (by simp [results, Try.results66, go_sem]) rfl ⟨rfl, by (repeat (first | exact Below.refl _ _ | apply below_alloc | (refine below_set ?_ (by simp))))⟩
set_option maxHeartbeats 8000000 in
theorem c_high1 (minW minH maxW maxH baseW baseH incW incH lowX lowY highX highY x : Int) (h1 : 1 ≤ lowX) (h2 : lowX ≤ 65535) (h3 : 1 ≤ highX) (h4 : highX ≤ 65535) (p q : Int) (b1 : 0 ≤ x * highY) (b2 : x * highY ≤ 4294836225) (b3 : 0 ≤ x * lowY) (b4 : x * lowY ≤ 4294836225) (c1 : 0 ≤ (x * highY + highX - 1) / highX) (c2 : (x * highY + highX - 1) / highX ≤ 4294967296) (c3 : 0 ≤ x * lowY / lowX) (c4 : x * lowY / lowX ≤ 4294967296)
    (hp : (if minH < (x * highY + highX - 1) / highX then (x * highY + highX - 1) / highX else minH) = p) (hq : (if x * lowY / lowX < topP maxH then x * lowY / lowX else topP maxH) = q) (w : World) :
    Calls Try.prog 66 #[.agg #[.int .i64 minW, .int .i64 minH, .int .i64 maxW, .int .i64 maxH, .int .i64 baseW, .int .i64 baseH, .int .i64 incW, .int .i64 incH, .int .i64 lowX, .int .i64 lowY, .int .i64 highX, .int .i64 highY], .int .i64 x] w fun e w' => e = .returned (.agg #[.int .i64 p, .int .i64 q, .int .i64 baseH, .int .i64 incH]) ∧ Below w.heap.size w w' := by
  have e1 : ¬ lowX = 0 := by omega
  have e2 : (lowX == 0) = false := by simp; omega
  have e3 : (highX == 0) = false := by simp; omega
  have e4 : decide (0 < lowX) = true := decide_eq_true (by omega)
  by_cases c : maxH = 0
  · subst c
    rw [show topP 0 = 65535 by rfl] at hq
    go_enter Try.func66, Try.ntmps66
    go_wp2_with fail
    go_region
    go_wp2_with fail
    go_region
    go_wp2
    exact bodyPost_ret (v := .agg #[.int .i64 p, .int .i64 q, .int .i64 baseH, .int .i64 incH]) (by simp [results, Try.results66, go_sem]) rfl ⟨rfl, by (repeat (first | exact Below.refl _ _ | apply below_alloc | apply below_drew | (refine below_set ?_ (by simp))))⟩
  · rw [show topP maxH = maxH by unfold topP; rw [if_neg c]] at hq
    have e : (maxH == 0) = false := by simp [c]
    go_enter Try.func66, Try.ntmps66
    go_wp2_with fail
    go_region
    go_wp2_with fail
    go_region
    go_wp2
    exact bodyPost_ret (v := .agg #[.int .i64 p, .int .i64 q, .int .i64 baseH, .int .i64 incH]) (by simp [results, Try.results66, go_sem]) rfl ⟨rfl, by (repeat (first | exact Below.refl _ _ | apply below_alloc | apply below_drew | (refine below_set ?_ (by simp))))⟩
/-- The heights beside a width, of normal hints. -/
theorem c_high {h : Hn} (hn : Nrm h) {x : Int} (hx0 : 0 ≤ x) (hx : x ≤ 65535) (w : World) : Calls Try.prog 66 #[.agg #[.int .i64 h.minW, .int .i64 h.minH, .int .i64 h.maxW, .int .i64 h.maxH, .int .i64 h.baseW, .int .i64 h.baseH, .int .i64 h.incW, .int .i64 h.incH, .int .i64 h.lowX, .int .i64 h.lowY, .int .i64 h.highX, .int .i64 h.highY], .int .i64 x] w fun e w' => e = .returned (.agg #[.int .i64 (lowV h x), .int .i64 (mostV h x), .int .i64 h.baseH, .int .i64 h.incH]) ∧ Below w.heap.size w w' := by
  rcases hn.2 with ha | ha
  · have e1 : lowV h x = h.minH := by unfold lowV; rw [if_neg (by have := ha.1; omega)]
    have e2 : mostV h x = topP h.maxH := by unfold mostV; rw [if_neg (by have := ha.1; omega)]
    rw [e1, e2]
    exact c_high0 h ha.1 x w
  · obtain ⟨a, b, c, d, e⟩ := ha
    have m1 := mul_bd hx0 hx (b := h.highY) (by omega) (by omega)
    have m2 := mul_bd hx0 hx (b := h.lowY) (by omega) (by omega)
    have d1 := div_bd (a := x * h.highY + h.highX - 1) (b := h.highX) (by omega) (by omega)
    have d2 := div_bd (a := x * h.lowY) (b := h.lowX) (by omega) (by omega)
    refine c_high1 h.minW h.minH h.maxW h.maxH h.baseW h.baseH h.incW h.incH h.lowX h.lowY h.highX h.highY x a.1 a.2 c.1 c.2 (lowV h x) (mostV h x) m1.1 m1.2 m2.1 m2.2 d1.1 (by omega) d2.1 (by omega) ?_ ?_ w
    · unfold lowV; rw [if_pos (show h.lowX > 0 by omega)]; split <;> omega
    · unfold mostV; rw [if_pos (show h.lowX > 0 by omega)]; split <;> omega
set_option maxHeartbeats 8000000 in
theorem c_high2 (minW minH maxW maxH baseW baseH incW incH lowX lowY highX highY x : Int) (h1 : 1 ≤ lowX) (h2 : lowX ≤ 65535) (h3 : 1 ≤ highX) (h4 : highX ≤ 65535) (p q : Int)
    (hp : (if minH < wrap64 ((wrap64 (wrap64 (wrap64 (x * highY) + highX) - 1)).tdiv highX) then wrap64 ((wrap64 (wrap64 (wrap64 (x * highY) + highX) - 1)).tdiv highX) else minH) = p) (hq : (if wrap64 ((wrap64 (x * lowY)).tdiv lowX) < topP maxH then wrap64 ((wrap64 (x * lowY)).tdiv lowX) else topP maxH) = q) (w : World) :
    Calls Try.prog 66 #[.agg #[.int .i64 minW, .int .i64 minH, .int .i64 maxW, .int .i64 maxH, .int .i64 baseW, .int .i64 baseH, .int .i64 incW, .int .i64 incH, .int .i64 lowX, .int .i64 lowY, .int .i64 highX, .int .i64 highY], .int .i64 x] w fun e w' => e = .returned (.agg #[.int .i64 p, .int .i64 q, .int .i64 baseH, .int .i64 incH]) ∧ Below w.heap.size w w' := by
  have e1 : ¬ lowX = 0 := by omega
  have e2 : (lowX == 0) = false := by simp; omega
  have e3 : (highX == 0) = false := by simp; omega
  have e4 : decide (0 < lowX) = true := decide_eq_true (by omega)
  by_cases c : maxH = 0
  · subst c
    rw [show topP 0 = 65535 by rfl] at hq
    go_enter Try.func66, Try.ntmps66
    go_wp2_with fail
    go_region
    go_wp2_with fail
    go_region
    go_wp2
    exact bodyPost_ret (v := .agg #[.int .i64 p, .int .i64 q, .int .i64 baseH, .int .i64 incH]) (by simp [results, Try.results66, go_sem]) rfl ⟨rfl, by (repeat (first | exact Below.refl _ _ | apply below_alloc | apply below_drew | (refine below_set ?_ (by simp))))⟩
  · rw [show topP maxH = maxH by unfold topP; rw [if_neg c]] at hq
    have e : (maxH == 0) = false := by simp [c]
    go_enter Try.func66, Try.ntmps66
    go_wp2_with fail
    go_region
    go_wp2_with fail
    go_region
    go_wp2
    exact bodyPost_ret (v := .agg #[.int .i64 p, .int .i64 q, .int .i64 baseH, .int .i64 incH]) (by simp [results, Try.results66, go_sem]) rfl ⟨rfl, by (repeat (first | exact Below.refl _ _ | apply below_alloc | apply below_drew | (refine below_set ?_ (by simp))))⟩
theorem c_high_any {h : Hn} (hn : Nrm h) (x : Int) : ∃ p q, ∀ w, Calls Try.prog 66 #[.agg #[.int .i64 h.minW, .int .i64 h.minH, .int .i64 h.maxW, .int .i64 h.maxH, .int .i64 h.baseW, .int .i64 h.baseH, .int .i64 h.incW, .int .i64 h.incH, .int .i64 h.lowX, .int .i64 h.lowY, .int .i64 h.highX, .int .i64 h.highY], .int .i64 x] w fun e w' => e = .returned (.agg #[.int .i64 p, .int .i64 q, .int .i64 h.baseH, .int .i64 h.incH]) ∧ Below w.heap.size w w' := by
  rcases hn.2 with ha | ha
  · exact ⟨_, _, fun w => c_high0 h ha.1 x w⟩
  · obtain ⟨a, b, c, d, e⟩ := ha
    exact ⟨_, _, fun w => c_high2 h.minW h.minH h.maxW h.maxH h.baseW h.baseH h.incW h.incH h.lowX h.lowY h.highX h.highY x a.1 a.2 c.1 c.2 _ _ rfl rfl w⟩
end Go.Proofs.Ytajpnmiblepmkaa.Sz
