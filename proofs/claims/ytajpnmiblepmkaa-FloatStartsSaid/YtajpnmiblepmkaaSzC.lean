/- Sizes by hints: the contracts of the program's spans, walked by hand. -/
import Derived.Test.YtajpnmiblepmkaaSzL
import Derived.Test.YtajpnmiblepmkaaGeoP
import Derived.Test.YtajpnmiblepmkaaProg
import Derived.Test.YtajpnmiblepmkaaWMore
import Derived.Test.YtajpnmiblepmkaaWLast
import Derived.WalkKit
import Derived.WalkSpells
import Derived.WalkLawsBesides
import Derived.RegionTactic
import Derived.Deep.QuietTactic
import Derived.Deep.RegionLaw
import Derived.BigQuiet
import Derived.BigRegion

namespace Go.Proofs.Ytajpnmiblepmkaa.Sz
open Go.RowKit Go.Proofs.YtajpnmiblepmkaaW.PrintMore Go.Proofs.YtajpnmiblepmkaaW.PrintWords Go.Proofs.YtajpnmiblepmkaaW.PrintLast Go.Proofs.Ytajpnmiblepmkaa.Geo
set_option linter.unusedVariables false
set_option linter.unusedSimpArgs false

attribute [local go_sem] max2_int min2_int max_two min_two max_three min_three
theorem mx_is (a b : Int) : mx a b = max a b := by unfold mx; omega
theorem mn_is (a b : Int) : mn a b = min a b := by unfold mn; omega
theorem mul_bd {a b : Int} (h1 : 0 ≤ a) (h2 : a ≤ 65535) (h3 : 0 ≤ b) (h4 : b ≤ 65535) : 0 ≤ a * b ∧ a * b ≤ 4294836225 := by
  constructor
  · exact Int.mul_nonneg h1 h3
  · have := Int.mul_le_mul h2 h4 h3 (by omega); omega
theorem div_bd {a b : Int} (h : 0 ≤ a) (hb : 1 ≤ b) : 0 ≤ a / b ∧ a / b ≤ a := ⟨Int.ediv_nonneg h (by omega), Int.ediv_le_self _ h⟩
theorem emod_bd (a : Int) {c : Int} (hc : 1 ≤ c) : 0 ≤ a % c ∧ a % c < c := ⟨Int.emod_nonneg _ (by omega), Int.emod_lt_of_pos _ (by omega)⟩
theorem bcell {W w1 : World} (hb : Below W.heap.size W w1) : (∀ b o, b < W.heap.size → w1.cell? ⟨b, o, none⟩ = W.cell? ⟨b, o, none⟩) ∧ (∀ b o, b < W.heap.size → w1.frozen? ⟨b, o, none⟩ = W.frozen? ⟨b, o, none⟩) :=
  ⟨fun b o h => hb.cell (p := ⟨b, o, none⟩) h, fun b o h => hb.frozen (p := ⟨b, o, none⟩) h⟩
def lastR (least most base inc n : Int) : Int × Bool := if min n most < base then (0, false) else (lastV most base inc n, decide (least ≤ lastV most base inc n))
def firstR (least most base inc n : Int) : Int × Bool := (firstV least base inc n, decide (firstV least base inc n ≤ most))
def nearR (least most base inc n : Int) : Int × Bool := if (lastR least most base inc n).2 = true then ((lastR least most base inc n).1, true) else firstR least most base inc n

theorem last_r {least most base inc n : Int} {m : Int} {ok : Bool} (e : lastR least most base inc n = (m, ok)) : (ok = true → base ≤ min n most ∧ least ≤ lastV most base inc n ∧ m = lastV most base inc n) ∧ (ok = false → ¬ base ≤ min n most ∨ ¬ least ≤ lastV most base inc n) := by
  unfold lastR at e
  by_cases c : min n most < base
  · rw [if_pos c] at e
    injection e with e1 e2
    subst e1 e2
    exact ⟨by simp, fun _ => Or.inl (by omega)⟩
  · rw [if_neg c] at e
    injection e with e1 e2
    subst e1 e2
    exact ⟨fun q => ⟨by omega, of_decide_eq_true q, rfl⟩, fun q => Or.inr (of_decide_eq_false q)⟩
theorem first_r {least most base inc n : Int} {m : Int} {ok : Bool} (e : firstR least most base inc n = (m, ok)) : m = firstV least base inc n ∧ (ok = true → firstV least base inc n ≤ most) ∧ (ok = false → ¬ firstV least base inc n ≤ most) := by
  unfold firstR at e
  injection e with e1 e2
  subst e1 e2
  exact ⟨rfl, fun q => of_decide_eq_true q, fun q => of_decide_eq_false q⟩
theorem near_r {least most base inc n : Int} (hi : 1 ≤ inc) {m : Int} {ok : Bool} (e : nearR least most base inc n = (m, ok)) : (ok = true → IsNear (El least most base inc) n m) ∧ (ok = false → ∀ z, ¬ El least most base inc z) := by
  unfold nearR at e
  obtain ⟨⟨m1, ok1⟩, e1⟩ : ∃ r, r = lastR least most base inc n := ⟨_, rfl⟩
  rw [← e1] at e
  have l := last_r e1.symm
  dsimp only at e
  cases ok1
  · rw [if_neg (by decide)] at e
    have f := first_r e
    have q := l.2 rfl
    constructor
    · intro k; rw [f.1]; exact near_first hi q (f.2.1 k)
    · intro k; exact near_none hi q (f.2.2 k)
  · rw [if_pos rfl] at e
    injection e with e1 e2
    subst e1 e2
    obtain ⟨q1, q2, q3⟩ := l.1 rfl
    exact ⟨fun _ => by rw [q3]; exact near_last hi q1 q2, by simp⟩

set_option maxHeartbeats 1000000 in
theorem c_wide (h : Hn) (w : World) : Calls Try.prog 64 #[.agg #[.int .i64 h.minW, .int .i64 h.minH, .int .i64 h.maxW, .int .i64 h.maxH, .int .i64 h.baseW, .int .i64 h.baseH, .int .i64 h.incW, .int .i64 h.incH, .int .i64 h.lowX, .int .i64 h.lowY, .int .i64 h.highX, .int .i64 h.highY]] w fun e w' => e = .returned (.agg #[.int .i64 h.minW, .int .i64 (topP h.maxW), .int .i64 h.baseW, .int .i64 h.incW]) ∧ Below w.heap.size w w' := by
  obtain ⟨minW, minH, maxW, maxH, baseW, baseH, incW, incH, lowX, lowY, highX, highY⟩ := h
  dsimp only
  unfold topP
  by_cases c : maxW = 0
  · rw [if_pos c]
    subst c
    go_enter Try.func64, Try.ntmps64
    go_wp2
    exact bodyPost_ret (v := .agg #[.int .i64 minW, .int .i64 65535, .int .i64 baseW, .int .i64 incW]) (by simp [results, Try.results64, go_sem]) rfl ⟨rfl, by (repeat (first | exact Below.refl _ _ | apply below_alloc | (refine below_set ?_ (by simp))))⟩
  · rw [if_neg c]
    have e : (maxW == 0) = false := by simp [c]
    go_enter Try.func64, Try.ntmps64
    go_wp2
    exact bodyPost_ret (v := .agg #[.int .i64 minW, .int .i64 maxW, .int .i64 baseW, .int .i64 incW]) (by simp [results, Try.results64, go_sem]) rfl ⟨rfl, by (repeat (first | exact Below.refl _ _ | apply below_alloc | (refine below_set ?_ (by simp))))⟩
set_option maxHeartbeats 1000000 in
theorem c_last {least most base inc n : Int} {m : Int} {ok : Bool} (e : lastR least most base inc n = (m, ok)) (hi : 1 ≤ inc) (hi2 : inc ≤ 65535) (hb0 : 0 ≤ base) (hb : base ≤ 65535) (hn : n ≤ 1099511627776) (w : World) :
    Calls Try.prog 65 #[.agg #[.int .i64 least, .int .i64 most, .int .i64 base, .int .i64 inc], .int .i64 n] w fun e w' => e = .returned (.tuple #[.int .i64 m, .bool ok]) ∧ Below w.heap.size w w' := by
  have hm : ∃ j, min n most = j ∧ j ≤ n ∧ (if most < n then most else n) = j := ⟨_, rfl, by omega, by split <;> omega⟩
  unfold lastR lastV at e
  obtain ⟨j, hj, hjn, hm⟩ := hm
  rw [hj] at e
  clear hj
  by_cases c : j < base
  · rw [if_pos c] at e
    injection e with e1 e2
    subst e1 e2
    go_enter Try.func65, Try.ntmps65
    go_wp2
    go_ret2
    exact ⟨rfl, below_alloc (Below.refl _ _) _⟩
  · rw [if_neg c] at e
    have g := emod_bd (j - base) hi
    obtain ⟨g1, g2⟩ := g
    injection e with e1 e2
    have c' : base ≤ j := by omega
    subst e1 e2
    clear c
    go_enter Try.func65, Try.ntmps65
    go_wp2_with fail
    go_quiet (fail)
    go_wp2
    go_ret2
    exact ⟨rfl, pw_below_drewN (below_alloc (Below.refl _ _) _) _⟩
set_option maxHeartbeats 2000000 in
theorem c_first {least most base inc n : Int} {m : Int} {ok : Bool} (e : firstR least most base inc n = (m, ok)) (hi : 1 ≤ inc) (hi2 : inc ≤ 65535) (hb0 : 0 ≤ base) (hb : base ≤ 65535) (hn : n ≤ 1099511627776) (hl : least ≤ 1099511627776) (w : World) :
    Calls Try.prog 68 #[.agg #[.int .i64 least, .int .i64 most, .int .i64 base, .int .i64 inc], .int .i64 n] w fun e w' => e = .returned (.tuple #[.int .i64 m, .bool ok]) ∧ Below w.heap.size w w' := by
  have hm : ∃ i j, max (max n least) base = j ∧ base ≤ j ∧ j ≤ 1099511627776 ∧ (if n < least then least else n) = i ∧ (if i < base then base else i) = j := ⟨max n least, _, rfl, by omega, by omega, by split <;> omega, by split <;> omega⟩
  unfold firstR firstV at e
  obtain ⟨i, j, hj, h1, h2, h3, h4⟩ := hm
  rw [hj] at e
  clear hj
  have d := div_bd (a := j - base + inc - 1) (b := inc) (by omega) hi
  have g := grid_up (k := j - base) hi (by omega)
  obtain ⟨d1, d2⟩ := d
  obtain ⟨_, g2, g3, _⟩ := g
  injection e with e1 e2
  subst e1 e2
  have g1 : 0 ≤ (j - base + inc - 1) / inc * inc := by omega
  go_enter Try.func68, Try.ntmps68
  go_wp2_with fail
  go_quiet (fail)
  go_wp2_with fail
  go_quiet (fail)
  go_wp2
  go_ret2
  exact ⟨rfl, pw_below_drewN (pw_below_drewN (below_alloc (Below.refl _ _) _) _) _⟩
set_option maxHeartbeats 1000000 in
theorem c_near {least most base inc n : Int} {m : Int} {ok : Bool} (e : nearR least most base inc n = (m, ok)) (hi : 1 ≤ inc) (hi2 : inc ≤ 65535) (hb0 : 0 ≤ base) (hb : base ≤ 65535) (hn : n ≤ 1099511627776) (hl : least ≤ 1099511627776) (w : World) :
    Calls Try.prog 67 #[.agg #[.int .i64 least, .int .i64 most, .int .i64 base, .int .i64 inc], .int .i64 n] w fun e w' => e = .returned (.tuple #[.int .i64 m, .bool ok]) ∧ Below w.heap.size w w' := by
  unfold nearR at e
  obtain ⟨⟨m1, ok1⟩, e1⟩ : ∃ r, r = lastR least most base inc n := ⟨_, rfl⟩
  rw [← e1] at e
  dsimp only at e
  have c1 := Aside0.mk (c_last e1.symm hi hi2 hb0 hb hn)
  clear e1
  cases ok1
  · rw [if_neg (by decide)] at e
    have c2 := Aside0.mk (c_first e hi hi2 hb0 hb hn hl)
    clear e
    go_enter Try.func67, Try.ntmps67
    go_wp2_with fail
    refine (c1.out _).mono ?_
    rintro e w1 ⟨rfl, hb⟩
    obtain ⟨hc, hf⟩ := bcell hb
    have HB := Aside0.mk (below_step (below_alloc (Below.refl w.heap.size w) (.cells #[.int .i64 least, .int .i64 most, .int .i64 base, .int .i64 inc] 71)) hb)
    clear hb
    go_wp2_with fail
    refine (c2.out _).mono ?_
    rintro e w2 ⟨rfl, hb⟩
    replace HB := Aside0.mk (below_step HB.out hb)
    clear hb
    go_wp2
    go_ret2
    exact ⟨rfl, HB.out⟩
  · rw [if_pos rfl] at e
    injection e with e1 e2
    subst e1 e2
    go_enter Try.func67, Try.ntmps67
    go_wp2_with fail
    refine (c1.out _).mono ?_
    rintro e w1 ⟨rfl, hb⟩
    have HB := Aside0.mk (below_step (below_alloc (Below.refl w.heap.size w) (.cells #[.int .i64 least, .int .i64 most, .int .i64 base, .int .i64 inc] 71)) hb)
    clear hb
    go_wp2
    go_ret2
    exact ⟨rfl, HB.out⟩
end Go.Proofs.Ytajpnmiblepmkaa.Sz
