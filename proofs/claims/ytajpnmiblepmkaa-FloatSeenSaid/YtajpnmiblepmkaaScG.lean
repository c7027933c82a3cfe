/- Sizes by hints: the contracts of the spans of numbers, of along, and of the reference's find. -/
import Derived.Test.YtajpnmiblepmkaaSzD

namespace Go.Proofs.Ytajpnmiblepmkaa.Sz
open Go.RowKit Go.Proofs.YtajpnmiblepmkaaW.PrintMore Go.Proofs.YtajpnmiblepmkaaW.PrintWords Go.Proofs.YtajpnmiblepmkaaW.PrintLast Go.Proofs.Ytajpnmiblepmkaa.Geo
set_option linter.unusedVariables false
set_option linter.unusedSimpArgs false
attribute [local go_sem] max2_int min2_int max_two min_two max_three min_three
set_option maxHeartbeats 1000000 in
theorem c_gspan (v l m : Int) (w : World) : Calls Try.prog 40 #[.int .i64 v, .int .i64 l, .int .i64 m] w fun e w' => e = .returned (.int .i64 (spanI v l m)) ∧ w = w' := by
  have c : ∀ w, Calls Try.prog 59 #[.int .i64 v, .int .i64 l, .int .i64 m] w fun e w' => e = .returned (.int .i64 (spanI v l m)) ∧ w = w' := by
    intro w
    obtain ⟨i, hi⟩ : ∃ i, (if m < v then m else v) = i := ⟨_, rfl⟩
    have hs : ∃ j, spanI v l m = j ∧ (if l < i then i else l) = j := ⟨_, rfl, by unfold spanI; rw [← hi]; split <;> split <;> omega⟩
    obtain ⟨j, hj, hs⟩ := hs
    rw [hj]
    clear hj
    go_enter Try.func59, Try.ntmps59
    go_wp2
    go_ret
    exact ⟨rfl, rfl⟩
  go_enter Try.func40, Try.ntmps40
  go_wp2_with fail
  refine (c _).mono ?_
  rintro e w1 ⟨rfl, rfl⟩
  go_wp2
  go_ret
  exact ⟨rfl, rfl⟩
set_option maxHeartbeats 1000000 in
theorem c_bound (n l : Int) (w : World) : Calls Try.prog 69 #[.int .i64 n, .int .i64 l] w fun e w' => e = .returned (.int .i64 (boundI n l)) ∧ w = w' := by
  unfold boundI
  by_cases c : n ≤ 0
  · rw [if_pos c]
    go_enter Try.func69, Try.ntmps69
    go_wp2
    go_ret
    exact ⟨rfl, rfl⟩
  · rw [if_neg c]
    go_enter Try.func69, Try.ntmps69
    go_wp2_with fail
    refine (c_gspan n l 65535 _).mono ?_
    rintro e w1 ⟨rfl, rfl⟩
    go_wp2
    go_ret
    exact ⟨rfl, rfl⟩

end Go.Proofs.Ytajpnmiblepmkaa.Sz
