/- AreaNear: what the law's own function does: it answers true, and nothing that was there is changed. -/
import Derived.Test.YtnokjlajgkpajaaANear
import Derived.Test.YtnokjlajgkpajaaPAreaNearx6
namespace Go.Proofs.Ytnokjlajgkpajaa
open Go.RowKit Go.Proofs.YtnokjlajgkpajaaW.PrintWords
set_option linter.unusedVariables false
theorem Near.AreaNear_law (A0 : Option Addr) (c0 : Nat) (l0 : List Go.Proofs.Ytnokjlajgkpajaa.PAreaNear.S25) (a1_0 : Int) (a1_1 : Int) (a1_2 : Int) (a1_3 : Int) (W : World) (hr0 : Kd.C Go.Proofs.Ytnokjlajgkpajaa.PAreaNear.k25 W A0 l0.length l0) (hc0 : l0.length ≤ c0) (hb0 : l0.length * 48 ≤ 140737488351232) (hp0 : ∀ x ∈ l0, (fun x : Go.Proofs.Ytnokjlajgkpajaa.PAreaNear.S25 => x.f0.size ≤ maxLen ∧ (Lit.int .i64 x.f1.f0).wf = true ∧ (Lit.int .i64 x.f1.f1).wf = true ∧ (Lit.int .i64 x.f1.f2).wf = true ∧ (Lit.int .i64 x.f1.f3).wf = true) x) (w1_0 : (Lit.int .i64 a1_0).wf = true) (w1_1 : (Lit.int .i64 a1_1).wf = true) (w1_2 : (Lit.int .i64 a1_2).wf = true) (w1_3 : (Lit.int .i64 a1_3).wf = true) :
    Calls Try.prog 6 #[.slice A0 l0.length c0, .agg #[.int .i64 a1_0, .int .i64 a1_1, .int .i64 a1_2, .int .i64 a1_3]] W fun e w' => e = .returned (.bool true) ∧ Below W.heap.size W w'
    := by
  obtain ⟨k, h⟩ := Near.near_true l0 hb0 ⟨a1_0, a1_1, a1_2, a1_3⟩
  exact PAreaNear.casementlaw13_AreaNear.calls k A0 c0 l0 a1_0 a1_1 a1_2 a1_3 true W hr0 hc0 h
end Go.Proofs.Ytnokjlajgkpajaa
