/- AreaWorks: what the law's own function does: it answers true, and nothing that was there is changed. -/
import Derived.Test.YtnokjlajgkpajaaAWork
namespace Go.Proofs.Ytnokjlajgkpajaa
open Go.RowKit Go.Proofs.YtnokjlajgkpajaaW.PrintWords
set_option linter.unusedVariables false
theorem Works.AreaWorks_law (a0_0 : ByteArray) (a0_1 : Int) (a0_2 : Int) (a0_3 : Int) (a0_4 : Int) (A1 : Option Addr) (c1 : Nat) (l1 : List Go.Proofs.Ytnokjlajgkpajaa.PAreaWorks.S31) (W : World) (w0_0 : a0_0.size ≤ maxLen) (w0_1 : (Lit.int .i64 a0_1).wf = true) (w0_2 : (Lit.int .i64 a0_2).wf = true) (w0_3 : (Lit.int .i64 a0_3).wf = true) (w0_4 : (Lit.int .i64 a0_4).wf = true) (hr1 : Kd.C Go.Proofs.Ytnokjlajgkpajaa.PAreaWorks.k31 W A1 l1.length l1) (hc1 : l1.length ≤ c1) (hb1 : l1.length * 48 ≤ 140737488351232) (hp1 : ∀ x ∈ l1, (fun x : Go.Proofs.Ytnokjlajgkpajaa.PAreaWorks.S31 => x.f0.size ≤ maxLen ∧ (Lit.int .i64 x.f1).wf = true ∧ (Lit.int .i64 x.f2).wf = true ∧ (Lit.int .i64 x.f3).wf = true ∧ (Lit.int .i64 x.f4).wf = true) x) :
    Calls Try.prog 3 #[.agg #[.string a0_0, .int .i64 a0_1, .int .i64 a0_2, .int .i64 a0_3, .int .i64 a0_4], .slice A1 l1.length c1] W fun e w' => e = .returned (.bool true) ∧ Below W.heap.size W w'
    := by
  obtain ⟨k, h⟩ := Works.works_true l1 hb1 a0_0 ⟨a0_1, a0_2, a0_3, a0_4⟩
  exact PAreaWorks.casementlaw13_AreaWorks.calls k a0_0 a0_1 a0_2 a0_3 a0_4 A1 c1 l1 true W hr1 hc1 h
end Go.Proofs.Ytnokjlajgkpajaa
