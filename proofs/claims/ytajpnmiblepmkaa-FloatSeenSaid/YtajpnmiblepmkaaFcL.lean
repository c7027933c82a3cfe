/- Clients that stand free: the chapter's examples; FloatMoves. -/
import Derived.Test.YtajpnmiblepmkaaFcS

namespace Go.Proofs.Ytajpnmiblepmkaa.Fl
open Go.RowKit Go.Proofs.YtajpnmiblepmkaaW.PrintMore Go.Proofs.YtajpnmiblepmkaaW.PrintWords Go.Proofs.YtajpnmiblepmkaaW.PrintLast Go.Proofs.Ytajpnmiblepmkaa.Geo Go.Proofs.Ytajpnmiblepmkaa.Sz
set_option linter.unusedVariables false
set_option linter.unusedSimpArgs false

theorem eqR (d : Nat) (w : World) (x0 x1 x2 x3 y0 y1 y2 y3 : Int) :
    (Op.equalIn (d + 2) 23 (.agg #[.int .i64 x0, .int .i64 x1, .int .i64 x2, .int .i64 x3]) (.agg #[.int .i64 y0, .int .i64 y1, .int .i64 y2, .int .i64 y3])).run Try.prog w = .ok (x0 == y0 && (x1 == y1 && (x2 == y2 && (x3 == y3)))) w := by
  refine eqA_of Try.underlying23 (by kernel_rfl) ?_
  refine eqf_cons (by rfl) (by go_simp; rfl) (by go_simp; rfl) (by go_simp) ?_
  refine eqf_cons (by rfl) (by go_simp; rfl) (by go_simp; rfl) (by go_simp) ?_
  refine eqf_cons (by rfl) (by go_simp; rfl) (by go_simp; rfl) (by go_simp) ?_
  exact eqf_last (by rfl) (by go_simp; rfl) (by go_simp; rfl) (by go_simp)
attribute [local go_sem high] eqR
set_option maxHeartbeats 400000 in
theorem c_rect (a b c d : Int) (w : World) : Calls Try.prog 36 #[.int .i64 a, .int .i64 b, .int .i64 c, .int .i64 d] w fun e w' => e = .returned (.agg #[.int .i64 a, .int .i64 b, .int .i64 c, .int .i64 d]) ∧ Below w.heap.size w w' := by
  go_enter Try.func36, Try.ntmps36
  go_wp2
  exact bodyPost_ret (v := .agg #[.int .i64 a, .int .i64 b, .int .i64 c, .int .i64 d]) (by simp [results, Try.results36, go_sem]) rfl ⟨rfl, below_alloc (Below.refl _ _) _⟩
theorem start_ex : startP ⟨0, 0, 0, 0⟩ ⟨0, 0, 100, 100⟩ (hfree 0 0) 30 20 = ⟨35, 40, 30, 20⟩ := by
  have e : fit (hfree 0 0) (min 30 (workP ⟨0, 0, 100, 100⟩).w) (min 20 (workP ⟨0, 0, 100, 100⟩).h) = (30, 20, true) := fit_free (a := 0) (b := 0) (w := 30) (t := 20) (by decide) (by decide) (by decide) (by decide)
  unfold startP
  rw [e]
  rfl
theorem move_ex : moveP ⟨35, 40, 30, 20⟩ ⟨0, 0, 100, 100⟩ (-500) 0 = ⟨-14, 40, 30, 20⟩ := by kernel_rfl
set_option maxHeartbeats 4000000 in
set_option maxRecDepth 100000 in
theorem c_awake (W : World) : Calls Try.prog 11 #[] W fun e w' => e = .returned (.bool true) ∧ Below W.heap.size W w' := by
  have KS := c_start ⟨0, 0, 0, 0⟩ ⟨0, 0, 100, 100⟩ (hfree 0 0) 30 20
  rw [start_ex] at KS
  have KS' := Aside0.mk (show ∀ w, Calls Try.prog 9 #[.agg #[.int .i64 0, .int .i64 0, .int .i64 0, .int .i64 0], .agg #[.int .i64 0, .int .i64 0, .int .i64 100, .int .i64 100], .agg #[.int .i64 0, .int .i64 0, .int .i64 0, .int .i64 0, .int .i64 0, .int .i64 0, .int .i64 0, .int .i64 0, .int .i64 0, .int .i64 0, .int .i64 0, .int .i64 0], .int .i64 30, .int .i64 20] w fun e w' => e = .returned (.agg #[.int .i64 35, .int .i64 40, .int .i64 30, .int .i64 20]) ∧ Below w.heap.size w w' from KS)
  have KM := c_move ⟨35, 40, 30, 20⟩ ⟨0, 0, 100, 100⟩ (-500) 0
  rw [move_ex] at KM
  have KM' := Aside0.mk (show ∀ w, Calls Try.prog 12 #[.agg #[.int .i64 35, .int .i64 40, .int .i64 30, .int .i64 20], .agg #[.int .i64 0, .int .i64 0, .int .i64 100, .int .i64 100], .int .i64 (-500), .int .i64 0] w fun e w' => e = .returned (.agg #[.int .i64 (-14), .int .i64 40, .int .i64 30, .int .i64 20]) ∧ Below w.heap.size w w' from KM)
  clear KS KM
  have HB := Aside0.mk (Below.refl W.heap.size W)
  go_enter Try.func11, Try.ntmps11
  go_wp2_with fail
  refine (c_rect 0 0 0 0 _).mono ?_
  rintro e w1 ⟨rfl, hb⟩
  replace HB := Aside0.mk (below_step HB.out hb)
  clear hb
  go_wp2_with fail
  refine (c_rect 0 0 100 100 _).mono ?_
  rintro e w1 ⟨rfl, hb⟩
  replace HB := Aside0.mk (below_step HB.out hb)
  clear hb
  go_wp2_with fail
  refine (KS'.out _).mono ?_
  rintro e w1 ⟨rfl, hb⟩
  replace HB := Aside0.mk (below_step HB.out hb)
  clear hb
  go_wp2_with fail
  refine (c_rect 35 40 30 20 _).mono ?_
  rintro e w1 ⟨rfl, hb⟩
  replace HB := Aside0.mk (below_step HB.out hb)
  clear hb
  go_wp2_with fail
  refine (c_rect 35 40 30 20 _).mono ?_
  rintro e w1 ⟨rfl, hb⟩
  replace HB := Aside0.mk (below_step HB.out hb)
  clear hb
  go_wp2_with fail
  refine (c_rect 0 0 100 100 _).mono ?_
  rintro e w1 ⟨rfl, hb⟩
  replace HB := Aside0.mk (below_step HB.out hb)
  clear hb
  go_wp2_with fail
  refine (KM'.out _).mono ?_
  rintro e w1 ⟨rfl, hb⟩
  replace HB := Aside0.mk (below_step HB.out hb)
  clear hb
  go_wp2_with fail
  refine (c_rect (-14) 40 30 20 _).mono ?_
  rintro e w1 ⟨rfl, hb⟩
  replace HB := Aside0.mk (below_step HB.out hb)
  clear hb
  go_wp2_with fail
  go_ret
  exact ⟨rfl, HB.out⟩
end Go.Proofs.Ytajpnmiblepmkaa.Fl
