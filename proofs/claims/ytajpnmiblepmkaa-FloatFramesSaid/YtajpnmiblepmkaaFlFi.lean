/- Edges taken off a rectangle: the contracts of Inset, of geom (by its print) and of its reference. -/
import Derived.Test.YtajpnmiblepmkaaFlL
import Derived.Test.YtajpnmiblepmkaaPInsetx1
namespace Go.Proofs.Ytajpnmiblepmkaa.Geo
open Go.RowKit Go.Proofs.YtajpnmiblepmkaaW.PrintMore Go.Proofs.YtajpnmiblepmkaaW.PrintWords Go.Proofs.YtajpnmiblepmkaaW.PrintLast Go.Proofs.Ytajpnmiblepmkaa.Geo Go.Proofs.Ytajpnmiblepmkaa.Sz Go.Proofs.Ytajpnmiblepmkaa.Fl
set_option linter.unusedVariables false
set_option linter.unusedSimpArgs false
attribute [local go_sem] max2_int min2_int max_two min_two max_three min_three

theorem rightS_eq (a : Rc) : Go.Proofs.Ytajpnmiblepmkaa.PInset.geom_Right.f a.x a.y a.w a.h = some (rightB a) := right_eq a
theorem spanS_eq (v l m : Int) : Go.Proofs.Ytajpnmiblepmkaa.PInset.geom_Span.f v l m = some (spanP v l m) := span_eq v l m
theorem take_eq (p n f l : Int) (h : sideB p n = true) : Go.Proofs.Ytajpnmiblepmkaa.PInset.geom_take.f p n f l = some (p + spanP f 0 n, n - spanP f 0 n - spanP l 0 (n - spanP f 0 n)) := by
  have := sideB_true.1 h
  unfold Go.Proofs.Ytajpnmiblepmkaa.PInset.geom_take.f
  rw [spanS_eq]; simp only [Option.bind_some]
  have h1 : 0 ≤ spanP f 0 n ∧ spanP f 0 n ≤ n := by unfold spanP; omega
  rw [wrap64_i (n := n - spanP f 0 n) (by omega) (by omega), spanS_eq]; simp only [Option.bind_some]
  have h2 : 0 ≤ spanP l 0 (n - spanP f 0 n) ∧ spanP l 0 (n - spanP f 0 n) ≤ n - spanP f 0 n := by unfold spanP at *; omega
  rw [wrap64_i (by omega) (by omega), wrap64_i (by omega) (by omega)]
theorem inset_eq (a : Rc) (l t r b : Int) : Go.Proofs.Ytajpnmiblepmkaa.PInset.geom_Inset.f a.x a.y a.w a.h l t r b = some ((insetP a l t r b).x, (insetP a l t r b).y, (insetP a l t r b).w, (insetP a l t r b).h) := by
  unfold Go.Proofs.Ytajpnmiblepmkaa.PInset.geom_Inset.f insetP
  rw [rightS_eq]
  simp only [Option.bind_some]
  by_cases h : rightB a = true
  · simp only [if_pos h]
    have h1 : sideB a.x a.w = true ∧ sideB a.y a.h = true := by simpa [rightB] using h
    rw [take_eq _ _ _ _ h1.1, take_eq _ _ _ _ h1.2]
    simp only [Option.bind_some, mn_eq, Int.min_comm]
  · simp only [if_neg h]; rfl

theorem c_gInset (a : Rc) (l t r b : Int) (w : World) : Calls Try.prog 52 #[.agg #[.int .i64 a.x, .int .i64 a.y, .int .i64 a.w, .int .i64 a.h], .agg #[.int .i64 l, .int .i64 t, .int .i64 r, .int .i64 b]] w (RetR (insetP a l t r b) w) := Go.Proofs.Ytajpnmiblepmkaa.PInset.geom_Inset.calls a.x a.y a.w a.h l t r b _ _ _ _ w (inset_eq a l t r b)
theorem c_rSpanR (v l m : Int) (w : World) : Calls Try.prog 42 #[.int .i64 v, .int .i64 l, .int .i64 m] w (RetI (spanP v l m) w) := (c_rspan v l m w).mono fun e w' h => ⟨h.1, h.2 ▸ Below.refl _ _⟩
theorem c_rLeast1 (p q : Int) (w : World) : Calls Try.prog 70 #[.int .i64 p, .int .i64 q] w (RetI (min p q) w) := by
  unfold RetI
  by_cases c : p < q
  · rw [show min p q = p by omega]
    go_enter Try.func70, Try.ntmps70
    go_wp2
    go_ret
    exact ⟨rfl, Below.refl _ _⟩
  · rw [show min p q = q by omega]
    go_enter Try.func70, Try.ntmps70
    go_wp2
    go_ret
    exact ⟨rfl, Below.refl _ _⟩
def rowA (p n f : Int) : Int := min 32767 (p + spanP f 0 n)
def rowN (n f l : Int) : Int := n - spanP f 0 n - spanP l 0 (n - spanP f 0 n)
set_option maxHeartbeats 400000 in
theorem c_rRow (p n f l : Int) (h : sideB p n = true) (w : World) : Calls Try.prog 63 #[.int .i64 p, .int .i64 n, .int .i64 f, .int .i64 l] w fun e w' => e = .returned (.tuple #[.int .i64 (rowA p n f), .int .i64 (rowN n f l)]) ∧ Below w.heap.size w w' := by
  have g := sideB_true.1 h
  have h1 : 0 ≤ spanP f 0 n ∧ spanP f 0 n ≤ n := by unfold spanP; omega
  have h2 : 0 ≤ spanP l 0 (n - spanP f 0 n) ∧ spanP l 0 (n - spanP f 0 n) ≤ n - spanP f 0 n := by unfold spanP at *; omega
  obtain ⟨g1, g2, g3, g4⟩ := g
  obtain ⟨h1, h3⟩ := h1
  obtain ⟨h2, h4⟩ := h2
  unfold rowA rowN
  clear h
  obtain ⟨s, hs⟩ : ∃ s, s = spanP f 0 n := ⟨_, rfl⟩
  rw [← hs] at h1 h2 h3 h4 ⊢
  obtain ⟨t, ht⟩ : ∃ t, t = spanP l 0 (n - s) := ⟨_, rfl⟩
  rw [← ht] at h2 h4 ⊢
  have c1 := Aside0.mk (c_rSpanR f 0 n)
  have c2 := Aside0.mk (c_rSpanR l 0 (n - s))
  rw [← hs] at c1
  rw [← ht] at c2
  clear hs ht
  go_enter Try.func63, Try.ntmps63
  go_wp2_with fail
  refine (c1.out _).mono ?_
  rintro e w1 ⟨rfl, hb⟩
  have HB := Aside0.mk hb
  clear hb
  go_wp2_with fail
  refine (c2.out _).mono ?_
  rintro e w2 ⟨rfl, hb⟩
  replace HB := Aside0.mk (below_step HB.out hb)
  clear hb
  go_wp2_with fail
  refine (c_rLeast1 _ _ _).mono ?_
  rintro e w3 ⟨rfl, hb⟩
  replace HB := Aside0.mk (below_step HB.out hb)
  clear hb
  go_wp2_with fail
  go_ret2
  exact ⟨rfl, HB.out⟩

set_option maxHeartbeats 1000000 in
theorem c_rInset (a : Rc) (l t r b : Int) (W : World) : Calls Try.prog 53 #[.agg #[.int .i64 a.x, .int .i64 a.y, .int .i64 a.w, .int .i64 a.h], .int .i64 l, .int .i64 t, .int .i64 r, .int .i64 b] W (RetR (insetP a l t r b) W) := by
  have HB := Aside0.mk (below_alloc (below_alloc (Below.refl W.heap.size W) (.cells #[.int .i64 a.x, .int .i64 a.y, .int .i64 a.w, .int .i64 a.h] 23)) (.cells #[.int .i64 0, .int .i64 0, .int .i64 0, .int .i64 0] 23))
  by_cases h : rightB a = true
  · have h1 : sideB a.x a.w = true ∧ sideB a.y a.h = true := by simpa [rightB] using h
    obtain ⟨s1, s2⟩ := h1
    have e0 : insetP a l t r b = ⟨rowA a.x a.w l, rowA a.y a.h t, rowN a.w l r, rowN a.h t b⟩ := by unfold insetP rowA rowN; rw [if_pos h]
    rw [e0]
    have c1 := Aside0.mk (c_rRow a.x a.w l r s1)
    have c2 := Aside0.mk (c_rRow a.y a.h t b s2)
    clear e0 s1 s2
    go_enter Try.func53, Try.ntmps53
    go_wp2_with fail
    refine (c_rRight a _).mono ?_
    rintro e w1 ⟨rfl, hb⟩
    have HA := Aside0.mk hb
    obtain ⟨hc, hf⟩ := bcell hb
    clear hb
    go_wp2_with fail
    refine (c1.out _).mono ?_
    rintro e w2 ⟨rfl, hb⟩
    replace HA := Aside0.mk (below_step HA.out hb)
    clear hc hf hb
    obtain ⟨hc, hf⟩ := bcell HA.out
    go_wp2_with fail
    refine (c2.out _).mono ?_
    rintro e w3 ⟨rfl, hb⟩
    replace HA := Aside0.mk (below_step HA.out hb)
    clear hc hf hb
    obtain ⟨hc, hf⟩ := bcell HA.out
    replace HB := Aside0.mk (below_step HB.out HA.out)
    clear HA
    go_wp2
    exact bodyPost_ret (v := .agg #[.int .i64 (rowA a.x a.w l), .int .i64 (rowA a.y a.h t), .int .i64 (rowN a.w l r), .int .i64 (rowN a.h t b)]) (by simp [results, Try.results53, go_sem, hc, hf]) rfl ⟨rfl, by (repeat (refine below_set ?_ (Nat.le_succ _))); exact HB.out⟩
  · simp only [Bool.not_eq_true] at h
    rw [show insetP a l t r b = z4 by unfold insetP; rw [h]; rfl]
    go_enter Try.func53, Try.ntmps53
    go_wp2_with fail
    refine (c_rRight a _).mono ?_
    rintro e w1 ⟨rfl, hb⟩
    obtain ⟨hc, hf⟩ := bcell hb
    replace HB := Aside0.mk (below_step HB.out hb)
    clear hb
    go_wp2
    exact bodyPost_ret (v := .agg #[.int .i64 0, .int .i64 0, .int .i64 0, .int .i64 0]) (by simp [results, Try.results53, go_sem, hc, hf]) rfl ⟨rfl, by (repeat (refine below_set ?_ (Nat.le_succ _))); exact HB.out⟩
end Go.Proofs.Ytajpnmiblepmkaa.Geo
