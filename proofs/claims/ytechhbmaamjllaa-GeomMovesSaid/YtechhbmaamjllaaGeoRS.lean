/- The contracts of the reference's row and Inset. -/
import Derived.Test.YtechhbmaamjllaaGeoRI

namespace Go.Proofs.Ytechhbmaamjllaa.Geo
open Go.RowKit Go.Proofs.YtechhbmaamjllaaW.PrintMore Go.Proofs.YtechhbmaamjllaaW.PrintWords Go.Proofs.YtechhbmaamjllaaW.PrintLast
set_option linter.unusedVariables false
set_option linter.unusedSimpArgs false

def rowA (p n f : Int) : Int := min 32767 (p + spanP f 0 n)
def rowN (n f l : Int) : Int := n - spanP f 0 n - spanP l 0 (n - spanP f 0 n)
set_option maxHeartbeats 400000 in
theorem c_rRow (p n f l : Int) (h : sideB p n = true) (w : World) : Calls Try.prog 38 #[.int .i64 p, .int .i64 n, .int .i64 f, .int .i64 l] w fun e w' => e = .returned (.tuple #[.int .i64 (rowA p n f), .int .i64 (rowN n f l)]) ∧ Below w.heap.size w w' := by
  have g := sideB_true.1 h
  have h1 : 0 ≤ spanP f 0 n ∧ spanP f 0 n ≤ n := by unfold spanP; omega
  have h2 : 0 ≤ spanP l 0 (n - spanP f 0 n) ∧ spanP l 0 (n - spanP f 0 n) ≤ n - spanP f 0 n := by unfold spanP at *; omega
  obtain ⟨g1, g2, g3, g4⟩ := g
  obtain ⟨h1, h3⟩ := h1
  obtain ⟨h2, h4⟩ := h2
  unfold rowA rowN
  clear h
  obtain ⟨s, hs⟩ : ∃ s, s = spanP f 0 n := ⟨_, rfl⟩
  rw [← hs] at h1 h2 h3 h4 ⊢
  obtain ⟨t, ht⟩ : ∃ t, t = spanP l 0 (n - s) := ⟨_, rfl⟩
  rw [← ht] at h2 h4 ⊢
  have c1 := Aside0.mk (c_rSpan f 0 n)
  have c2 := Aside0.mk (c_rSpan l 0 (n - s))
  rw [← hs] at c1
  rw [← ht] at c2
  clear hs ht
  go_enter Try.func38, Try.ntmps38
  go_wp2_with fail
  refine (c1.out _).mono ?_
  rintro e w1 ⟨rfl, hb⟩
  have HB := Aside0.mk hb
  clear hb
  go_wp2_with fail
  refine (c2.out _).mono ?_
  rintro e w2 ⟨rfl, hb⟩
  replace HB := Aside0.mk (below_step HB.out hb)
  clear hb
  go_wp2_with fail
  refine (c_rLeast _ _ _).mono ?_
  rintro e w3 ⟨rfl, hb⟩
  replace HB := Aside0.mk (below_step HB.out hb)
  clear hb
  go_wp2_with fail
  go_ret2
  exact ⟨rfl, HB.out⟩

set_option maxHeartbeats 1000000 in
theorem c_rInset (a : Rc) (l t r b : Int) (W : World) : Calls Try.prog 12 #[.agg #[.int .i64 a.x, .int .i64 a.y, .int .i64 a.w, .int .i64 a.h], .int .i64 l, .int .i64 t, .int .i64 r, .int .i64 b] W (RetR (insetP a l t r b) W) := by
  have HB := Aside0.mk (below_alloc (below_alloc (Below.refl W.heap.size W) (.cells #[.int .i64 a.x, .int .i64 a.y, .int .i64 a.w, .int .i64 a.h] 23)) (.cells #[.int .i64 0, .int .i64 0, .int .i64 0, .int .i64 0] 23))
  by_cases h : rightB a = true
  · have h1 : sideB a.x a.w = true ∧ sideB a.y a.h = true := by simpa [rightB] using h
    obtain ⟨s1, s2⟩ := h1
    have e0 : insetP a l t r b = ⟨rowA a.x a.w l, rowA a.y a.h t, rowN a.w l r, rowN a.h t b⟩ := by unfold insetP rowA rowN; rw [if_pos h]
    rw [e0]
    have c1 := Aside0.mk (c_rRow a.x a.w l r s1)
    have c2 := Aside0.mk (c_rRow a.y a.h t b s2)
    clear e0 s1 s2
    go_enter Try.func12, Try.ntmps12
    go_wp2_with fail
    refine (c_rRight a _).mono ?_
    rintro e w1 ⟨rfl, hb⟩
    have HA := Aside0.mk hb
    obtain ⟨hc, hf⟩ := bcell hb
    clear hb
    go_wp2_with fail
    refine (c1.out _).mono ?_
    rintro e w2 ⟨rfl, hb⟩
    replace HA := Aside0.mk (below_step HA.out hb)
    clear hc hf hb
    obtain ⟨hc, hf⟩ := bcell HA.out
    go_wp2_with fail
    refine (c2.out _).mono ?_
    rintro e w3 ⟨rfl, hb⟩
    replace HA := Aside0.mk (below_step HA.out hb)
    clear hc hf hb
    obtain ⟨hc, hf⟩ := bcell HA.out
    replace HB := Aside0.mk (below_step HB.out HA.out)
    clear HA
    go_wp2
    exact bodyPost_ret (v := .agg #[.int .i64 (rowA a.x a.w l), .int .i64 (rowA a.y a.h t), .int .i64 (rowN a.w l r), .int .i64 (rowN a.h t b)]) (by simp [results, Try.results12, go_sem, hc, hf]) rfl ⟨rfl, by (repeat (refine below_set ?_ (Nat.le_succ _))); exact HB.out⟩
  · simp only [Bool.not_eq_true] at h
    rw [show insetP a l t r b = z4 by unfold insetP; rw [h]; rfl]
    go_enter Try.func12, Try.ntmps12
    go_wp2_with fail
    refine (c_rRight a _).mono ?_
    rintro e w1 ⟨rfl, hb⟩
    obtain ⟨hc, hf⟩ := bcell hb
    replace HB := Aside0.mk (below_step HB.out hb)
    clear hb
    go_wp2
    exact bodyPost_ret (v := .agg #[.int .i64 0, .int .i64 0, .int .i64 0, .int .i64 0]) (by simp [results, Try.results12, go_sem, hc, hf]) rfl ⟨rfl, by (repeat (refine below_set ?_ (Nat.le_succ _))); exact HB.out⟩
end Go.Proofs.Ytechhbmaamjllaa.Geo
