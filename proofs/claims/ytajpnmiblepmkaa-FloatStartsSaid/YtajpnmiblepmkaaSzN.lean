/- Sizes by hints: the contracts of the reference's IsNormal and Normal. -/
import Derived.Test.YtajpnmiblepmkaaSzG
import Derived.Deep.RegionWith
import Derived.Test.YtajpnmiblepmkaaPFitx1
import Derived.Test.YtajpnmiblepmkaaPFitx2
namespace Go.Proofs.Ytajpnmiblepmkaa.Sz
open Go.RowKit Go.Proofs.YtajpnmiblepmkaaW.PrintMore Go.Proofs.YtajpnmiblepmkaaW.PrintWords Go.Proofs.YtajpnmiblepmkaaW.PrintLast Go.Proofs.Ytajpnmiblepmkaa.Geo
set_option linter.unusedVariables false
set_option linter.unusedSimpArgs false

theorem whole_f (n least : Int) : Go.Proofs.Ytajpnmiblepmkaa.PFit.casementref09_whole.f n least = some (decide (least ≤ n ∧ n ≤ 65535)) := by
  unfold Go.Proofs.Ytajpnmiblepmkaa.PFit.casementref09_whole.f
  by_cases c : n ≥ least
  · rw [if_pos c]; congr 1; apply decide_eq_decide.2; omega
  · rw [if_neg c]; congr 1; symm; apply decide_eq_false; omega
open Classical in
theorem isnormal_f (h : Hn) (k : Nat) (hk : 4 ≤ k) : Go.Proofs.Ytajpnmiblepmkaa.PFit.casementref09_IsNormal.f k h.minW h.minH h.maxW h.maxH h.baseW h.baseH h.incW h.incH h.lowX h.lowY h.highX h.highY = some (decide (Nrm h)) := by
  obtain ⟨k, rfl⟩ : ∃ m, k = m + 4 := ⟨k - 4, by omega⟩
  have j2 : ∀ (b : Bool), (b = true ↔ Asp0 h) → Nrm0 h → Go.Proofs.Ytajpnmiblepmkaa.PFit.casementref09_IsNormal.j2 (k + 2) b h.minW h.minH h.maxW h.maxH h.baseW h.baseH h.incW h.incH h.lowX h.lowY h.highX h.highY = some (decide (Nrm h)) := by
    intro b hb n0
    simp only [Go.Proofs.Ytajpnmiblepmkaa.PFit.casementref09_IsNormal.j2, whole_f, Option.bind_some, decide_eq_true_eq]
    by_cases c0 : b = true
    · rw [if_pos c0, decide_eq_true (show Nrm h from ⟨n0, Or.inl (hb.1 c0)⟩)]
    · rw [if_neg c0]
      have no : ¬ Asp0 h := fun q => c0 (hb.2 q)
      have fin : ∀ p : Prop, [Decidable p] → (p ↔ Asp1 h) → decide p = decide (Nrm h) := fun p _ hp => decide_eq_decide.2 (hp.trans ⟨fun q => ⟨n0, Or.inr q⟩, fun q => q.2.resolve_left no⟩)
      unfold Asp1 at fin
      by_cases c1 : 1 ≤ h.lowX ∧ h.lowX ≤ 65535
      · by_cases c2 : 1 ≤ h.lowY ∧ h.lowY ≤ 65535
        · by_cases c3 : 1 ≤ h.highX ∧ h.highX ≤ 65535
          · by_cases c4 : 1 ≤ h.highY ∧ h.highY ≤ 65535
            · have m1 := mul_bd (show 0 ≤ h.lowX by omega) c1.2 (b := h.highY) (by omega) (by omega)
              have m2 := mul_bd (show 0 ≤ h.highX by omega) c3.2 (b := h.lowY) (by omega) (by omega)
              rw [if_pos c1, if_pos c2, if_pos c3, if_pos c4, wrap64_i (by omega) (by omega), wrap64_i (by omega) (by omega)]
              congr 1
              exact fin _ ⟨fun q => ⟨c1, c2, c3, c4, q⟩, fun q => q.2.2.2.2⟩
            · rw [if_pos c1, if_pos c2, if_pos c3, if_neg c4]
              congr 1
              exact fin False ⟨fun q => q.elim, fun q => absurd q.2.2.2.1 c4⟩ ▸ by simp
          · rw [if_pos c1, if_pos c2, if_neg c3]
            congr 1
            exact fin False ⟨fun q => q.elim, fun q => absurd q.2.2.1 c3⟩ ▸ by simp
        · rw [if_pos c1, if_neg c2]
          congr 1
          exact fin False ⟨fun q => q.elim, fun q => absurd q.2.1 c2⟩ ▸ by simp
      · rw [if_neg c1]
        congr 1
        exact fin False ⟨fun q => q.elim, fun q => absurd q.1 c1⟩ ▸ by simp
  have no : ¬ Nrm0 h → some false = some (decide (Nrm h)) := fun q => by rw [decide_eq_false (fun p => q p.1)]
  have j1 : ∀ (b : Bool), (b = true → ¬ Nrm0 h) → (b = false → Nrm0 h) → Go.Proofs.Ytajpnmiblepmkaa.PFit.casementref09_IsNormal.j1 (k + 3) b h.minW h.minH h.maxW h.maxH h.baseW h.baseH h.incW h.incH h.lowX h.lowY h.highX h.highY = some (decide (Nrm h)) := by
    intro b hb hb'
    simp only [Go.Proofs.Ytajpnmiblepmkaa.PFit.casementref09_IsNormal.j1]
    cases b
    · rw [if_neg (by decide)]
      have n0 := hb' rfl
      by_cases c1 : h.lowX = 0
      · by_cases c2 : h.lowY = 0
        · by_cases c3 : h.highX = 0
          · rw [if_pos c1, if_pos c2, if_pos c3]
            exact j2 _ (by rw [beq_iff_eq]; exact ⟨fun q => ⟨c1, c2, c3, q⟩, fun q => q.2.2.2⟩) n0
          · rw [if_pos c1, if_pos c2, if_neg c3]
            exact j2 _ ⟨fun q => by simp at q, fun q => absurd q.2.2.1 c3⟩ n0
        · rw [if_pos c1, if_neg c2]
          exact j2 _ ⟨fun q => by simp at q, fun q => absurd q.2.1 c2⟩ n0
      · rw [if_neg c1]
        exact j2 _ ⟨fun q => by simp at q, fun q => absurd q.1 c1⟩ n0
    · rw [if_pos rfl]; exact no (hb rfl)
  have j0 : ∀ (b : Bool), (b = true → ¬ Nrm0 h) → (b = false → (1 ≤ h.minW ∧ h.minW ≤ 65535) ∧ (1 ≤ h.minH ∧ h.minH ≤ 65535) ∧ (1 ≤ h.incW ∧ h.incW ≤ 65535) ∧ (1 ≤ h.incH ∧ h.incH ≤ 65535) ∧ (0 ≤ h.baseW ∧ h.baseW ≤ 65535) ∧ (0 ≤ h.baseH ∧ h.baseH ≤ 65535)) → Go.Proofs.Ytajpnmiblepmkaa.PFit.casementref09_IsNormal.j0 (k + 4) b h.minW h.minH h.maxW h.maxH h.baseW h.baseH h.incW h.incH h.lowX h.lowY h.highX h.highY = some (decide (Nrm h)) := by
    intro b hb hb'
    simp only [Go.Proofs.Ytajpnmiblepmkaa.PFit.casementref09_IsNormal.j0, whole_f, Option.bind_some, decide_eq_true_eq]
    cases b
    · rw [if_neg (by decide)]
      obtain ⟨p1, p2, p3, p4, p5, p6⟩ := hb' rfl
      have yes : (h.maxW = 0 ∨ h.minW ≤ h.maxW ∧ h.maxW ≤ 65535) → (h.maxH = 0 ∨ h.minH ≤ h.maxH ∧ h.maxH ≤ 65535) → Nrm0 h := fun a b => ⟨p1, p2, p3, p4, p5, p6, a, b⟩
      by_cases c1 : h.maxW = 0
      · rw [if_pos c1]
        by_cases c2 : h.maxH = 0
        · rw [if_pos c2]
          exact j1 _ (by simp) (fun _ => yes (Or.inl c1) (Or.inl c2))
        · rw [if_neg c2]
          by_cases c3 : h.minH ≤ h.maxH ∧ h.maxH ≤ 65535
          · exact j1 _ (by simp [c3]) (fun _ => yes (Or.inl c1) (Or.inr c3))
          · exact j1 _ (fun _ q => by have := q.2.2.2.2.2.2.2; omega) (by simp only [decide_eq_false c3]; simp)
      · rw [if_neg c1]
        by_cases c3 : h.minW ≤ h.maxW ∧ h.maxW ≤ 65535
        · rw [if_pos c3]
          by_cases c2 : h.maxH = 0
          · rw [if_pos c2]
            exact j1 _ (by simp) (fun _ => yes (Or.inr c3) (Or.inl c2))
          · rw [if_neg c2]
            by_cases c4 : h.minH ≤ h.maxH ∧ h.maxH ≤ 65535
            · exact j1 _ (by simp [c4]) (fun _ => yes (Or.inr c3) (Or.inr c4))
            · exact j1 _ (fun _ q => by have := q.2.2.2.2.2.2.2; omega) (by simp only [decide_eq_false c4]; simp)
        · rw [if_neg c3]
          exact j1 _ (fun _ q => by have := q.2.2.2.2.2.2.1; omega) (by simp)
    · rw [if_pos rfl]; exact no (hb rfl)
  unfold Go.Proofs.Ytajpnmiblepmkaa.PFit.casementref09_IsNormal.f
  simp only [whole_f, Option.bind_some, decide_eq_true_eq]
  by_cases p1 : 1 ≤ h.minW ∧ h.minW ≤ 65535
  · rw [if_pos p1]
    by_cases p2 : 1 ≤ h.minH ∧ h.minH ≤ 65535
    · rw [if_pos p2]
      by_cases p3 : 1 ≤ h.incW ∧ h.incW ≤ 65535
      · rw [if_pos p3]
        by_cases p4 : 1 ≤ h.incH ∧ h.incH ≤ 65535
        · rw [if_pos p4]
          by_cases p5 : 0 ≤ h.baseW ∧ h.baseW ≤ 65535
          · rw [if_pos p5]
            by_cases p6 : 0 ≤ h.baseH ∧ h.baseH ≤ 65535
            · rw [decide_eq_true p6]
              exact j0 _ (by simp) (fun _ => ⟨p1, p2, p3, p4, p5, p6⟩)
            · rw [decide_eq_false p6]
              exact j0 _ (fun _ q => p6 q.2.2.2.2.2.1) (by simp)
          · rw [if_neg p5]
            exact j0 _ (fun _ q => p5 q.2.2.2.2.1) (by simp)
        · rw [if_neg p4]
          exact j0 _ (fun _ q => p4 q.2.2.2.1) (by simp)
      · rw [if_neg p3]
        exact j0 _ (fun _ q => p3 q.2.2.1) (by simp)
    · rw [if_neg p2]
      exact j0 _ (fun _ q => p2 q.2.1) (by simp)
  · rw [if_neg p1]
    exact j0 _ (fun _ q => p1 q.1) (by simp)

open Classical in
noncomputable def nrmB (h : Hn) : Bool := decide (Nrm h)
theorem nrmB_true {h : Hn} : nrmB h = true ↔ Nrm h := by unfold nrmB; simp
theorem nrmB_false {h : Hn} : nrmB h = false ↔ ¬ Nrm h := by unfold nrmB; simp
theorem c_isnormal (h : Hn) (w : World) : Calls Try.prog 43 #[.agg #[.int .i64 h.minW, .int .i64 h.minH, .int .i64 h.maxW, .int .i64 h.maxH, .int .i64 h.baseW, .int .i64 h.baseH, .int .i64 h.incW, .int .i64 h.incH, .int .i64 h.lowX, .int .i64 h.lowY, .int .i64 h.highX, .int .i64 h.highY]] w fun e w' => e = .returned (.bool (nrmB h)) ∧ Below w.heap.size w w' :=
  (Go.Proofs.Ytajpnmiblepmkaa.PFit.casementref09_IsNormal.calls 4 h.minW h.minH h.maxW h.maxH h.baseW h.baseH h.incW h.incH h.lowX h.lowY h.highX h.highY _ w (isnormal_f h 4 (Nat.le_refl _))).mono fun e w' h => ⟨h.1, by first | exact h.2 | (rw [← h.2]; exact Below.refl _ _) | (obtain ⟨n, rfl⟩ := h.2.out; exact pw_below_drewN (Below.refl _ _) n)⟩

theorem best_cases {h : Hn} (hn : Nrm0 h) {w t x y : Int} {ok : Bool} (e : best h w t = (x, y, ok)) : (0 < x ↔ ¬ Nil h) ∧ (ok = true ↔ ¬ Nil h) := by
  by_cases c : Nil h
  · rw [best_none c] at e
    injection e with e1 e2
    injection e2 with e2 e3
    subst e1 e2 e3
    exact ⟨⟨fun q => absurd q (by decide), fun q => absurd c q⟩, ⟨fun q => absurd q (by decide), fun q => absurd c q⟩⟩
  · obtain ⟨x', y', f, e'⟩ := best_some w t c
    have g := f.good hn
    rw [e'] at e
    injection e with e1 e2
    injection e2 with e2 e3
    subst e1 e2 e3
    have := g.1
    exact ⟨⟨fun _ => c, fun _ => by omega⟩, ⟨fun _ => c, fun _ => rfl⟩⟩
theorem put12 {w : World} {g : Nat} {t : TypeId} {c0 c1 c2 c3 c4 c5 c6 c7 c8 c9 c10 c11 : Value} (h : w.heap[g]? = some (.cells #[c0, c1, c2, c3, c4, c5, c6, c7, c8, c9, c10, c11] t (0, 0))) (v0 v1 v2 v3 v4 v5 v6 v7 v8 v9 v10 v11 : Value) :
    (((((((((((((w).setCell ⟨g, 0, none⟩ v0).setCell ⟨g, 1, none⟩ v1).setCell ⟨g, 2, none⟩ v2).setCell ⟨g, 3, none⟩ v3).setCell ⟨g, 4, none⟩ v4).setCell ⟨g, 5, none⟩ v5).setCell ⟨g, 6, none⟩ v6).setCell ⟨g, 7, none⟩ v7).setCell ⟨g, 8, none⟩ v8).setCell ⟨g, 9, none⟩ v9).setCell ⟨g, 10, none⟩ v10).setCell ⟨g, 11, none⟩ v11).heap[g]? = some (.cells #[v0, v1, v2, v3, v4, v5, v6, v7, v8, v9, v10, v11] t (0, 0)) := by
  have e := blk_set (blk_set (blk_set (blk_set (blk_set (blk_set (blk_set (blk_set (blk_set (blk_set (blk_set (blk_set (h) 0 v0) 1 v1) 2 v2) 3 v3) 4 v4) 5 v5) 6 v6) 7 v7) 8 v8) 9 v9) 10 v10) 11 v11
  simp only [List.setIfInBounds_toArray, List.set_cons_zero, List.set_cons_succ] at e
  exact e
theorem put12_far {w : World} {g g' : Nat} {t : TypeId} {cs : Array Value} (h : w.heap[g']? = some (.cells cs t (0, 0))) (hne : g' ≠ g) (v0 v1 v2 v3 v4 v5 v6 v7 v8 v9 v10 v11 : Value) : (((((((((((((w).setCell ⟨g, 0, none⟩ v0).setCell ⟨g, 1, none⟩ v1).setCell ⟨g, 2, none⟩ v2).setCell ⟨g, 3, none⟩ v3).setCell ⟨g, 4, none⟩ v4).setCell ⟨g, 5, none⟩ v5).setCell ⟨g, 6, none⟩ v6).setCell ⟨g, 7, none⟩ v7).setCell ⟨g, 8, none⟩ v8).setCell ⟨g, 9, none⟩ v9).setCell ⟨g, 10, none⟩ v10).setCell ⟨g, 11, none⟩ v11).heap[g']? = some (.cells cs t (0, 0)) :=
  blk_far (blk_far (blk_far (blk_far (blk_far (blk_far (blk_far (blk_far (blk_far (blk_far (blk_far (blk_far (h) (p := ⟨g, 0, none⟩) hne v0) (p := ⟨g, 1, none⟩) hne v1) (p := ⟨g, 2, none⟩) hne v2) (p := ⟨g, 3, none⟩) hne v3) (p := ⟨g, 4, none⟩) hne v4) (p := ⟨g, 5, none⟩) hne v5) (p := ⟨g, 6, none⟩) hne v6) (p := ⟨g, 7, none⟩) hne v7) (p := ⟨g, 8, none⟩) hne v8) (p := ⟨g, 9, none⟩) hne v9) (p := ⟨g, 10, none⟩) hne v10) (p := ⟨g, 11, none⟩) hne v11
theorem put12_below {W w : World} {g : Nat} (h : Below W.heap.size W w) (hg : W.heap.size ≤ g) (v0 v1 v2 v3 v4 v5 v6 v7 v8 v9 v10 v11 : Value) : Below W.heap.size W (((((((((((((w).setCell ⟨g, 0, none⟩ v0).setCell ⟨g, 1, none⟩ v1).setCell ⟨g, 2, none⟩ v2).setCell ⟨g, 3, none⟩ v3).setCell ⟨g, 4, none⟩ v4).setCell ⟨g, 5, none⟩ v5).setCell ⟨g, 6, none⟩ v6).setCell ⟨g, 7, none⟩ v7).setCell ⟨g, 8, none⟩ v8).setCell ⟨g, 9, none⟩ v9).setCell ⟨g, 10, none⟩ v10).setCell ⟨g, 11, none⟩ v11) := by
  (repeat (refine below_set ?_ hg)); exact h
theorem new_at {W : World} {o : Obj} {g : Nat} (hg : W.heap.size = g) : (W.alloc o).heap[g]? = some o := by subst hg; exact blk_new W o
set_option maxHeartbeats 16000000 in
set_option maxRecDepth 100000 in
theorem c_rnormal (h : Hn) (W : World) : Calls Try.prog 16 #[.agg #[.int .i64 h.minW, .int .i64 h.minH, .int .i64 h.maxW, .int .i64 h.maxH, .int .i64 h.baseW, .int .i64 h.baseH, .int .i64 h.incW, .int .i64 h.incH, .int .i64 h.lowX, .int .i64 h.lowY, .int .i64 h.highX, .int .i64 h.highY]] W fun e w' => e = .returned (.agg #[.int .i64 (normal h).minW, .int .i64 (normal h).minH, .int .i64 (normal h).maxW, .int .i64 (normal h).maxH, .int .i64 (normal h).baseW, .int .i64 (normal h).baseH, .int .i64 (normal h).incW, .int .i64 (normal h).incH, .int .i64 (normal h).lowX, .int .i64 (normal h).lowY, .int .i64 (normal h).highX, .int .i64 (normal h).highY]) ∧ Below W.heap.size W w' := by
  obtain ⟨S, hS⟩ : ∃ S, S = span0 h := ⟨_, rfl⟩
  obtain ⟨R, hR⟩ : ∃ r, r = normal h := ⟨_, rfl⟩
  have HR := Aside0.mk (show R = norm2 S by rw [hR, hS]; rfl)
  rw [← hR]
  clear hR
  have k0 := fun w => c_rspan h.minW 1 65535 w
  have k1 := fun w => c_rspan h.minH 1 65535 w
  have k6 := fun w => c_rspan h.incW 1 65535 w
  have k7 := fun w => c_rspan h.incH 1 65535 w
  have k4 := fun w => c_rspan h.baseW 0 65535 w
  have k5 := fun w => c_rspan h.baseH 0 65535 w
  rw [show spanI h.minW 1 65535 = S.minW by rw [hS]; rfl] at k0
  rw [show spanI h.minH 1 65535 = S.minH by rw [hS]; rfl] at k1
  rw [show spanI h.incW 1 65535 = S.incW by rw [hS]; rfl] at k6
  rw [show spanI h.incH 1 65535 = S.incH by rw [hS]; rfl] at k7
  rw [show spanI h.baseW 0 65535 = S.baseW by rw [hS]; rfl] at k4
  rw [show spanI h.baseH 0 65535 = S.baseH by rw [hS]; rfl] at k5
  replace k0 := Aside0.mk k0; replace k1 := Aside0.mk k1; replace k4 := Aside0.mk k4; replace k5 := Aside0.mk k5; replace k6 := Aside0.mk k6; replace k7 := Aside0.mk k7
  have HS := Aside0.mk hS
  clear hS
  go_enter Try.func16, Try.ntmps16
  go_wp2_with fail
  go_upto_region 1 with fail
  go_cut [] (fun wx => wx = ((W.alloc (.cells #[.int .i64 S.minW, .int .i64 S.minH, .int .i64 h.maxW, .int .i64 h.maxH, .int .i64 h.baseW, .int .i64 h.baseH, .int .i64 h.incW, .int .i64 h.incH, .int .i64 h.lowX, .int .i64 h.lowY, .int .i64 h.highX, .int .i64 h.highY] 25 (0, 0))).alloc (.cells #[.int .i64 0, .int .i64 0, .int .i64 0, .int .i64 0, .int .i64 0, .int .i64 0, .int .i64 0, .int .i64 0, .int .i64 0, .int .i64 0, .int .i64 0, .int .i64 0] 25 (0, 0))).drew)
  case first =>
    go_region_with (first | (go_at_call 42; (with_reducible refine (k0.out _).mono ?_); rintro e w1 ⟨rfl, rfl⟩) | (go_at_call 42; (with_reducible refine (k1.out _).mono ?_); rintro e w1 ⟨rfl, rfl⟩))
    all_goals (go_wp2_with fail; go_meet; exact rfl)
  case rest =>
    obtain rfl := hcut
    clear k0 k1
    go_upto_region 2 with fail
    go_cut [] (fun wx => wx = ((W.alloc (.cells #[.int .i64 S.minW, .int .i64 S.minH, .int .i64 h.maxW, .int .i64 h.maxH, .int .i64 h.baseW, .int .i64 h.baseH, .int .i64 S.incW, .int .i64 S.incH, .int .i64 h.lowX, .int .i64 h.lowY, .int .i64 h.highX, .int .i64 h.highY] 25 (0, 0))).alloc (.cells #[.int .i64 0, .int .i64 0, .int .i64 0, .int .i64 0, .int .i64 0, .int .i64 0, .int .i64 0, .int .i64 0, .int .i64 0, .int .i64 0, .int .i64 0, .int .i64 0] 25 (0, 0))).drew.drew)
    case first =>
      go_region_with (first | (go_at_call 42; (with_reducible refine (k6.out _).mono ?_); rintro e w1 ⟨rfl, rfl⟩) | (go_at_call 42; (with_reducible refine (k7.out _).mono ?_); rintro e w1 ⟨rfl, rfl⟩))
      all_goals (go_wp2_with fail; go_meet; exact rfl)
    case rest =>
      obtain rfl := hcut
      clear k6 k7
      go_upto_region 3 with fail
      go_cut [] (fun wx => wx = ((W.alloc (.cells #[.int .i64 S.minW, .int .i64 S.minH, .int .i64 h.maxW, .int .i64 h.maxH, .int .i64 S.baseW, .int .i64 S.baseH, .int .i64 S.incW, .int .i64 S.incH, .int .i64 h.lowX, .int .i64 h.lowY, .int .i64 h.highX, .int .i64 h.highY] 25 (0, 0))).alloc (.cells #[.int .i64 0, .int .i64 0, .int .i64 0, .int .i64 0, .int .i64 0, .int .i64 0, .int .i64 0, .int .i64 0, .int .i64 0, .int .i64 0, .int .i64 0, .int .i64 0] 25 (0, 0))).drew.drew.drew)
      case first =>
        go_region_with (first | (go_at_call 42; (with_reducible refine (k4.out _).mono ?_); rintro e w1 ⟨rfl, rfl⟩) | (go_at_call 42; (with_reducible refine (k5.out _).mono ?_); rintro e w1 ⟨rfl, rfl⟩))
        all_goals (go_wp2_with fail; go_meet; exact rfl)
      case rest =>
        obtain rfl := hcut
        clear k4 k5
        go_upto_if 34 with fail
        go_cut [] (fun wx => wx = ((W.alloc (.cells #[.int .i64 S.minW, .int .i64 S.minH, .int .i64 S.maxW, .int .i64 h.maxH, .int .i64 S.baseW, .int .i64 S.baseH, .int .i64 S.incW, .int .i64 S.incH, .int .i64 h.lowX, .int .i64 h.lowY, .int .i64 h.highX, .int .i64 h.highY] 25 (0, 0))).alloc (.cells #[.int .i64 0, .int .i64 0, .int .i64 0, .int .i64 0, .int .i64 0, .int .i64 0, .int .i64 0, .int .i64 0, .int .i64 0, .int .i64 0, .int .i64 0, .int .i64 0] 25 (0, 0))).drew.drew.drew)
        case first =>
          by_cases c : h.maxW ≤ 0
          · have E := Aside0.mk (show S.maxW = 0 by rw [HS.out]; show boundI h.maxW _ = 0; unfold boundI; rw [if_pos c])
            go_wp2_with fail
            go_meet
            exact by rw [E.out]
          · have k2 := fun w => c_rspan h.maxW S.minW 65535 w
            rw [show spanI h.maxW S.minW 65535 = S.maxW by rw [HS.out]; show spanI h.maxW (spanI h.minW 1 65535) 65535 = boundI h.maxW _; unfold boundI; rw [if_neg c]] at k2
            replace k2 := Aside0.mk k2
            go_wp2_with fail
            refine (k2.out _).mono ?_
            rintro e w1 ⟨rfl, rfl⟩
            go_wp2_with fail
            go_meet
            exact rfl
        case rest =>
          obtain rfl := hcut
          go_upto_if 44 with fail
          go_cut [] (fun wx => wx = ((W.alloc (.cells #[.int .i64 S.minW, .int .i64 S.minH, .int .i64 S.maxW, .int .i64 S.maxH, .int .i64 S.baseW, .int .i64 S.baseH, .int .i64 S.incW, .int .i64 S.incH, .int .i64 S.lowX, .int .i64 S.lowY, .int .i64 S.highX, .int .i64 S.highY] 25 (0, 0))).alloc (.cells #[.int .i64 0, .int .i64 0, .int .i64 0, .int .i64 0, .int .i64 0, .int .i64 0, .int .i64 0, .int .i64 0, .int .i64 0, .int .i64 0, .int .i64 0, .int .i64 0] 25 (0, 0))).drew.drew.drew)
          case first =>
            have L8 := Aside0.mk (show S.lowX = h.lowX by rw [HS.out]; rfl)
            have L9 := Aside0.mk (show S.lowY = h.lowY by rw [HS.out]; rfl)
            have L10 := Aside0.mk (show S.highX = h.highX by rw [HS.out]; rfl)
            have L11 := Aside0.mk (show S.highY = h.highY by rw [HS.out]; rfl)
            by_cases c : h.maxH ≤ 0
            · have E := Aside0.mk (show S.maxH = 0 by rw [HS.out]; show boundI h.maxH _ = 0; unfold boundI; rw [if_pos c])
              go_wp2_with fail
              go_meet
              exact by rw [E.out, L8.out, L9.out, L10.out, L11.out]
            · have k2 := fun w => c_rspan h.maxH S.minH 65535 w
              rw [show spanI h.maxH S.minH 65535 = S.maxH by rw [HS.out]; show spanI h.maxH (spanI h.minH 1 65535) 65535 = boundI h.maxH _; unfold boundI; rw [if_neg c]] at k2
              replace k2 := Aside0.mk k2
              go_wp2_with fail
              refine (k2.out _).mono ?_
              rintro e w1 ⟨rfl, rfl⟩
              go_wp2_with fail
              go_meet
              exact by rw [L8.out, L9.out, L10.out, L11.out]
          case rest =>
            obtain rfl := hcut
            go_wp2_with fail
            obtain ⟨nb, hnb⟩ : ∃ nb : Bool, nrmB S = nb := ⟨_, rfl⟩
            have KI := Aside0.mk (c_isnormal S)
            rw [hnb] at KI
            have NB := Aside0.mk hnb
            clear hnb
            refine (KI.out _).mono ?_
            rintro e w1 ⟨rfl, hb⟩
            have B1 := Aside0.mk (blk_below (g := W.heap.size) (o := .cells #[.int .i64 S.minW, .int .i64 S.minH, .int .i64 S.maxW, .int .i64 S.maxH, .int .i64 S.baseW, .int .i64 S.baseH, .int .i64 S.incW, .int .i64 S.incH, .int .i64 S.lowX, .int .i64 S.lowY, .int .i64 S.highX, .int .i64 S.highY] 25 (0, 0)) (by (repeat (first | exact new_at (by simp only [World.size_alloc, World.size_drew]; done) | refine blk_drew ?_ | refine blk_alloc ?_ _))) hb)
            have B2 := Aside0.mk (blk_below (g := W.heap.size + 1) (o := .cells #[.int .i64 0, .int .i64 0, .int .i64 0, .int .i64 0, .int .i64 0, .int .i64 0, .int .i64 0, .int .i64 0, .int .i64 0, .int .i64 0, .int .i64 0, .int .i64 0] 25 (0, 0)) (by (repeat (first | exact new_at (by simp only [World.size_alloc, World.size_drew]; done) | refine blk_drew ?_ | refine blk_alloc ?_ _))) hb)
            have B3 := Aside0.mk (blk_below (g := W.heap.size + 1 + 1) (o := .cells #[.int .i64 S.minW, .int .i64 S.minH, .int .i64 S.maxW, .int .i64 S.maxH, .int .i64 S.baseW, .int .i64 S.baseH, .int .i64 S.incW, .int .i64 S.incH, .int .i64 0, .int .i64 0, .int .i64 0, .int .i64 0] 25 (0, 0)) (by (repeat (first | exact new_at (by simp only [World.size_alloc, World.size_drew]; done) | refine blk_drew ?_ | refine blk_alloc ?_ _))) hb)
            have HB := Aside0.mk (below_step (w := W) (by (repeat (first | exact Below.refl _ _ | apply below_alloc | apply below_drew))) hb)
            clear hb KI
            have p0 : w1.cell? ⟨W.heap.size, 0, none⟩ = some (.int .i64 (S.minW)) := (blk_cell B1.out 0).trans rfl
            have fp0 := blk_frozen B1.out 0
            have p1 : w1.cell? ⟨W.heap.size, 1, none⟩ = some (.int .i64 (S.minH)) := (blk_cell B1.out 1).trans rfl
            have fp1 := blk_frozen B1.out 1
            have p2 : w1.cell? ⟨W.heap.size, 2, none⟩ = some (.int .i64 (S.maxW)) := (blk_cell B1.out 2).trans rfl
            have fp2 := blk_frozen B1.out 2
            have p3 : w1.cell? ⟨W.heap.size, 3, none⟩ = some (.int .i64 (S.maxH)) := (blk_cell B1.out 3).trans rfl
            have fp3 := blk_frozen B1.out 3
            have p4 : w1.cell? ⟨W.heap.size, 4, none⟩ = some (.int .i64 (S.baseW)) := (blk_cell B1.out 4).trans rfl
            have fp4 := blk_frozen B1.out 4
            have p5 : w1.cell? ⟨W.heap.size, 5, none⟩ = some (.int .i64 (S.baseH)) := (blk_cell B1.out 5).trans rfl
            have fp5 := blk_frozen B1.out 5
            have p6 : w1.cell? ⟨W.heap.size, 6, none⟩ = some (.int .i64 (S.incW)) := (blk_cell B1.out 6).trans rfl
            have fp6 := blk_frozen B1.out 6
            have p7 : w1.cell? ⟨W.heap.size, 7, none⟩ = some (.int .i64 (S.incH)) := (blk_cell B1.out 7).trans rfl
            have fp7 := blk_frozen B1.out 7
            have p8 : w1.cell? ⟨W.heap.size, 8, none⟩ = some (.int .i64 (S.lowX)) := (blk_cell B1.out 8).trans rfl
            have fp8 := blk_frozen B1.out 8
            have p9 : w1.cell? ⟨W.heap.size, 9, none⟩ = some (.int .i64 (S.lowY)) := (blk_cell B1.out 9).trans rfl
            have fp9 := blk_frozen B1.out 9
            have p10 : w1.cell? ⟨W.heap.size, 10, none⟩ = some (.int .i64 (S.highX)) := (blk_cell B1.out 10).trans rfl
            have fp10 := blk_frozen B1.out 10
            have p11 : w1.cell? ⟨W.heap.size, 11, none⟩ = some (.int .i64 (S.highY)) := (blk_cell B1.out 11).trans rfl
            have fp11 := blk_frozen B1.out 11
            have q0 : w1.cell? ⟨W.heap.size + 1 + 1, 0, none⟩ = some (.int .i64 (S.minW)) := (blk_cell B3.out 0).trans rfl
            have fq0 := blk_frozen B3.out 0
            have q1 : w1.cell? ⟨W.heap.size + 1 + 1, 1, none⟩ = some (.int .i64 (S.minH)) := (blk_cell B3.out 1).trans rfl
            have fq1 := blk_frozen B3.out 1
            have q2 : w1.cell? ⟨W.heap.size + 1 + 1, 2, none⟩ = some (.int .i64 (S.maxW)) := (blk_cell B3.out 2).trans rfl
            have fq2 := blk_frozen B3.out 2
            have q3 : w1.cell? ⟨W.heap.size + 1 + 1, 3, none⟩ = some (.int .i64 (S.maxH)) := (blk_cell B3.out 3).trans rfl
            have fq3 := blk_frozen B3.out 3
            have q4 : w1.cell? ⟨W.heap.size + 1 + 1, 4, none⟩ = some (.int .i64 (S.baseW)) := (blk_cell B3.out 4).trans rfl
            have fq4 := blk_frozen B3.out 4
            have q5 : w1.cell? ⟨W.heap.size + 1 + 1, 5, none⟩ = some (.int .i64 (S.baseH)) := (blk_cell B3.out 5).trans rfl
            have fq5 := blk_frozen B3.out 5
            have q6 : w1.cell? ⟨W.heap.size + 1 + 1, 6, none⟩ = some (.int .i64 (S.incW)) := (blk_cell B3.out 6).trans rfl
            have fq6 := blk_frozen B3.out 6
            have q7 : w1.cell? ⟨W.heap.size + 1 + 1, 7, none⟩ = some (.int .i64 (S.incH)) := (blk_cell B3.out 7).trans rfl
            have fq7 := blk_frozen B3.out 7
            have q8 : w1.cell? ⟨W.heap.size + 1 + 1, 8, none⟩ = some (.int .i64 (0)) := (blk_cell B3.out 8).trans rfl
            have fq8 := blk_frozen B3.out 8
            have q9 : w1.cell? ⟨W.heap.size + 1 + 1, 9, none⟩ = some (.int .i64 (0)) := (blk_cell B3.out 9).trans rfl
            have fq9 := blk_frozen B3.out 9
            have q10 : w1.cell? ⟨W.heap.size + 1 + 1, 10, none⟩ = some (.int .i64 (0)) := (blk_cell B3.out 10).trans rfl
            have fq10 := blk_frozen B3.out 10
            have q11 : w1.cell? ⟨W.heap.size + 1 + 1, 11, none⟩ = some (.int .i64 (0)) := (blk_cell B3.out 11).trans rfl
            have fq11 := blk_frozen B3.out 11
            obtain ⟨N1, hN1⟩ : ∃ n, n = norm1 S := ⟨_, rfl⟩
            have HN1 := Aside0.mk hN1
            clear hN1
            go_upto_if 59 with fail
            go_cut [] (fun wx => Aside0 (wx.heap[W.heap.size]? = some (.cells #[.int .i64 N1.minW, .int .i64 N1.minH, .int .i64 N1.maxW, .int .i64 N1.maxH, .int .i64 N1.baseW, .int .i64 N1.baseH, .int .i64 N1.incW, .int .i64 N1.incH, .int .i64 N1.lowX, .int .i64 N1.lowY, .int .i64 N1.highX, .int .i64 N1.highY] 25 (0, 0))) ∧ Aside0 (wx.heap[W.heap.size + 1]? = some (.cells #[.int .i64 0, .int .i64 0, .int .i64 0, .int .i64 0, .int .i64 0, .int .i64 0, .int .i64 0, .int .i64 0, .int .i64 0, .int .i64 0, .int .i64 0, .int .i64 0] 25 (0, 0))) ∧ Aside0 (wx.heap[W.heap.size + 1 + 1]? = some (.cells #[.int .i64 S.minW, .int .i64 S.minH, .int .i64 S.maxW, .int .i64 S.maxH, .int .i64 S.baseW, .int .i64 S.baseH, .int .i64 S.incW, .int .i64 S.incH, .int .i64 0, .int .i64 0, .int .i64 0, .int .i64 0] 25 (0, 0))) ∧ Aside0 (Below W.heap.size W wx))
            case first =>
              cases nb
              · go_wp2_with fail
                go_meet
                have E : N1 = free0 S := by
                  rw [HN1.out]
                  have c := nrmB_false.1 NB.out
                  unfold norm1
                  rw [if_neg (fun q => c ⟨HS.out ▸ span0_nrm h, Or.inr q⟩)]
                rw [E]
                exact ⟨⟨put12 B1.out (.int .i64 S.minW) (.int .i64 S.minH) (.int .i64 S.maxW) (.int .i64 S.maxH) (.int .i64 S.baseW) (.int .i64 S.baseH) (.int .i64 S.incW) (.int .i64 S.incH) (.int .i64 0) (.int .i64 0) (.int .i64 0) (.int .i64 0)⟩, ⟨put12_far B2.out (by omega) (.int .i64 S.minW) (.int .i64 S.minH) (.int .i64 S.maxW) (.int .i64 S.maxH) (.int .i64 S.baseW) (.int .i64 S.baseH) (.int .i64 S.incW) (.int .i64 S.incH) (.int .i64 0) (.int .i64 0) (.int .i64 0) (.int .i64 0)⟩, ⟨put12_far B3.out (by omega) (.int .i64 S.minW) (.int .i64 S.minH) (.int .i64 S.maxW) (.int .i64 S.maxH) (.int .i64 S.baseW) (.int .i64 S.baseH) (.int .i64 S.incW) (.int .i64 S.incH) (.int .i64 0) (.int .i64 0) (.int .i64 0) (.int .i64 0)⟩, ⟨put12_below HB.out (Nat.le_refl _) (.int .i64 S.minW) (.int .i64 S.minH) (.int .i64 S.maxW) (.int .i64 S.maxH) (.int .i64 S.baseW) (.int .i64 S.baseH) (.int .i64 S.incW) (.int .i64 S.incH) (.int .i64 0) (.int .i64 0) (.int .i64 0) (.int .i64 0)⟩⟩
              · go_wp2_with fail
                go_meet
                have E : N1 = S := by rw [HN1.out]; exact norm1_of (nrmB_true.1 NB.out)
                rw [E]
                exact ⟨B1, B2, B3, HB⟩
            case rest =>
              clear p0 fp0 p1 fp1 p2 fp2 p3 fp3 p4 fp4 p5 fp5 p6 fp6 p7 fp7 p8 fp8 p9 fp9 p10 fp10 p11 fp11
              clear q0 fq0 q1 fq1 q2 fq2 q3 fq3 q4 fq4 q5 fq5 q6 fq6 q7 fq7 q8 fq8 q9 fq9 q10 fq10 q11 fq11
              clear B1 B2 B3 HB NB
              obtain ⟨B1, B2, B3, HB⟩ := hcut
              have S0 := Aside0.mk (show Nrm0 S by rw [HS.out]; exact span0_nrm h)
              have NN := Aside0.mk (show Nrm N1 by rw [HN1.out]; exact norm1_nrm S0.out)
              obtain ⟨⟨x1, y1, ok1⟩, e1⟩ : ∃ r, best N1 65535 65535 = r := ⟨_, rfl⟩
              have K1 := Aside0.mk (c_rfind NN.out (by decide) (by decide) (by decide) (by decide) e1)
              have X1 := (best_cases NN.out.1 e1).1
              rw [HN1.out] at X1
              clear e1
              have p0 : wc.cell? ⟨W.heap.size, 0, none⟩ = some (.int .i64 (N1.minW)) := (blk_cell B1.out 0).trans rfl
              have fp0 := blk_frozen B1.out 0
              have p1 : wc.cell? ⟨W.heap.size, 1, none⟩ = some (.int .i64 (N1.minH)) := (blk_cell B1.out 1).trans rfl
              have fp1 := blk_frozen B1.out 1
              have p2 : wc.cell? ⟨W.heap.size, 2, none⟩ = some (.int .i64 (N1.maxW)) := (blk_cell B1.out 2).trans rfl
              have fp2 := blk_frozen B1.out 2
              have p3 : wc.cell? ⟨W.heap.size, 3, none⟩ = some (.int .i64 (N1.maxH)) := (blk_cell B1.out 3).trans rfl
              have fp3 := blk_frozen B1.out 3
              have p4 : wc.cell? ⟨W.heap.size, 4, none⟩ = some (.int .i64 (N1.baseW)) := (blk_cell B1.out 4).trans rfl
              have fp4 := blk_frozen B1.out 4
              have p5 : wc.cell? ⟨W.heap.size, 5, none⟩ = some (.int .i64 (N1.baseH)) := (blk_cell B1.out 5).trans rfl
              have fp5 := blk_frozen B1.out 5
              have p6 : wc.cell? ⟨W.heap.size, 6, none⟩ = some (.int .i64 (N1.incW)) := (blk_cell B1.out 6).trans rfl
              have fp6 := blk_frozen B1.out 6
              have p7 : wc.cell? ⟨W.heap.size, 7, none⟩ = some (.int .i64 (N1.incH)) := (blk_cell B1.out 7).trans rfl
              have fp7 := blk_frozen B1.out 7
              have p8 : wc.cell? ⟨W.heap.size, 8, none⟩ = some (.int .i64 (N1.lowX)) := (blk_cell B1.out 8).trans rfl
              have fp8 := blk_frozen B1.out 8
              have p9 : wc.cell? ⟨W.heap.size, 9, none⟩ = some (.int .i64 (N1.lowY)) := (blk_cell B1.out 9).trans rfl
              have fp9 := blk_frozen B1.out 9
              have p10 : wc.cell? ⟨W.heap.size, 10, none⟩ = some (.int .i64 (N1.highX)) := (blk_cell B1.out 10).trans rfl
              have fp10 := blk_frozen B1.out 10
              have p11 : wc.cell? ⟨W.heap.size, 11, none⟩ = some (.int .i64 (N1.highY)) := (blk_cell B1.out 11).trans rfl
              have fp11 := blk_frozen B1.out 11
              by_cases c1 : 0 < x1
              · have ER : R = N1 := by
                  rw [HR.out, HN1.out]; unfold norm2; rw [if_pos (X1.1 c1)]
                have ERS := Aside0.mk ER
                clear ER X1
                go_wp2_with fail
                refine (K1.out _).mono ?_
                rintro e w2 ⟨rfl, hb⟩
                clear p0 fp0 p1 fp1 p2 fp2 p3 fp3 p4 fp4 p5 fp5 p6 fp6 p7 fp7 p8 fp8 p9 fp9 p10 fp10 p11 fp11
                replace B1 := Aside0.mk (blk_below B1.out hb)
                replace B2 := Aside0.mk (blk_below B2.out hb)
                replace HB := Aside0.mk (below_step HB.out hb)
                clear hb K1
                have p0 : w2.cell? ⟨W.heap.size, 0, none⟩ = some (.int .i64 (N1.minW)) := (blk_cell B1.out 0).trans rfl
                have fp0 := blk_frozen B1.out 0
                have p1 : w2.cell? ⟨W.heap.size, 1, none⟩ = some (.int .i64 (N1.minH)) := (blk_cell B1.out 1).trans rfl
                have fp1 := blk_frozen B1.out 1
                have p2 : w2.cell? ⟨W.heap.size, 2, none⟩ = some (.int .i64 (N1.maxW)) := (blk_cell B1.out 2).trans rfl
                have fp2 := blk_frozen B1.out 2
                have p3 : w2.cell? ⟨W.heap.size, 3, none⟩ = some (.int .i64 (N1.maxH)) := (blk_cell B1.out 3).trans rfl
                have fp3 := blk_frozen B1.out 3
                have p4 : w2.cell? ⟨W.heap.size, 4, none⟩ = some (.int .i64 (N1.baseW)) := (blk_cell B1.out 4).trans rfl
                have fp4 := blk_frozen B1.out 4
                have p5 : w2.cell? ⟨W.heap.size, 5, none⟩ = some (.int .i64 (N1.baseH)) := (blk_cell B1.out 5).trans rfl
                have fp5 := blk_frozen B1.out 5
                have p6 : w2.cell? ⟨W.heap.size, 6, none⟩ = some (.int .i64 (N1.incW)) := (blk_cell B1.out 6).trans rfl
                have fp6 := blk_frozen B1.out 6
                have p7 : w2.cell? ⟨W.heap.size, 7, none⟩ = some (.int .i64 (N1.incH)) := (blk_cell B1.out 7).trans rfl
                have fp7 := blk_frozen B1.out 7
                have p8 : w2.cell? ⟨W.heap.size, 8, none⟩ = some (.int .i64 (N1.lowX)) := (blk_cell B1.out 8).trans rfl
                have fp8 := blk_frozen B1.out 8
                have p9 : w2.cell? ⟨W.heap.size, 9, none⟩ = some (.int .i64 (N1.lowY)) := (blk_cell B1.out 9).trans rfl
                have fp9 := blk_frozen B1.out 9
                have p10 : w2.cell? ⟨W.heap.size, 10, none⟩ = some (.int .i64 (N1.highX)) := (blk_cell B1.out 10).trans rfl
                have fp10 := blk_frozen B1.out 10
                have p11 : w2.cell? ⟨W.heap.size, 11, none⟩ = some (.int .i64 (N1.highY)) := (blk_cell B1.out 11).trans rfl
                have fp11 := blk_frozen B1.out 11
                have q0 : w2.cell? ⟨W.heap.size + 1, 0, none⟩ = some (.int .i64 (0)) := (blk_cell B2.out 0).trans rfl
                have fq0 := blk_frozen B2.out 0
                have q1 : w2.cell? ⟨W.heap.size + 1, 1, none⟩ = some (.int .i64 (0)) := (blk_cell B2.out 1).trans rfl
                have fq1 := blk_frozen B2.out 1
                have q2 : w2.cell? ⟨W.heap.size + 1, 2, none⟩ = some (.int .i64 (0)) := (blk_cell B2.out 2).trans rfl
                have fq2 := blk_frozen B2.out 2
                have q3 : w2.cell? ⟨W.heap.size + 1, 3, none⟩ = some (.int .i64 (0)) := (blk_cell B2.out 3).trans rfl
                have fq3 := blk_frozen B2.out 3
                have q4 : w2.cell? ⟨W.heap.size + 1, 4, none⟩ = some (.int .i64 (0)) := (blk_cell B2.out 4).trans rfl
                have fq4 := blk_frozen B2.out 4
                have q5 : w2.cell? ⟨W.heap.size + 1, 5, none⟩ = some (.int .i64 (0)) := (blk_cell B2.out 5).trans rfl
                have fq5 := blk_frozen B2.out 5
                have q6 : w2.cell? ⟨W.heap.size + 1, 6, none⟩ = some (.int .i64 (0)) := (blk_cell B2.out 6).trans rfl
                have fq6 := blk_frozen B2.out 6
                have q7 : w2.cell? ⟨W.heap.size + 1, 7, none⟩ = some (.int .i64 (0)) := (blk_cell B2.out 7).trans rfl
                have fq7 := blk_frozen B2.out 7
                have q8 : w2.cell? ⟨W.heap.size + 1, 8, none⟩ = some (.int .i64 (0)) := (blk_cell B2.out 8).trans rfl
                have fq8 := blk_frozen B2.out 8
                have q9 : w2.cell? ⟨W.heap.size + 1, 9, none⟩ = some (.int .i64 (0)) := (blk_cell B2.out 9).trans rfl
                have fq9 := blk_frozen B2.out 9
                have q10 : w2.cell? ⟨W.heap.size + 1, 10, none⟩ = some (.int .i64 (0)) := (blk_cell B2.out 10).trans rfl
                have fq10 := blk_frozen B2.out 10
                have q11 : w2.cell? ⟨W.heap.size + 1, 11, none⟩ = some (.int .i64 (0)) := (blk_cell B2.out 11).trans rfl
                have fq11 := blk_frozen B2.out 11
                go_wp2_with fail
                exact bodyPost_ret (v := .agg #[.int .i64 N1.minW, .int .i64 N1.minH, .int .i64 N1.maxW, .int .i64 N1.maxH, .int .i64 N1.baseW, .int .i64 N1.baseH, .int .i64 N1.incW, .int .i64 N1.incH, .int .i64 N1.lowX, .int .i64 N1.lowY, .int .i64 N1.highX, .int .i64 N1.highY]) (by simp [results, Try.results16, go_sem, q0, fq0, q1, fq1, q2, fq2, q3, fq3, q4, fq4, q5, fq5, q6, fq6, q7, fq7, q8, fq8, q9, fq9, q10, fq10, q11, fq11]) rfl ⟨by rw [ERS.out], put12_below HB.out (by omega) (.int .i64 N1.minW) (.int .i64 N1.minH) (.int .i64 N1.maxW) (.int .i64 N1.maxH) (.int .i64 N1.baseW) (.int .i64 N1.baseH) (.int .i64 N1.incW) (.int .i64 N1.incH) (.int .i64 N1.lowX) (.int .i64 N1.lowY) (.int .i64 N1.highX) (.int .i64 N1.highY)⟩
              · have hnil : Nil (norm1 S) := Classical.byContradiction fun q => c1 (X1.2 q)
                have HNIL := Aside0.mk hnil
                clear hnil X1
                obtain ⟨⟨x2, y2, ok2⟩, e2⟩ : ∃ r, best (free0 S) 65535 65535 = r := ⟨_, rfl⟩
                have X2 := (best_cases (free0_nrm S0.out).1 e2).1
                have k2 : ∀ W, Calls Try.prog 44 #[.agg #[.int .i64 S.minW, .int .i64 S.minH, .int .i64 S.maxW, .int .i64 S.maxH, .int .i64 S.baseW, .int .i64 S.baseH, .int .i64 S.incW, .int .i64 S.incH, .int .i64 0, .int .i64 0, .int .i64 0, .int .i64 0], .int .i64 65535, .int .i64 65535] W fun e w' => e = .returned (.tuple #[.int .i64 x2, .int .i64 y2]) ∧ Below W.heap.size W w' := fun W => c_rfind (free0_nrm S0.out) (by decide) (by decide) (by decide) (by decide) e2 W
                have K2 := Aside0.mk k2
                clear e2 k2
                go_wp2_with fail
                refine (K1.out _).mono ?_
                rintro e w2 ⟨rfl, hb⟩
                clear p0 fp0 p1 fp1 p2 fp2 p3 fp3 p4 fp4 p5 fp5 p6 fp6 p7 fp7 p8 fp8 p9 fp9 p10 fp10 p11 fp11
                replace B2 := Aside0.mk (blk_below B2.out hb)
                replace B3 := Aside0.mk (blk_below B3.out hb)
                replace HB := Aside0.mk (below_step HB.out hb)
                clear hb K1
                have r0 : w2.cell? ⟨W.heap.size + 1 + 1, 0, none⟩ = some (.int .i64 (S.minW)) := (blk_cell B3.out 0).trans rfl
                have fr0 := blk_frozen B3.out 0
                have r1 : w2.cell? ⟨W.heap.size + 1 + 1, 1, none⟩ = some (.int .i64 (S.minH)) := (blk_cell B3.out 1).trans rfl
                have fr1 := blk_frozen B3.out 1
                have r2 : w2.cell? ⟨W.heap.size + 1 + 1, 2, none⟩ = some (.int .i64 (S.maxW)) := (blk_cell B3.out 2).trans rfl
                have fr2 := blk_frozen B3.out 2
                have r3 : w2.cell? ⟨W.heap.size + 1 + 1, 3, none⟩ = some (.int .i64 (S.maxH)) := (blk_cell B3.out 3).trans rfl
                have fr3 := blk_frozen B3.out 3
                have r4 : w2.cell? ⟨W.heap.size + 1 + 1, 4, none⟩ = some (.int .i64 (S.baseW)) := (blk_cell B3.out 4).trans rfl
                have fr4 := blk_frozen B3.out 4
                have r5 : w2.cell? ⟨W.heap.size + 1 + 1, 5, none⟩ = some (.int .i64 (S.baseH)) := (blk_cell B3.out 5).trans rfl
                have fr5 := blk_frozen B3.out 5
                have r6 : w2.cell? ⟨W.heap.size + 1 + 1, 6, none⟩ = some (.int .i64 (S.incW)) := (blk_cell B3.out 6).trans rfl
                have fr6 := blk_frozen B3.out 6
                have r7 : w2.cell? ⟨W.heap.size + 1 + 1, 7, none⟩ = some (.int .i64 (S.incH)) := (blk_cell B3.out 7).trans rfl
                have fr7 := blk_frozen B3.out 7
                have r8 : w2.cell? ⟨W.heap.size + 1 + 1, 8, none⟩ = some (.int .i64 (0)) := (blk_cell B3.out 8).trans rfl
                have fr8 := blk_frozen B3.out 8
                have r9 : w2.cell? ⟨W.heap.size + 1 + 1, 9, none⟩ = some (.int .i64 (0)) := (blk_cell B3.out 9).trans rfl
                have fr9 := blk_frozen B3.out 9
                have r10 : w2.cell? ⟨W.heap.size + 1 + 1, 10, none⟩ = some (.int .i64 (0)) := (blk_cell B3.out 10).trans rfl
                have fr10 := blk_frozen B3.out 10
                have r11 : w2.cell? ⟨W.heap.size + 1 + 1, 11, none⟩ = some (.int .i64 (0)) := (blk_cell B3.out 11).trans rfl
                have fr11 := blk_frozen B3.out 11
                by_cases c2 : 0 < x2
                · have ERS := Aside0.mk (show R = free0 S by rw [HR.out]; unfold norm2; rw [if_neg (fun q => q HNIL.out), if_pos (X2.1 c2)])
                  clear X2
                  go_wp2_with fail
                  refine (K2.out _).mono ?_
                  rintro e w3 ⟨rfl, hb⟩
                  clear r0 fr0 r1 fr1 r2 fr2 r3 fr3 r4 fr4 r5 fr5 r6 fr6 r7 fr7 r8 fr8 r9 fr9 r10 fr10 r11 fr11
                  replace B2 := Aside0.mk (blk_below B2.out hb)
                  replace B3 := Aside0.mk (blk_below B3.out hb)
                  replace HB := Aside0.mk (below_step HB.out hb)
                  clear hb K2
                  have r0 : w3.cell? ⟨W.heap.size + 1 + 1, 0, none⟩ = some (.int .i64 (S.minW)) := (blk_cell B3.out 0).trans rfl
                  have fr0 := blk_frozen B3.out 0
                  have r1 : w3.cell? ⟨W.heap.size + 1 + 1, 1, none⟩ = some (.int .i64 (S.minH)) := (blk_cell B3.out 1).trans rfl
                  have fr1 := blk_frozen B3.out 1
                  have r2 : w3.cell? ⟨W.heap.size + 1 + 1, 2, none⟩ = some (.int .i64 (S.maxW)) := (blk_cell B3.out 2).trans rfl
                  have fr2 := blk_frozen B3.out 2
                  have r3 : w3.cell? ⟨W.heap.size + 1 + 1, 3, none⟩ = some (.int .i64 (S.maxH)) := (blk_cell B3.out 3).trans rfl
                  have fr3 := blk_frozen B3.out 3
                  have r4 : w3.cell? ⟨W.heap.size + 1 + 1, 4, none⟩ = some (.int .i64 (S.baseW)) := (blk_cell B3.out 4).trans rfl
                  have fr4 := blk_frozen B3.out 4
                  have r5 : w3.cell? ⟨W.heap.size + 1 + 1, 5, none⟩ = some (.int .i64 (S.baseH)) := (blk_cell B3.out 5).trans rfl
                  have fr5 := blk_frozen B3.out 5
                  have r6 : w3.cell? ⟨W.heap.size + 1 + 1, 6, none⟩ = some (.int .i64 (S.incW)) := (blk_cell B3.out 6).trans rfl
                  have fr6 := blk_frozen B3.out 6
                  have r7 : w3.cell? ⟨W.heap.size + 1 + 1, 7, none⟩ = some (.int .i64 (S.incH)) := (blk_cell B3.out 7).trans rfl
                  have fr7 := blk_frozen B3.out 7
                  have r8 : w3.cell? ⟨W.heap.size + 1 + 1, 8, none⟩ = some (.int .i64 (0)) := (blk_cell B3.out 8).trans rfl
                  have fr8 := blk_frozen B3.out 8
                  have r9 : w3.cell? ⟨W.heap.size + 1 + 1, 9, none⟩ = some (.int .i64 (0)) := (blk_cell B3.out 9).trans rfl
                  have fr9 := blk_frozen B3.out 9
                  have r10 : w3.cell? ⟨W.heap.size + 1 + 1, 10, none⟩ = some (.int .i64 (0)) := (blk_cell B3.out 10).trans rfl
                  have fr10 := blk_frozen B3.out 10
                  have r11 : w3.cell? ⟨W.heap.size + 1 + 1, 11, none⟩ = some (.int .i64 (0)) := (blk_cell B3.out 11).trans rfl
                  have fr11 := blk_frozen B3.out 11
                  have q0 : w3.cell? ⟨W.heap.size + 1, 0, none⟩ = some (.int .i64 (0)) := (blk_cell B2.out 0).trans rfl
                  have fq0 := blk_frozen B2.out 0
                  have q1 : w3.cell? ⟨W.heap.size + 1, 1, none⟩ = some (.int .i64 (0)) := (blk_cell B2.out 1).trans rfl
                  have fq1 := blk_frozen B2.out 1
                  have q2 : w3.cell? ⟨W.heap.size + 1, 2, none⟩ = some (.int .i64 (0)) := (blk_cell B2.out 2).trans rfl
                  have fq2 := blk_frozen B2.out 2
                  have q3 : w3.cell? ⟨W.heap.size + 1, 3, none⟩ = some (.int .i64 (0)) := (blk_cell B2.out 3).trans rfl
                  have fq3 := blk_frozen B2.out 3
                  have q4 : w3.cell? ⟨W.heap.size + 1, 4, none⟩ = some (.int .i64 (0)) := (blk_cell B2.out 4).trans rfl
                  have fq4 := blk_frozen B2.out 4
                  have q5 : w3.cell? ⟨W.heap.size + 1, 5, none⟩ = some (.int .i64 (0)) := (blk_cell B2.out 5).trans rfl
                  have fq5 := blk_frozen B2.out 5
                  have q6 : w3.cell? ⟨W.heap.size + 1, 6, none⟩ = some (.int .i64 (0)) := (blk_cell B2.out 6).trans rfl
                  have fq6 := blk_frozen B2.out 6
                  have q7 : w3.cell? ⟨W.heap.size + 1, 7, none⟩ = some (.int .i64 (0)) := (blk_cell B2.out 7).trans rfl
                  have fq7 := blk_frozen B2.out 7
                  have q8 : w3.cell? ⟨W.heap.size + 1, 8, none⟩ = some (.int .i64 (0)) := (blk_cell B2.out 8).trans rfl
                  have fq8 := blk_frozen B2.out 8
                  have q9 : w3.cell? ⟨W.heap.size + 1, 9, none⟩ = some (.int .i64 (0)) := (blk_cell B2.out 9).trans rfl
                  have fq9 := blk_frozen B2.out 9
                  have q10 : w3.cell? ⟨W.heap.size + 1, 10, none⟩ = some (.int .i64 (0)) := (blk_cell B2.out 10).trans rfl
                  have fq10 := blk_frozen B2.out 10
                  have q11 : w3.cell? ⟨W.heap.size + 1, 11, none⟩ = some (.int .i64 (0)) := (blk_cell B2.out 11).trans rfl
                  have fq11 := blk_frozen B2.out 11
                  go_wp2_with fail
                  exact bodyPost_ret (v := .agg #[.int .i64 S.minW, .int .i64 S.minH, .int .i64 S.maxW, .int .i64 S.maxH, .int .i64 S.baseW, .int .i64 S.baseH, .int .i64 S.incW, .int .i64 S.incH, .int .i64 0, .int .i64 0, .int .i64 0, .int .i64 0]) (by simp [results, Try.results16, go_sem, q0, fq0, q1, fq1, q2, fq2, q3, fq3, q4, fq4, q5, fq5, q6, fq6, q7, fq7, q8, fq8, q9, fq9, q10, fq10, q11, fq11]) rfl ⟨by rw [ERS.out]; rfl, put12_below HB.out (by omega) (.int .i64 S.minW) (.int .i64 S.minH) (.int .i64 S.maxW) (.int .i64 S.maxH) (.int .i64 S.baseW) (.int .i64 S.baseH) (.int .i64 S.incW) (.int .i64 S.incH) (.int .i64 0) (.int .i64 0) (.int .i64 0) (.int .i64 0)⟩
                · have hnil2 : Nil (free0 S) := Classical.byContradiction fun q => c2 (X2.2 q)
                  have ERS := Aside0.mk (show R = free1 S by rw [HR.out]; unfold norm2; rw [if_neg (fun q => q HNIL.out), if_neg (fun q => q hnil2)])
                  clear X2 hnil2
                  go_wp2_with fail
                  refine (K2.out _).mono ?_
                  rintro e w3 ⟨rfl, hb⟩
                  clear r0 fr0 r1 fr1 r2 fr2 r3 fr3 r4 fr4 r5 fr5 r6 fr6 r7 fr7 r8 fr8 r9 fr9 r10 fr10 r11 fr11
                  replace B2 := Aside0.mk (blk_below B2.out hb)
                  replace B3 := Aside0.mk (blk_below B3.out hb)
                  replace HB := Aside0.mk (below_step HB.out hb)
                  clear hb K2
                  have r0 : w3.cell? ⟨W.heap.size + 1 + 1, 0, none⟩ = some (.int .i64 (S.minW)) := (blk_cell B3.out 0).trans rfl
                  have fr0 := blk_frozen B3.out 0
                  have r1 : w3.cell? ⟨W.heap.size + 1 + 1, 1, none⟩ = some (.int .i64 (S.minH)) := (blk_cell B3.out 1).trans rfl
                  have fr1 := blk_frozen B3.out 1
                  have r2 : w3.cell? ⟨W.heap.size + 1 + 1, 2, none⟩ = some (.int .i64 (S.maxW)) := (blk_cell B3.out 2).trans rfl
                  have fr2 := blk_frozen B3.out 2
                  have r3 : w3.cell? ⟨W.heap.size + 1 + 1, 3, none⟩ = some (.int .i64 (S.maxH)) := (blk_cell B3.out 3).trans rfl
                  have fr3 := blk_frozen B3.out 3
                  have r4 : w3.cell? ⟨W.heap.size + 1 + 1, 4, none⟩ = some (.int .i64 (S.baseW)) := (blk_cell B3.out 4).trans rfl
                  have fr4 := blk_frozen B3.out 4
                  have r5 : w3.cell? ⟨W.heap.size + 1 + 1, 5, none⟩ = some (.int .i64 (S.baseH)) := (blk_cell B3.out 5).trans rfl
                  have fr5 := blk_frozen B3.out 5
                  have r6 : w3.cell? ⟨W.heap.size + 1 + 1, 6, none⟩ = some (.int .i64 (S.incW)) := (blk_cell B3.out 6).trans rfl
                  have fr6 := blk_frozen B3.out 6
                  have r7 : w3.cell? ⟨W.heap.size + 1 + 1, 7, none⟩ = some (.int .i64 (S.incH)) := (blk_cell B3.out 7).trans rfl
                  have fr7 := blk_frozen B3.out 7
                  have r8 : w3.cell? ⟨W.heap.size + 1 + 1, 8, none⟩ = some (.int .i64 (0)) := (blk_cell B3.out 8).trans rfl
                  have fr8 := blk_frozen B3.out 8
                  have r9 : w3.cell? ⟨W.heap.size + 1 + 1, 9, none⟩ = some (.int .i64 (0)) := (blk_cell B3.out 9).trans rfl
                  have fr9 := blk_frozen B3.out 9
                  have r10 : w3.cell? ⟨W.heap.size + 1 + 1, 10, none⟩ = some (.int .i64 (0)) := (blk_cell B3.out 10).trans rfl
                  have fr10 := blk_frozen B3.out 10
                  have r11 : w3.cell? ⟨W.heap.size + 1 + 1, 11, none⟩ = some (.int .i64 (0)) := (blk_cell B3.out 11).trans rfl
                  have fr11 := blk_frozen B3.out 11
                  have q0 : w3.cell? ⟨W.heap.size + 1, 0, none⟩ = some (.int .i64 (0)) := (blk_cell B2.out 0).trans rfl
                  have fq0 := blk_frozen B2.out 0
                  have q1 : w3.cell? ⟨W.heap.size + 1, 1, none⟩ = some (.int .i64 (0)) := (blk_cell B2.out 1).trans rfl
                  have fq1 := blk_frozen B2.out 1
                  have q2 : w3.cell? ⟨W.heap.size + 1, 2, none⟩ = some (.int .i64 (0)) := (blk_cell B2.out 2).trans rfl
                  have fq2 := blk_frozen B2.out 2
                  have q3 : w3.cell? ⟨W.heap.size + 1, 3, none⟩ = some (.int .i64 (0)) := (blk_cell B2.out 3).trans rfl
                  have fq3 := blk_frozen B2.out 3
                  have q4 : w3.cell? ⟨W.heap.size + 1, 4, none⟩ = some (.int .i64 (0)) := (blk_cell B2.out 4).trans rfl
                  have fq4 := blk_frozen B2.out 4
                  have q5 : w3.cell? ⟨W.heap.size + 1, 5, none⟩ = some (.int .i64 (0)) := (blk_cell B2.out 5).trans rfl
                  have fq5 := blk_frozen B2.out 5
                  have q6 : w3.cell? ⟨W.heap.size + 1, 6, none⟩ = some (.int .i64 (0)) := (blk_cell B2.out 6).trans rfl
                  have fq6 := blk_frozen B2.out 6
                  have q7 : w3.cell? ⟨W.heap.size + 1, 7, none⟩ = some (.int .i64 (0)) := (blk_cell B2.out 7).trans rfl
                  have fq7 := blk_frozen B2.out 7
                  have q8 : w3.cell? ⟨W.heap.size + 1, 8, none⟩ = some (.int .i64 (0)) := (blk_cell B2.out 8).trans rfl
                  have fq8 := blk_frozen B2.out 8
                  have q9 : w3.cell? ⟨W.heap.size + 1, 9, none⟩ = some (.int .i64 (0)) := (blk_cell B2.out 9).trans rfl
                  have fq9 := blk_frozen B2.out 9
                  have q10 : w3.cell? ⟨W.heap.size + 1, 10, none⟩ = some (.int .i64 (0)) := (blk_cell B2.out 10).trans rfl
                  have fq10 := blk_frozen B2.out 10
                  have q11 : w3.cell? ⟨W.heap.size + 1, 11, none⟩ = some (.int .i64 (0)) := (blk_cell B2.out 11).trans rfl
                  have fq11 := blk_frozen B2.out 11
                  go_wp2_with fail
                  exact bodyPost_ret (v := .agg #[.int .i64 S.minW, .int .i64 S.minH, .int .i64 S.maxW, .int .i64 S.maxH, .int .i64 0, .int .i64 0, .int .i64 1, .int .i64 1, .int .i64 0, .int .i64 0, .int .i64 0, .int .i64 0]) (by simp [results, Try.results16, go_sem, q0, fq0, q1, fq1, q2, fq2, q3, fq3, q4, fq4, q5, fq5, q6, fq6, q7, fq7, q8, fq8, q9, fq9, q10, fq10, q11, fq11, r0, fr0, r1, fr1, r2, fr2, r3, fr3, r4, fr4, r5, fr5, r6, fr6, r7, fr7, r8, fr8, r9, fr9, r10, fr10, r11, fr11]) rfl ⟨by rw [ERS.out]; rfl, put12_below (by (repeat (refine below_set ?_ (by omega))); exact HB.out) (by omega) (.int .i64 S.minW) (.int .i64 S.minH) (.int .i64 S.maxW) (.int .i64 S.maxH) (.int .i64 0) (.int .i64 0) (.int .i64 1) (.int .i64 1) (.int .i64 0) (.int .i64 0) (.int .i64 0) (.int .i64 0)⟩
end Go.Proofs.Ytajpnmiblepmkaa.Sz
