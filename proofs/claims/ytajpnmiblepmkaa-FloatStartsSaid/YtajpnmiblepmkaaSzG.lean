/- Sizes by hints: the contracts of the spans of numbers, of along, and of the reference's find. -/
import Derived.Test.YtajpnmiblepmkaaSzE
import Derived.Test.YtajpnmiblepmkaaPFitx3
namespace Go.Proofs.Ytajpnmiblepmkaa.Sz
open Go.RowKit Go.Proofs.YtajpnmiblepmkaaW.PrintMore Go.Proofs.YtajpnmiblepmkaaW.PrintWords Go.Proofs.YtajpnmiblepmkaaW.PrintLast Go.Proofs.Ytajpnmiblepmkaa.Geo
set_option linter.unusedVariables false
set_option linter.unusedSimpArgs false
attribute [local go_sem] max2_int min2_int max_two min_two max_three min_three

theorem along_f {n least most base inc : Int} (hb0 : 0 ≤ base) (hn : n ≤ 1099511627776) (hi : 1 ≤ inc) : ∃ b, Go.Proofs.Ytajpnmiblepmkaa.PFit.casementref09_along.f n least most base inc = some b ∧ (b = true ↔ along n least most base inc) := by
  unfold Go.Proofs.Ytajpnmiblepmkaa.PFit.casementref09_along.f along topP
  by_cases c1 : n ≥ least
  · by_cases c3 : n ≥ base
    · have w : wrap64 (n - base) = n - base := wrap64_i (by omega) (by omega)
      rw [w, Int.tmod_eq_emod_of_nonneg (by omega)]
      by_cases c2 : most = 0
      · rw [if_pos c2, if_pos c2, if_pos c1]
        by_cases c4 : n ≤ 65535
        · rw [if_pos c4, if_pos c3, if_neg (by omega)]
          refine ⟨_, rfl, ?_⟩
          rw [beq_iff_eq]
          exact ⟨fun h => ⟨c1, c4, c3, h⟩, fun h => h.2.2.2⟩
        · rw [if_neg c4]
          exact ⟨_, rfl, by simp [c4]⟩
      · rw [if_neg c2, if_neg c2, if_pos c1]
        by_cases c4 : n ≤ most
        · rw [if_pos c4, if_pos c3, if_neg (by omega)]
          refine ⟨_, rfl, ?_⟩
          rw [beq_iff_eq]
          exact ⟨fun h => ⟨c1, c4, c3, h⟩, fun h => h.2.2.2⟩
        · rw [if_neg c4]
          exact ⟨_, rfl, by simp [c4]⟩
    · simp only [if_neg c3, if_pos c1]
      refine ⟨false, by split <;> split <;> rfl, by simp; intro _ _ q; omega⟩
  · simp only [if_neg c1]
    exact ⟨false, by split <;> rfl, by simp; intro q; omega⟩

open Classical in
noncomputable def alongB (n l m b i : Int) : Bool := decide (along n l m b i)
theorem alongB_true {n l m b i : Int} : alongB n l m b i = true ↔ along n l m b i := by unfold alongB; simp
theorem alongB_false {n l m b i : Int} : alongB n l m b i = false ↔ ¬ along n l m b i := by unfold alongB; simp
theorem c_along {n least most base inc : Int} (hb0 : 0 ≤ base) (hn : n ≤ 1099511627776) (hi : 1 ≤ inc) (w : World) : Calls Try.prog 45 #[.int .i64 n, .int .i64 least, .int .i64 most, .int .i64 base, .int .i64 inc] w fun e w' => e = .returned (.bool (alongB n least most base inc)) ∧ Below w.heap.size w w' := by
  obtain ⟨b, e, eb⟩ := along_f (n := n) (least := least) (most := most) (base := base) (inc := inc) hb0 hn hi
  have : b = alongB n least most base inc := by
    cases b
    · symm; apply alongB_false.2; intro q; exact absurd (eb.2 q) (by decide)
    · symm; exact alongB_true.2 (eb.1 rfl)
  rw [← this]
  exact (Go.Proofs.Ytajpnmiblepmkaa.PFit.casementref09_along.calls n least most base inc b w e).mono fun e w' h => ⟨h.1, by first | exact h.2 | (rw [h.2]; exact Below.refl _ _) | (rw [← h.2]; exact Below.refl _ _) | (obtain ⟨n, rfl⟩ := h.2.out; exact pw_below_drewN (Below.refl _ _) n)⟩
set_option maxHeartbeats 1000000 in
theorem c_gspan (v l m : Int) (w : World) : Calls Try.prog 40 #[.int .i64 v, .int .i64 l, .int .i64 m] w fun e w' => e = .returned (.int .i64 (spanI v l m)) ∧ w = w' := by
  have c : ∀ w, Calls Try.prog 59 #[.int .i64 v, .int .i64 l, .int .i64 m] w fun e w' => e = .returned (.int .i64 (spanI v l m)) ∧ w = w' := by
    intro w
    obtain ⟨i, hi⟩ : ∃ i, (if m < v then m else v) = i := ⟨_, rfl⟩
    have hs : ∃ j, spanI v l m = j ∧ (if l < i then i else l) = j := ⟨_, rfl, by unfold spanI; rw [← hi]; split <;> split <;> omega⟩
    obtain ⟨j, hj, hs⟩ := hs
    rw [hj]
    clear hj
    go_enter Try.func59, Try.ntmps59
    go_wp2
    go_ret
    exact ⟨rfl, rfl⟩
  go_enter Try.func40, Try.ntmps40
  go_wp2_with fail
  refine (c _).mono ?_
  rintro e w1 ⟨rfl, rfl⟩
  go_wp2
  go_ret
  exact ⟨rfl, rfl⟩
theorem c_rspan (v l m : Int) (w : World) : Calls Try.prog 42 #[.int .i64 v, .int .i64 l, .int .i64 m] w fun e w' => e = .returned (.int .i64 (spanI v l m)) ∧ w = w' := by
  by_cases c1 : m < v <;> by_cases c2 : (if m < v then m else v) < l
  all_goals
    simp only [c1, if_true, if_false] at c2
    have e : ∃ j, spanI v l m = j := ⟨_, rfl⟩
    first
      | rw [show spanI v l m = l by unfold spanI; omega]
      | rw [show spanI v l m = m by unfold spanI; omega]
      | rw [show spanI v l m = v by unfold spanI; omega]
    go_enter Try.func42, Try.ntmps42
    go_wp2
    go_ret
    exact ⟨rfl, rfl⟩
set_option maxHeartbeats 1000000 in
theorem c_bound (n l : Int) (w : World) : Calls Try.prog 69 #[.int .i64 n, .int .i64 l] w fun e w' => e = .returned (.int .i64 (boundI n l)) ∧ w = w' := by
  unfold boundI
  by_cases c : n ≤ 0
  · rw [if_pos c]
    go_enter Try.func69, Try.ntmps69
    go_wp2
    go_ret
    exact ⟨rfl, rfl⟩
  · rw [if_neg c]
    go_enter Try.func69, Try.ntmps69
    go_wp2_with fail
    refine (c_gspan n l 65535 _).mono ?_
    rintro e w1 ⟨rfl, rfl⟩
    go_wp2
    go_ret
    exact ⟨rfl, rfl⟩

/-- A step of the reference's find. -/
theorem rdown {h : Hn} (hn : Nrm h) {w t n : Int} (hnw : n ≤ w) (c : h.minW ≤ n) (no : NoneIn h (n + 1) w) : (1 ≤ n) ∧ (alongB n h.minW h.maxW h.baseW h.incW = false → NoneIn h (n - 1 + 1) w) ∧ (n ≤ 65535 → ¬ 0 < hgt h n t → NoneIn h (n - 1 + 1) w) ∧ (n ≤ 65535 → alongB n h.minW h.maxW h.baseW h.incW = true → 0 < hgt h n t → best h w t = (n, hgt h n t, true)) := by
  have q := hn.1
  unfold Nrm0 at q
  have next : (∀ y, wideP h n → ¬ highP h n y) → NoneIn h (n - 1 + 1) w := fun g z hz a b y => by
    by_cases c : z = n
    · subst c; exact g y hz
    · exact no z hz (by omega) b y
  refine ⟨by omega, fun b => next fun y hz => absurd hz (alongB_false.1 b), fun hx g => next fun y _ => ?_, fun hx b g => ?_⟩
  · rcases hgt_near hn (x := n) (t := t) (by omega) hx with r | r
    · exact r.2 y
    · exact absurd r.1 g
  · rcases hgt_near hn (x := n) (t := t) (by omega) hx with r | r
    · omega
    · refine best_of ⟨⟨⟨alongB_true.1 b, _, r.2.1⟩, Or.inl ⟨by omega, fun z hz hl => ?_⟩⟩, r.2⟩
      by_cases c : n < z
      · exact absurd hz.2.choose_spec (no z hz.1 (by omega) hl _)
      · omega
theorem rdown_end {h : Hn} {w n : Int} (c : ¬ h.minW ≤ n) (no : NoneIn h (n + 1) w) : NoneIn h 1 w := by
  intro z hz a b
  by_cases c2 : n < z
  · exact no z hz (by omega) b
  · have := hz.1; omega
theorem rup {h : Hn} (hn : Nrm h) {w t n : Int} (hnw : w < n) (hw0 : 0 ≤ w) (no : NoneIn h 1 (n - 1)) : (alongB n h.minW h.maxW h.baseW h.incW = false → NoneIn h 1 (n + 1 - 1)) ∧ (n ≤ 65535 → ¬ 0 < hgt h n t → NoneIn h 1 (n + 1 - 1)) ∧ (n ≤ 65535 → alongB n h.minW h.maxW h.baseW h.incW = true → 0 < hgt h n t → best h w t = (n, hgt h n t, true)) := by
  have q := hn.1
  unfold Nrm0 at q
  have next : (∀ y, wideP h n → ¬ highP h n y) → NoneIn h 1 (n + 1 - 1) := fun g z hz a b y => by
    by_cases c : z = n
    · subst c; exact g y hz
    · exact no z hz a (by omega) y
  refine ⟨fun b => next fun y hz => absurd hz (alongB_false.1 b), fun hx g => next fun y _ => ?_, fun hx b g => ?_⟩
  · rcases hgt_near hn (x := n) (t := t) (by omega) hx with r | r
    · exact r.2 y
    · exact absurd r.1 g
  · rcases hgt_near hn (x := n) (t := t) (by omega) hx with r | r
    · omega
    · refine best_of ⟨⟨⟨alongB_true.1 b, _, r.2.1⟩, Or.inr ⟨by omega, fun z hz => ?_⟩⟩, r.2⟩
      by_cases c : z < n
      · exact absurd hz.2.choose_spec (no z hz.1 (by have := hn.1.wide hz.1; omega) (by omega) _)
      · omega
theorem rup_end {h : Hn} (hn : Nrm h) {w t n : Int} (c : ¬ n ≤ 65535) (no : NoneIn h 1 (n - 1)) : best h w t = (0, 0, false) := best_none fun z hz => by
  have := hn.1.wide hz
  exact no z hz (by omega) (by omega)

set_option maxHeartbeats 8000000 in
set_option maxRecDepth 100000 in
theorem c_rfind {h : Hn} (hn : Nrm h) {w t : Int} (hw0 : 0 ≤ w) (hw : w ≤ 65535) (ht0 : 0 ≤ t) (ht : t ≤ 65535) {x y : Int} {ok : Bool} (eb : best h w t = (x, y, ok)) (W : World) :
    Calls Try.prog 44 #[.agg #[.int .i64 h.minW, .int .i64 h.minH, .int .i64 h.maxW, .int .i64 h.maxH, .int .i64 h.baseW, .int .i64 h.baseH, .int .i64 h.incW, .int .i64 h.incH, .int .i64 h.lowX, .int .i64 h.lowY, .int .i64 h.highX, .int .i64 h.highY], .int .i64 w, .int .i64 t] W fun e w' => e = .returned (.tuple #[.int .i64 x, .int .i64 y]) ∧ Below W.heap.size W w' := by
  have HN := Aside0.mk hn
  have HE := Aside0.mk eb
  have HQ := Aside0.mk (show 1 ≤ h.minW ∧ 1 ≤ h.incW ∧ 0 ≤ h.baseW by have q := hn.1; unfold Nrm0 at q; omega)
  clear hn eb
  go_enter Try.func44, Try.ntmps44
  go_wp2_with fail
  go_loopg [8] ((w + 2).toNat) (fun gk v8 wr => ∃ n : Int, v8 = .int .i64 n ∧ Aside0 ((n + 2).toNat ≤ gk ∧ n ≤ w ∧ -1 ≤ n ∧ NoneIn h (n + 1) w) ∧ Aside0 (wr.heap[W.heap.size]? = some (.cells #[.int .i64 h.minW, .int .i64 h.minH, .int .i64 h.maxW, .int .i64 h.maxH, .int .i64 h.baseW, .int .i64 h.baseH, .int .i64 h.incW, .int .i64 h.incH, .int .i64 h.lowX, .int .i64 h.lowY, .int .i64 h.highX, .int .i64 h.highY] 25 (0, 0))) ∧ Aside0 (Below W.heap.size W wr))
  case atStart => exact ⟨w, rfl, ⟨Nat.le_refl _, Int.le_refl _, by omega, fun z _ a b => by omega⟩, ⟨blk_new W _⟩, ⟨below_alloc (Below.refl _ _) _⟩⟩
  case round =>
    obtain ⟨n, rfl, H, B3, HB⟩ := hrel
    have p0 : wr.cell? ⟨W.heap.size, 0, none⟩ = some (.int .i64 (h.minW)) := (blk_cell B3.out 0).trans rfl
    have p1 : wr.cell? ⟨W.heap.size, 1, none⟩ = some (.int .i64 (h.minH)) := (blk_cell B3.out 1).trans rfl
    have p2 : wr.cell? ⟨W.heap.size, 2, none⟩ = some (.int .i64 (h.maxW)) := (blk_cell B3.out 2).trans rfl
    have p3 : wr.cell? ⟨W.heap.size, 3, none⟩ = some (.int .i64 (h.maxH)) := (blk_cell B3.out 3).trans rfl
    have p4 : wr.cell? ⟨W.heap.size, 4, none⟩ = some (.int .i64 (h.baseW)) := (blk_cell B3.out 4).trans rfl
    have p5 : wr.cell? ⟨W.heap.size, 5, none⟩ = some (.int .i64 (h.baseH)) := (blk_cell B3.out 5).trans rfl
    have p6 : wr.cell? ⟨W.heap.size, 6, none⟩ = some (.int .i64 (h.incW)) := (blk_cell B3.out 6).trans rfl
    have p7 : wr.cell? ⟨W.heap.size, 7, none⟩ = some (.int .i64 (h.incH)) := (blk_cell B3.out 7).trans rfl
    have p8 : wr.cell? ⟨W.heap.size, 8, none⟩ = some (.int .i64 (h.lowX)) := (blk_cell B3.out 8).trans rfl
    have p9 : wr.cell? ⟨W.heap.size, 9, none⟩ = some (.int .i64 (h.lowY)) := (blk_cell B3.out 9).trans rfl
    have p10 : wr.cell? ⟨W.heap.size, 10, none⟩ = some (.int .i64 (h.highX)) := (blk_cell B3.out 10).trans rfl
    have p11 : wr.cell? ⟨W.heap.size, 11, none⟩ = some (.int .i64 (h.highY)) := (blk_cell B3.out 11).trans rfl
    have n1 := H.out.1
    have n2 := H.out.2.1
    have n3 := H.out.2.2.1
    by_cases c : h.minW ≤ n
    · have R := rdown (t := t) HN.out n2 c H.out.2.2.2
      have n4 := R.1
      replace R := Aside0.mk R.2
      have KA := Aside0.mk (c_along (n := n) (least := h.minW) (most := h.maxW) (base := h.baseW) (inc := h.incW) HQ.out.2.2 (by omega) HQ.out.2.1)
      clear H
      obtain ⟨b, hb⟩ : ∃ b, b = alongB n h.minW h.maxW h.baseW h.incW := ⟨_, rfl⟩
      rw [← hb] at KA
      rw [← hb] at R
      clear hb
      cases b
      · have NX := Aside0.mk (R.out.1 rfl)
        clear R
        go_wp2_with fail
        refine (KA.out _).mono ?_
        rintro e w3 ⟨rfl, hb⟩
        clear p0 p1 p2 p3 p4 p5 p6 p7 p8 p9 p10 p11
        replace B3 := Aside0.mk (blk_below B3.out hb)
        replace HB := Aside0.mk (below_step HB.out hb)
        clear hb KA
        go_wp2_with fail
        go_roundg (n - 1 + 2).toNat
        case measure => omega
        case rel => exact ⟨n - 1, rfl, ⟨Nat.le_refl _, by omega, by omega, NX.out⟩, B3, HB⟩
      · have KH := Aside0.mk (c_height HN.out (x := n) (t := t) (by omega) (by omega) ht0 ht)
        obtain ⟨v, hv⟩ : ∃ v, v = hgt h n t := ⟨_, rfl⟩
        rw [← hv] at KH
        rw [← hv] at R
        clear hv
        by_cases c2 : 0 < v
        · have e := HE.out
          rw [R.out.2.2 (by omega) rfl c2] at e
          injection e with e1 e2
          injection e2 with e2 e3
          subst e1 e2 e3
          clear R HE
          go_wp2_with fail
          refine (KA.out _).mono ?_
          rintro e w3 ⟨rfl, hb⟩
          clear p0 p1 p2 p3 p4 p5 p6 p7 p8 p9 p10 p11
          replace B3 := Aside0.mk (blk_below B3.out hb)
          replace HB := Aside0.mk (below_step HB.out hb)
          clear hb KA
          have p0 : w3.cell? ⟨W.heap.size, 0, none⟩ = some (.int .i64 (h.minW)) := (blk_cell B3.out 0).trans rfl
          have p1 : w3.cell? ⟨W.heap.size, 1, none⟩ = some (.int .i64 (h.minH)) := (blk_cell B3.out 1).trans rfl
          have p2 : w3.cell? ⟨W.heap.size, 2, none⟩ = some (.int .i64 (h.maxW)) := (blk_cell B3.out 2).trans rfl
          have p3 : w3.cell? ⟨W.heap.size, 3, none⟩ = some (.int .i64 (h.maxH)) := (blk_cell B3.out 3).trans rfl
          have p4 : w3.cell? ⟨W.heap.size, 4, none⟩ = some (.int .i64 (h.baseW)) := (blk_cell B3.out 4).trans rfl
          have p5 : w3.cell? ⟨W.heap.size, 5, none⟩ = some (.int .i64 (h.baseH)) := (blk_cell B3.out 5).trans rfl
          have p6 : w3.cell? ⟨W.heap.size, 6, none⟩ = some (.int .i64 (h.incW)) := (blk_cell B3.out 6).trans rfl
          have p7 : w3.cell? ⟨W.heap.size, 7, none⟩ = some (.int .i64 (h.incH)) := (blk_cell B3.out 7).trans rfl
          have p8 : w3.cell? ⟨W.heap.size, 8, none⟩ = some (.int .i64 (h.lowX)) := (blk_cell B3.out 8).trans rfl
          have p9 : w3.cell? ⟨W.heap.size, 9, none⟩ = some (.int .i64 (h.lowY)) := (blk_cell B3.out 9).trans rfl
          have p10 : w3.cell? ⟨W.heap.size, 10, none⟩ = some (.int .i64 (h.highX)) := (blk_cell B3.out 10).trans rfl
          have p11 : w3.cell? ⟨W.heap.size, 11, none⟩ = some (.int .i64 (h.highY)) := (blk_cell B3.out 11).trans rfl
          go_wp2_with fail
          refine (KH.out _).mono ?_
          rintro e w4 ⟨rfl, hb⟩
          clear p0 p1 p2 p3 p4 p5 p6 p7 p8 p9 p10 p11
          replace B3 := Aside0.mk (blk_below B3.out hb)
          replace HB := Aside0.mk (below_step HB.out hb)
          clear hb
          have p0 : w4.cell? ⟨W.heap.size, 0, none⟩ = some (.int .i64 (h.minW)) := (blk_cell B3.out 0).trans rfl
          have p1 : w4.cell? ⟨W.heap.size, 1, none⟩ = some (.int .i64 (h.minH)) := (blk_cell B3.out 1).trans rfl
          have p2 : w4.cell? ⟨W.heap.size, 2, none⟩ = some (.int .i64 (h.maxW)) := (blk_cell B3.out 2).trans rfl
          have p3 : w4.cell? ⟨W.heap.size, 3, none⟩ = some (.int .i64 (h.maxH)) := (blk_cell B3.out 3).trans rfl
          have p4 : w4.cell? ⟨W.heap.size, 4, none⟩ = some (.int .i64 (h.baseW)) := (blk_cell B3.out 4).trans rfl
          have p5 : w4.cell? ⟨W.heap.size, 5, none⟩ = some (.int .i64 (h.baseH)) := (blk_cell B3.out 5).trans rfl
          have p6 : w4.cell? ⟨W.heap.size, 6, none⟩ = some (.int .i64 (h.incW)) := (blk_cell B3.out 6).trans rfl
          have p7 : w4.cell? ⟨W.heap.size, 7, none⟩ = some (.int .i64 (h.incH)) := (blk_cell B3.out 7).trans rfl
          have p8 : w4.cell? ⟨W.heap.size, 8, none⟩ = some (.int .i64 (h.lowX)) := (blk_cell B3.out 8).trans rfl
          have p9 : w4.cell? ⟨W.heap.size, 9, none⟩ = some (.int .i64 (h.lowY)) := (blk_cell B3.out 9).trans rfl
          have p10 : w4.cell? ⟨W.heap.size, 10, none⟩ = some (.int .i64 (h.highX)) := (blk_cell B3.out 10).trans rfl
          have p11 : w4.cell? ⟨W.heap.size, 11, none⟩ = some (.int .i64 (h.highY)) := (blk_cell B3.out 11).trans rfl
          go_wp2_with fail
          refine (KH.out _).mono ?_
          rintro e w5 ⟨rfl, hb⟩
          clear p0 p1 p2 p3 p4 p5 p6 p7 p8 p9 p10 p11
          replace HB := Aside0.mk (below_step HB.out hb)
          clear hb
          go_wp2
          go_ret2
          exact ⟨rfl, HB.out⟩
        · have NX := Aside0.mk (R.out.2.1 (by omega) c2)
          clear R
          go_wp2_with fail
          refine (KA.out _).mono ?_
          rintro e w3 ⟨rfl, hb⟩
          clear p0 p1 p2 p3 p4 p5 p6 p7 p8 p9 p10 p11
          replace B3 := Aside0.mk (blk_below B3.out hb)
          replace HB := Aside0.mk (below_step HB.out hb)
          clear hb KA
          have p0 : w3.cell? ⟨W.heap.size, 0, none⟩ = some (.int .i64 (h.minW)) := (blk_cell B3.out 0).trans rfl
          have p1 : w3.cell? ⟨W.heap.size, 1, none⟩ = some (.int .i64 (h.minH)) := (blk_cell B3.out 1).trans rfl
          have p2 : w3.cell? ⟨W.heap.size, 2, none⟩ = some (.int .i64 (h.maxW)) := (blk_cell B3.out 2).trans rfl
          have p3 : w3.cell? ⟨W.heap.size, 3, none⟩ = some (.int .i64 (h.maxH)) := (blk_cell B3.out 3).trans rfl
          have p4 : w3.cell? ⟨W.heap.size, 4, none⟩ = some (.int .i64 (h.baseW)) := (blk_cell B3.out 4).trans rfl
          have p5 : w3.cell? ⟨W.heap.size, 5, none⟩ = some (.int .i64 (h.baseH)) := (blk_cell B3.out 5).trans rfl
          have p6 : w3.cell? ⟨W.heap.size, 6, none⟩ = some (.int .i64 (h.incW)) := (blk_cell B3.out 6).trans rfl
          have p7 : w3.cell? ⟨W.heap.size, 7, none⟩ = some (.int .i64 (h.incH)) := (blk_cell B3.out 7).trans rfl
          have p8 : w3.cell? ⟨W.heap.size, 8, none⟩ = some (.int .i64 (h.lowX)) := (blk_cell B3.out 8).trans rfl
          have p9 : w3.cell? ⟨W.heap.size, 9, none⟩ = some (.int .i64 (h.lowY)) := (blk_cell B3.out 9).trans rfl
          have p10 : w3.cell? ⟨W.heap.size, 10, none⟩ = some (.int .i64 (h.highX)) := (blk_cell B3.out 10).trans rfl
          have p11 : w3.cell? ⟨W.heap.size, 11, none⟩ = some (.int .i64 (h.highY)) := (blk_cell B3.out 11).trans rfl
          go_wp2_with fail
          refine (KH.out _).mono ?_
          rintro e w4 ⟨rfl, hb⟩
          clear p0 p1 p2 p3 p4 p5 p6 p7 p8 p9 p10 p11
          replace B3 := Aside0.mk (blk_below B3.out hb)
          replace HB := Aside0.mk (below_step HB.out hb)
          clear hb
          go_wp2_with fail
          go_roundg (n - 1 + 2).toNat
          case measure => omega
          case rel => exact ⟨n - 1, rfl, ⟨Nat.le_refl _, by omega, by omega, NX.out⟩, B3, HB⟩
    · have N1 := Aside0.mk (rdown_end c H.out.2.2.2)
      clear H
      go_wp2_with fail
      obtain ⟨wo, hwo⟩ : ∃ wo : World, wo = wr := ⟨_, rfl⟩
      go_loopg [9] ((65538 : Nat)) (fun gk v9 wr => ∃ n : Int, v9 = .int .i64 n ∧ Aside0 ((65538 - n).toNat ≤ gk ∧ w < n ∧ n ≤ 65537 ∧ NoneIn h 1 (n - 1)) ∧ Aside0 (wr.heap[W.heap.size]? = some (.cells #[.int .i64 h.minW, .int .i64 h.minH, .int .i64 h.maxW, .int .i64 h.maxH, .int .i64 h.baseW, .int .i64 h.baseH, .int .i64 h.incW, .int .i64 h.incH, .int .i64 h.lowX, .int .i64 h.lowY, .int .i64 h.highX, .int .i64 h.highY] 25 (0, 0))) ∧ Aside0 (Below W.heap.size W wr))
      case atStart => exact ⟨w + 1, rfl, ⟨by omega, by omega, by omega, by rw [show w + 1 - 1 = w by omega]; exact N1.out⟩, B3, HB⟩
      case round =>
        clear p0 p1 p2 p3 p4 p5 p6 p7 p8 p9 p10 p11
        clear B3 HB N1 n1 n2 n3 c
        obtain ⟨n, rfl, H, B3, HB⟩ := hrel
        have p0 : wr.cell? ⟨W.heap.size, 0, none⟩ = some (.int .i64 (h.minW)) := (blk_cell B3.out 0).trans rfl
        have p1 : wr.cell? ⟨W.heap.size, 1, none⟩ = some (.int .i64 (h.minH)) := (blk_cell B3.out 1).trans rfl
        have p2 : wr.cell? ⟨W.heap.size, 2, none⟩ = some (.int .i64 (h.maxW)) := (blk_cell B3.out 2).trans rfl
        have p3 : wr.cell? ⟨W.heap.size, 3, none⟩ = some (.int .i64 (h.maxH)) := (blk_cell B3.out 3).trans rfl
        have p4 : wr.cell? ⟨W.heap.size, 4, none⟩ = some (.int .i64 (h.baseW)) := (blk_cell B3.out 4).trans rfl
        have p5 : wr.cell? ⟨W.heap.size, 5, none⟩ = some (.int .i64 (h.baseH)) := (blk_cell B3.out 5).trans rfl
        have p6 : wr.cell? ⟨W.heap.size, 6, none⟩ = some (.int .i64 (h.incW)) := (blk_cell B3.out 6).trans rfl
        have p7 : wr.cell? ⟨W.heap.size, 7, none⟩ = some (.int .i64 (h.incH)) := (blk_cell B3.out 7).trans rfl
        have p8 : wr.cell? ⟨W.heap.size, 8, none⟩ = some (.int .i64 (h.lowX)) := (blk_cell B3.out 8).trans rfl
        have p9 : wr.cell? ⟨W.heap.size, 9, none⟩ = some (.int .i64 (h.lowY)) := (blk_cell B3.out 9).trans rfl
        have p10 : wr.cell? ⟨W.heap.size, 10, none⟩ = some (.int .i64 (h.highX)) := (blk_cell B3.out 10).trans rfl
        have p11 : wr.cell? ⟨W.heap.size, 11, none⟩ = some (.int .i64 (h.highY)) := (blk_cell B3.out 11).trans rfl
        have n1 := H.out.1
        have n2 := H.out.2.1
        have n3 := H.out.2.2.1
        by_cases c : n ≤ 65535
        · have R := Aside0.mk (rup (t := t) HN.out n2 hw0 H.out.2.2.2)
          have KA := Aside0.mk (c_along (n := n) (least := h.minW) (most := h.maxW) (base := h.baseW) (inc := h.incW) HQ.out.2.2 (by omega) HQ.out.2.1)
          clear H
          obtain ⟨b, hb⟩ : ∃ b, b = alongB n h.minW h.maxW h.baseW h.incW := ⟨_, rfl⟩
          rw [← hb] at KA
          rw [← hb] at R
          clear hb
          cases b
          · have NX := Aside0.mk (R.out.1 rfl)
            clear R
            go_wp2_with fail
            refine (KA.out _).mono ?_
            rintro e w3 ⟨rfl, hb⟩
            clear p0 p1 p2 p3 p4 p5 p6 p7 p8 p9 p10 p11
            replace B3 := Aside0.mk (blk_below B3.out hb)
            replace HB := Aside0.mk (below_step HB.out hb)
            clear hb KA
            go_wp2_with fail
            go_roundg (65538 - (n + 1)).toNat
            case measure => omega
            case rel => exact ⟨n + 1, rfl, ⟨Nat.le_refl _, by omega, by omega, NX.out⟩, B3, HB⟩
          · have KH := Aside0.mk (c_height HN.out (x := n) (t := t) (by omega) (by omega) ht0 ht)
            obtain ⟨v, hv⟩ : ∃ v, v = hgt h n t := ⟨_, rfl⟩
            rw [← hv] at KH
            rw [← hv] at R
            clear hv
            by_cases c2 : 0 < v
            · have e := HE.out
              rw [R.out.2.2 (by omega) rfl c2] at e
              injection e with e1 e2
              injection e2 with e2 e3
              subst e1 e2 e3
              clear R HE
              go_wp2_with fail
              refine (KA.out _).mono ?_
              rintro e w3 ⟨rfl, hb⟩
              clear p0 p1 p2 p3 p4 p5 p6 p7 p8 p9 p10 p11
              replace B3 := Aside0.mk (blk_below B3.out hb)
              replace HB := Aside0.mk (below_step HB.out hb)
              clear hb KA
              have p0 : w3.cell? ⟨W.heap.size, 0, none⟩ = some (.int .i64 (h.minW)) := (blk_cell B3.out 0).trans rfl
              have p1 : w3.cell? ⟨W.heap.size, 1, none⟩ = some (.int .i64 (h.minH)) := (blk_cell B3.out 1).trans rfl
              have p2 : w3.cell? ⟨W.heap.size, 2, none⟩ = some (.int .i64 (h.maxW)) := (blk_cell B3.out 2).trans rfl
              have p3 : w3.cell? ⟨W.heap.size, 3, none⟩ = some (.int .i64 (h.maxH)) := (blk_cell B3.out 3).trans rfl
              have p4 : w3.cell? ⟨W.heap.size, 4, none⟩ = some (.int .i64 (h.baseW)) := (blk_cell B3.out 4).trans rfl
              have p5 : w3.cell? ⟨W.heap.size, 5, none⟩ = some (.int .i64 (h.baseH)) := (blk_cell B3.out 5).trans rfl
              have p6 : w3.cell? ⟨W.heap.size, 6, none⟩ = some (.int .i64 (h.incW)) := (blk_cell B3.out 6).trans rfl
              have p7 : w3.cell? ⟨W.heap.size, 7, none⟩ = some (.int .i64 (h.incH)) := (blk_cell B3.out 7).trans rfl
              have p8 : w3.cell? ⟨W.heap.size, 8, none⟩ = some (.int .i64 (h.lowX)) := (blk_cell B3.out 8).trans rfl
              have p9 : w3.cell? ⟨W.heap.size, 9, none⟩ = some (.int .i64 (h.lowY)) := (blk_cell B3.out 9).trans rfl
              have p10 : w3.cell? ⟨W.heap.size, 10, none⟩ = some (.int .i64 (h.highX)) := (blk_cell B3.out 10).trans rfl
              have p11 : w3.cell? ⟨W.heap.size, 11, none⟩ = some (.int .i64 (h.highY)) := (blk_cell B3.out 11).trans rfl
              go_wp2_with fail
              refine (KH.out _).mono ?_
              rintro e w4 ⟨rfl, hb⟩
              clear p0 p1 p2 p3 p4 p5 p6 p7 p8 p9 p10 p11
              replace B3 := Aside0.mk (blk_below B3.out hb)
              replace HB := Aside0.mk (below_step HB.out hb)
              clear hb
              have p0 : w4.cell? ⟨W.heap.size, 0, none⟩ = some (.int .i64 (h.minW)) := (blk_cell B3.out 0).trans rfl
              have p1 : w4.cell? ⟨W.heap.size, 1, none⟩ = some (.int .i64 (h.minH)) := (blk_cell B3.out 1).trans rfl
              have p2 : w4.cell? ⟨W.heap.size, 2, none⟩ = some (.int .i64 (h.maxW)) := (blk_cell B3.out 2).trans rfl
              have p3 : w4.cell? ⟨W.heap.size, 3, none⟩ = some (.int .i64 (h.maxH)) := (blk_cell B3.out 3).trans rfl
              have p4 : w4.cell? ⟨W.heap.size, 4, none⟩ = some (.int .i64 (h.baseW)) := (blk_cell B3.out 4).trans rfl
              have p5 : w4.cell? ⟨W.heap.size, 5, none⟩ = some (.int .i64 (h.baseH)) := (blk_cell B3.out 5).trans rfl
              have p6 : w4.cell? ⟨W.heap.size, 6, none⟩ = some (.int .i64 (h.incW)) := (blk_cell B3.out 6).trans rfl
              have p7 : w4.cell? ⟨W.heap.size, 7, none⟩ = some (.int .i64 (h.incH)) := (blk_cell B3.out 7).trans rfl
              have p8 : w4.cell? ⟨W.heap.size, 8, none⟩ = some (.int .i64 (h.lowX)) := (blk_cell B3.out 8).trans rfl
              have p9 : w4.cell? ⟨W.heap.size, 9, none⟩ = some (.int .i64 (h.lowY)) := (blk_cell B3.out 9).trans rfl
              have p10 : w4.cell? ⟨W.heap.size, 10, none⟩ = some (.int .i64 (h.highX)) := (blk_cell B3.out 10).trans rfl
              have p11 : w4.cell? ⟨W.heap.size, 11, none⟩ = some (.int .i64 (h.highY)) := (blk_cell B3.out 11).trans rfl
              go_wp2_with fail
              refine (KH.out _).mono ?_
              rintro e w5 ⟨rfl, hb⟩
              clear p0 p1 p2 p3 p4 p5 p6 p7 p8 p9 p10 p11
              replace HB := Aside0.mk (below_step HB.out hb)
              clear hb
              go_wp2
              go_ret2
              exact ⟨rfl, HB.out⟩
            · have NX := Aside0.mk (R.out.2.1 (by omega) c2)
              clear R
              go_wp2_with fail
              refine (KA.out _).mono ?_
              rintro e w3 ⟨rfl, hb⟩
              clear p0 p1 p2 p3 p4 p5 p6 p7 p8 p9 p10 p11
              replace B3 := Aside0.mk (blk_below B3.out hb)
              replace HB := Aside0.mk (below_step HB.out hb)
              clear hb KA
              have p0 : w3.cell? ⟨W.heap.size, 0, none⟩ = some (.int .i64 (h.minW)) := (blk_cell B3.out 0).trans rfl
              have p1 : w3.cell? ⟨W.heap.size, 1, none⟩ = some (.int .i64 (h.minH)) := (blk_cell B3.out 1).trans rfl
              have p2 : w3.cell? ⟨W.heap.size, 2, none⟩ = some (.int .i64 (h.maxW)) := (blk_cell B3.out 2).trans rfl
              have p3 : w3.cell? ⟨W.heap.size, 3, none⟩ = some (.int .i64 (h.maxH)) := (blk_cell B3.out 3).trans rfl
              have p4 : w3.cell? ⟨W.heap.size, 4, none⟩ = some (.int .i64 (h.baseW)) := (blk_cell B3.out 4).trans rfl
              have p5 : w3.cell? ⟨W.heap.size, 5, none⟩ = some (.int .i64 (h.baseH)) := (blk_cell B3.out 5).trans rfl
              have p6 : w3.cell? ⟨W.heap.size, 6, none⟩ = some (.int .i64 (h.incW)) := (blk_cell B3.out 6).trans rfl
              have p7 : w3.cell? ⟨W.heap.size, 7, none⟩ = some (.int .i64 (h.incH)) := (blk_cell B3.out 7).trans rfl
              have p8 : w3.cell? ⟨W.heap.size, 8, none⟩ = some (.int .i64 (h.lowX)) := (blk_cell B3.out 8).trans rfl
              have p9 : w3.cell? ⟨W.heap.size, 9, none⟩ = some (.int .i64 (h.lowY)) := (blk_cell B3.out 9).trans rfl
              have p10 : w3.cell? ⟨W.heap.size, 10, none⟩ = some (.int .i64 (h.highX)) := (blk_cell B3.out 10).trans rfl
              have p11 : w3.cell? ⟨W.heap.size, 11, none⟩ = some (.int .i64 (h.highY)) := (blk_cell B3.out 11).trans rfl
              go_wp2_with fail
              refine (KH.out _).mono ?_
              rintro e w4 ⟨rfl, hb⟩
              clear p0 p1 p2 p3 p4 p5 p6 p7 p8 p9 p10 p11
              replace B3 := Aside0.mk (blk_below B3.out hb)
              replace HB := Aside0.mk (below_step HB.out hb)
              clear hb
              go_wp2_with fail
              go_roundg (65538 - (n + 1)).toNat
              case measure => omega
              case rel => exact ⟨n + 1, rfl, ⟨Nat.le_refl _, by omega, by omega, NX.out⟩, B3, HB⟩
        · have e := HE.out
          rw [rup_end HN.out c H.out.2.2.2] at e
          injection e with e1 e2
          injection e2 with e2 e3
          subst e1 e2 e3
          clear HE H
          go_wp2
          go_ret2
          exact ⟨rfl, HB.out⟩
end Go.Proofs.Ytajpnmiblepmkaa.Sz
