/- Sizes by hints: the contract of the reference's height: the best height beside a width. -/
import Derived.Test.YtajpnmiblepmkaaSzD

namespace Go.Proofs.Ytajpnmiblepmkaa.Sz
open Go.RowKit Go.Proofs.YtajpnmiblepmkaaW.PrintMore Go.Proofs.YtajpnmiblepmkaaW.PrintWords Go.Proofs.YtajpnmiblepmkaaW.PrintLast Go.Proofs.Ytajpnmiblepmkaa.Geo
set_option linter.unusedVariables false
set_option linter.unusedSimpArgs false

theorem sub_grid {a b c : Int} (ha : a % c = 0) (hb : b % c = 0) : (a - b) % c = 0 := by
  rw [Int.sub_emod, ha, hb]; simp
/-- The next place of a grid. -/
def upV (low base inc : Int) : Int := if (low - base) % inc = 0 then low else low + inc - (low - base) % inc
theorem up_grid {low base inc : Int} (hi : 1 ≤ inc) (hb : base ≤ low) : (upV low base inc - base) % inc = 0 ∧ low ≤ upV low base inc ∧ upV low base inc ≤ low + inc ∧ ∀ z, (z - base) % inc = 0 → low ≤ z → upV low base inc ≤ z := by
  unfold upV
  by_cases c : (low - base) % inc = 0
  · rw [if_pos c]
    exact ⟨c, by omega, by omega, fun z _ h => h⟩
  · rw [if_neg c]
    have r0 := Int.emod_nonneg (low - base) (show inc ≠ 0 by omega)
    have r1 := Int.emod_lt_of_pos (low - base) (show 0 < inc by omega)
    have e := Int.mul_ediv_add_emod (low - base) inc
    have e2 : low + inc - (low - base) % inc - base = inc * ((low - base) / inc + 1) := by
      rw [Int.mul_add]; omega
    refine ⟨by rw [e2]; exact Int.mul_emod_right _ _, by omega, by omega, fun z hz hl => ?_⟩
    have g := grid_mul hz
    apply Classical.byContradiction
    intro q
    have l : inc * ((z - base) / inc) < inc * ((low - base) / inc + 1) := by omega
    have l2 := Int.lt_of_mul_lt_mul_left l (by omega)
    have l3 := Int.mul_le_mul_of_nonneg_left (show (z - base) / inc ≤ (low - base) / inc by omega) (show 0 ≤ inc by omega)
    omega
theorem tail_near {low high base inc t v : Int} (hi : 1 ≤ inc) (hb : base ≤ low) (h1 : 1 ≤ low)
    (hv : v = if upV low base inc > high then 0 else if t < upV low base inc then upV low base inc else if t > high then high - (high - upV low base inc) % inc else t - (t - upV low base inc) % inc) :
    (v = 0 ∧ ∀ z, ¬ El low high base inc z) ∨ (0 < v ∧ IsNear (El low high base inc) t v) := by
  obtain ⟨g1, g2, g3, g4⟩ := up_grid hi hb
  obtain ⟨u, hu⟩ : ∃ u, u = upV low base inc := ⟨_, rfl⟩
  rw [← hu] at g1 g2 g3 g4 hv
  by_cases c1 : u > high
  · rw [if_pos c1] at hv
    exact Or.inl ⟨hv, fun z hz => by have := g4 z hz.2.2.2 hz.1; have := hz.2.1; omega⟩
  · rw [if_neg c1] at hv
    right
    have eu : El low high base inc u := ⟨g2, by omega, by omega, g1⟩
    by_cases c2 : t < u
    · rw [if_pos c2] at hv
      subst hv
      exact ⟨by omega, eu, Or.inr ⟨c2, fun z hz => by have := g4 z hz.2.2.2 hz.1; omega⟩⟩
    · rw [if_neg c2] at hv
      have key : ∀ k, u ≤ k → k ≤ high → (∀ z, El low high base inc z → z ≤ t → z ≤ k) → k ≤ t → v = k - (k - u) % inc → 0 < v ∧ IsNear (El low high base inc) t v := by
        intro k a b m c e
        obtain ⟨d1, d2, d3, d4⟩ := grid_down (k := k - u) hi (by omega)
        have ev : v - u = k - u - (k - u) % inc := by omega
        have gv : (v - base) % inc = 0 := by
          have := sub_grid (show (v - u) % inc = 0 by rw [ev]; exact d1) (show (base - u) % inc = 0 by rw [show base - u = 0 - (u - base) by omega]; exact sub_grid (Int.zero_emod _) g1)
          rw [show v - u - (base - u) = v - base by omega] at this
          exact this
        refine ⟨by omega, ⟨by omega, by omega, by omega, gv⟩, Or.inl ⟨by omega, fun z hz hl => ?_⟩⟩
        have := d4 (z - u) (by have := sub_grid hz.2.2.2 g1; rw [show z - base - (u - base) = z - u by omega] at this; exact this) (by have := m z hz hl; omega)
        omega
      by_cases c3 : t > high
      · rw [if_pos c3] at hv
        exact key high (by omega) (by omega) (fun z hz _ => hz.2.1) (by omega) hv
      · rw [if_neg c3] at hv
        exact key t (by omega) (by omega) (fun z _ hl => hl) (by omega) hv

def lo0 (h : Hn) : Int := max h.minH h.baseH
def lo1 (h : Hn) (x : Int) : Int := if 0 < h.lowX then (if lo0 h * h.highX < x * h.highY ∧ lo0 h ≤ topP h.maxH then lo0 h + 1 + (x * h.highY - lo0 h * h.highX - 1) / h.highX else lo0 h) else lo0 h
def hi1 (h : Hn) (x : Int) : Int := if 0 < h.lowX then min (topP h.maxH) (x * h.lowY / h.lowX) else topP h.maxH
def hgt (h : Hn) (x t : Int) : Int := if upV (lo1 h x) h.baseH h.incH > hi1 h x then 0 else if t < upV (lo1 h x) h.baseH h.incH then upV (lo1 h x) h.baseH h.incH else if t > hi1 h x then hi1 h x - (hi1 h x - upV (lo1 h x) h.baseH h.incH) % h.incH else t - (t - upV (lo1 h x) h.baseH h.incH) % h.incH

theorem lo0_bd {h : Hn} (hn : Nrm h) : 1 ≤ lo0 h ∧ lo0 h ≤ 65535 ∧ h.baseH ≤ lo0 h := by
  have q := hn.1
  unfold Nrm0 at q
  unfold lo0
  omega
/-- One round of the reference's loop. -/
theorem step_bd {h : Hn} (ha : Asp1 h) {x l : Int} (hx0 : 0 ≤ x) (hx : x ≤ 65535) (hl : 1 ≤ l) (hl2 : l ≤ 65535) (c : l * h.highX < x * h.highY) :
    (0 ≤ (x * h.highY - l * h.highX - 1) / h.highX ∧ (x * h.highY - l * h.highX - 1) / h.highX ≤ 4294836225) ∧ (∀ y, x * h.highY ≤ h.highX * y ↔ l + 1 + (x * h.highY - l * h.highX - 1) / h.highX ≤ y) ∧ 0 ≤ (l + 1 + (x * h.highY - l * h.highX - 1) / h.highX) * h.highX ∧ (l + 1 + (x * h.highY - l * h.highX - 1) / h.highX) * h.highX ≤ 9223372036854775807 ∧ x * h.highY ≤ (l + 1 + (x * h.highY - l * h.highX - 1) / h.highX) * h.highX := by
  obtain ⟨a, b, c', d, e⟩ := id ha
  have m1 := mul_bd hx0 hx (b := h.highY) (by omega) (by omega)
  have m2 := mul_bd (show 0 ≤ l by omega) hl2 (b := h.highX) (by omega) (by omega)
  have d1 := div_bd (a := x * h.highY - l * h.highX - 1) (b := h.highX) (by omega) (by omega)
  obtain ⟨l2, hl2'⟩ : ∃ u, u = l + 1 + (x * h.highY - l * h.highX - 1) / h.highX := ⟨_, rfl⟩
  have key : ∀ y, x * h.highY ≤ h.highX * y ↔ l2 ≤ y := by
    intro y
    have c1 := ceil_le (a := x * h.highY - l * h.highX) (b := h.highX) (y := y - l) c'.1
    have e1 : h.highX * (y - l) = h.highX * y - l * h.highX := by rw [Int.mul_sub, Int.mul_comm h.highX l]
    have e2 : (x * h.highY - l * h.highX + h.highX - 1) / h.highX = (x * h.highY - l * h.highX - 1) / h.highX + 1 := by
      rw [show x * h.highY - l * h.highX + h.highX - 1 = x * h.highY - l * h.highX - 1 + h.highX * 1 by omega, Int.add_mul_ediv_left _ _ (by omega)]
    rw [e1, e2] at c1
    constructor
    · intro p
      have := c1.2 (by omega)
      omega
    · intro p
      have := c1.1 (by omega)
      omega
  rw [← hl2']
  have b1 : l2 * h.highX ≤ 9223372036854775807 := by
    have := Int.mul_le_mul (show l2 ≤ 4295000000 by omega) (show h.highX ≤ 65535 by omega) (by omega) (by omega)
    omega
  have b2 : 0 ≤ l2 * h.highX := Int.mul_nonneg (by omega) (by omega)
  have k2 := (key l2).2 (by omega)
  rw [Int.mul_comm h.highX l2] at k2
  exact ⟨⟨d1.1, by omega⟩, key, b2, b1, k2⟩
theorem lo1_bd {h : Hn} (hn : Nrm h) {x : Int} (hx0 : 0 ≤ x) (hx : x ≤ 65535) : lo0 h ≤ lo1 h x ∧ lo1 h x ≤ 1099511000000 := by
  have l := lo0_bd hn
  unfold lo1
  by_cases c : 0 < h.lowX
  · rw [if_pos c]
    by_cases c2 : lo0 h * h.highX < x * h.highY ∧ lo0 h ≤ topP h.maxH
    · rw [if_pos c2]
      have ha := hn.2.resolve_left fun a => by have := a.1; omega
      have s := step_bd ha hx0 hx l.1 l.2.1 c2.1
      omega
    · rw [if_neg c2]; omega
  · rw [if_neg c]; omega
theorem hi1_bd {h : Hn} (hn : Nrm h) {x : Int} (hx0 : 0 ≤ x) (hx : x ≤ 65535) : 0 ≤ hi1 h x ∧ hi1 h x ≤ 65535 := by
  have tb := top_bd hn.1
  unfold hi1
  by_cases c : 0 < h.lowX
  · rw [if_pos c]
    have ha := hn.2.resolve_left fun a => by have := a.1; omega
    obtain ⟨a, b, c, d, e⟩ := ha
    have m2 := mul_bd hx0 hx (b := h.lowY) (by omega) (by omega)
    have d2 := div_bd (a := x * h.lowY) (b := h.lowX) (by omega) (by omega)
    omega
  · rw [if_neg c]; omega
theorem el_hgt {h : Hn} (hn : Nrm h) {x : Int} (hx0 : 0 ≤ x) (hx : x ≤ 65535) (z : Int) : El (lo1 h x) (hi1 h x) h.baseH h.incH z ↔ highP h x z := by
  have l0 := lo0_bd hn
  have l1 := lo1_bd hn hx0 hx
  unfold El highP along asp
  by_cases c : 0 < h.lowX
  · have ha := hn.2.resolve_left fun a => by have := a.1; omega
    obtain ⟨a, b, c', d, e⟩ := id ha
    have c2 := le_floor (a := x * h.lowY) (b := h.lowX) (y := z) a.1
    have eh : hi1 h x = min (topP h.maxH) (x * h.lowY / h.lowX) := by unfold hi1; rw [if_pos c]
    have el : ∀ y, lo0 h ≤ y → y ≤ topP h.maxH → (x * h.highY ≤ h.highX * y ↔ lo1 h x ≤ y) := by
      intro y hy hy2
      unfold lo1
      rw [if_pos c]
      by_cases q : lo0 h * h.highX < x * h.highY ∧ lo0 h ≤ topP h.maxH
      · rw [if_pos q]
        exact (step_bd ha hx0 hx l0.1 l0.2.1 q.1).2.1 y
      · rw [if_neg q]
        have := Int.mul_le_mul_of_nonneg_left hy (show 0 ≤ h.highX by omega)
        rw [Int.mul_comm h.highX (lo0 h)] at this
        exact ⟨fun _ => hy, fun _ => by omega⟩
    have e0 : lo0 h = max h.minH h.baseH := rfl
    rw [eh]
    constructor
    · rintro ⟨p, q, r, s⟩
      exact ⟨⟨by omega, by omega, r, s⟩, Or.inr ⟨c2.1 (by omega), (el z (by omega) (by omega)).2 p⟩⟩
    · rintro ⟨⟨p, q, r, s⟩, u | ⟨u, v⟩⟩
      · omega
      · have := c2.2 u
        exact ⟨(el z (by omega) q).1 v, by omega, r, s⟩
  · have e1 : lo1 h x = max h.minH h.baseH := by unfold lo1; rw [if_neg c]; rfl
    have e2 : hi1 h x = topP h.maxH := by unfold hi1; rw [if_neg c]
    have ha := hn.2.resolve_right fun a => by have := a.1; omega
    rw [e1, e2]
    constructor
    · rintro ⟨p, q, r, s⟩; exact ⟨⟨by omega, q, r, s⟩, Or.inl ha.1⟩
    · rintro ⟨⟨p, q, r, s⟩, _⟩; exact ⟨by omega, q, r, s⟩
theorem hgt_near {h : Hn} (hn : Nrm h) {x t : Int} (hx0 : 0 ≤ x) (hx : x ≤ 65535) : (hgt h x t = 0 ∧ ∀ y, ¬ highP h x y) ∨ (0 < hgt h x t ∧ IsNear (highP h x) t (hgt h x t)) := by
  have q := hn.1
  unfold Nrm0 at q
  have l0 := lo0_bd hn
  have l1 := lo1_bd hn hx0 hx
  rcases tail_near (low := lo1 h x) (high := hi1 h x) (base := h.baseH) (inc := h.incH) (t := t) (v := hgt h x t) (by omega) (by omega) (by omega) rfl with ⟨r1, r2⟩ | ⟨r1, r2⟩
  · exact Or.inl ⟨r1, fun y hy => r2 y ((el_hgt hn hx0 hx y).2 hy)⟩
  · exact Or.inr ⟨r1, IsNear.congr (el_hgt hn hx0 hx) r2⟩

theorem lo1_out {h : Hn} (hn : Nrm h) {x : Int} (hx0 : 0 ≤ x) (hx : x ≤ 65535) (c : 0 < h.lowX) : 0 ≤ lo1 h x * h.highX ∧ lo1 h x * h.highX ≤ 9223372036854775807 ∧ (¬ lo1 h x * h.highX < x * h.highY ∨ (lo1 h x * h.highX < x * h.highY ∧ ¬ lo1 h x ≤ topP h.maxH)) := by
  have l := lo0_bd hn
  have ha := hn.2.resolve_left fun a => by have := a.1; omega
  obtain ⟨a, b, c', d, e⟩ := id ha
  have m2 := mul_bd (show 0 ≤ lo0 h by omega) l.2.1 (b := h.highX) (by omega) (by omega)
  unfold lo1
  rw [if_pos c]
  by_cases q : lo0 h * h.highX < x * h.highY ∧ lo0 h ≤ topP h.maxH
  · rw [if_pos q]
    have s := step_bd ha hx0 hx l.1 l.2.1 q.1
    exact ⟨s.2.2.1, s.2.2.2.1, Or.inl (by omega)⟩
  · rw [if_neg q]
    refine ⟨by omega, by omega, ?_⟩
    by_cases q1 : lo0 h * h.highX < x * h.highY
    · exact Or.inr ⟨q1, fun r => q ⟨q1, r⟩⟩
    · exact Or.inl q1
set_option maxHeartbeats 16000000 in
set_option maxRecDepth 100000 in
theorem c_height {h : Hn} (hn : Nrm h) {x t : Int} (hx0 : 0 ≤ x) (hx : x ≤ 65535) (ht0 : 0 ≤ t) (ht : t ≤ 65535) (W : World) :
    Calls Try.prog 61 #[.agg #[.int .i64 h.minW, .int .i64 h.minH, .int .i64 h.maxW, .int .i64 h.maxH, .int .i64 h.baseW, .int .i64 h.baseH, .int .i64 h.incW, .int .i64 h.incH, .int .i64 h.lowX, .int .i64 h.lowY, .int .i64 h.highX, .int .i64 h.highY], .int .i64 x, .int .i64 t] W fun e w' => e = .returned (.int .i64 (hgt h x t)) ∧ Below W.heap.size W w' := by
  have HN := Aside0.mk hn
  obtain ⟨i1, i2, i3, i4⟩ : 1 ≤ h.incH ∧ h.incH ≤ 65535 ∧ 0 ≤ h.baseH ∧ h.baseH ≤ 65535 := by have q := hn.1; unfold Nrm0 at q; omega
  have tb := top_bd hn.1
  obtain ⟨_, _, tb3, tb4⟩ := tb
  obtain ⟨l01, l02, l03⟩ := lo0_bd hn
  obtain ⟨l11, l12⟩ := lo1_bd hn hx0 hx
  obtain ⟨h11, h12⟩ := hi1_bd hn hx0 hx
  obtain ⟨V, hV⟩ : ∃ v, v = hgt h x t := ⟨_, rfl⟩
  rw [← hV]
  obtain ⟨H0, eH0⟩ : ∃ v, v = topP h.maxH := ⟨_, rfl⟩
  obtain ⟨L0, eL0⟩ : ∃ v, v = lo0 h := ⟨_, rfl⟩
  obtain ⟨L1, eL1⟩ : ∃ v, v = lo1 h x := ⟨_, rfl⟩
  obtain ⟨H1, eH1⟩ : ∃ v, v = hi1 h x := ⟨_, rfl⟩
  rw [← eL0] at l01 l02 l03
  rw [← eL0, ← eL1] at l11
  rw [← eL1] at l12
  rw [← eH0] at tb3 tb4
  rw [← eH1] at h11 h12
  have HV0 := Aside0.mk hV
  have HH0 := Aside0.mk eH0
  have HL0 := Aside0.mk eL0
  have HL1 := Aside0.mk eL1
  have HH1 := Aside0.mk eH1
  clear hn hV eH0 eL0 eL1 eH1
  go_enter Try.func61, Try.ntmps61
  go_wp2_with fail
  go_quiet (fail)
  go_upto_if 14 with fail
  go_cut [8] (fun v8 wc => v8 = .int .i64 H0 ∧ Aside0 (wc.heap[W.heap.size]? = some (.cells #[.int .i64 h.minW, .int .i64 h.minH, .int .i64 h.maxW, .int .i64 h.maxH, .int .i64 h.baseW, .int .i64 h.baseH, .int .i64 h.incW, .int .i64 h.incH, .int .i64 h.lowX, .int .i64 h.lowY, .int .i64 h.highX, .int .i64 h.highY] 25 (0, 0))) ∧ Aside0 (Below W.heap.size W wc))
  case first =>
    have e := HH0.out
    unfold topP at e
    by_cases c : h.maxH = 0
    · rw [if_pos c] at e
      have c2 : (h.maxH == 0) = true := by simp [c]
      clear c
      subst e
      go_wp2_with fail
      go_meet
      exact ⟨rfl, ⟨blk_drewN (blk_new W _) _⟩, ⟨pw_below_drewN (below_alloc (Below.refl _ _) _) _⟩⟩
    · rw [if_neg c] at e
      have c2 : (h.maxH == 0) = false := by simp [c]
      clear c
      have E := Aside0.mk e
      clear e
      go_wp2_with fail
      go_meet
      exact ⟨by rw [E.out], ⟨blk_drewN (blk_new W _) _⟩, ⟨pw_below_drewN (below_alloc (Below.refl _ _) _) _⟩⟩
  case rest =>
    obtain ⟨rfl, B3, HB⟩ := hcut
    have p0 : wc.cell? ⟨W.heap.size, 0, none⟩ = some (.int .i64 (h.minW)) := (blk_cell B3.out 0).trans rfl
    have p1 : wc.cell? ⟨W.heap.size, 1, none⟩ = some (.int .i64 (h.minH)) := (blk_cell B3.out 1).trans rfl
    have p2 : wc.cell? ⟨W.heap.size, 2, none⟩ = some (.int .i64 (h.maxW)) := (blk_cell B3.out 2).trans rfl
    have p3 : wc.cell? ⟨W.heap.size, 3, none⟩ = some (.int .i64 (h.maxH)) := (blk_cell B3.out 3).trans rfl
    have p4 : wc.cell? ⟨W.heap.size, 4, none⟩ = some (.int .i64 (h.baseW)) := (blk_cell B3.out 4).trans rfl
    have p5 : wc.cell? ⟨W.heap.size, 5, none⟩ = some (.int .i64 (h.baseH)) := (blk_cell B3.out 5).trans rfl
    have p6 : wc.cell? ⟨W.heap.size, 6, none⟩ = some (.int .i64 (h.incW)) := (blk_cell B3.out 6).trans rfl
    have p7 : wc.cell? ⟨W.heap.size, 7, none⟩ = some (.int .i64 (h.incH)) := (blk_cell B3.out 7).trans rfl
    have p8 : wc.cell? ⟨W.heap.size, 8, none⟩ = some (.int .i64 (h.lowX)) := (blk_cell B3.out 8).trans rfl
    have p9 : wc.cell? ⟨W.heap.size, 9, none⟩ = some (.int .i64 (h.lowY)) := (blk_cell B3.out 9).trans rfl
    have p10 : wc.cell? ⟨W.heap.size, 10, none⟩ = some (.int .i64 (h.highX)) := (blk_cell B3.out 10).trans rfl
    have p11 : wc.cell? ⟨W.heap.size, 11, none⟩ = some (.int .i64 (h.highY)) := (blk_cell B3.out 11).trans rfl
    go_upto_if 18 with fail
    go_cut [7] (fun v7 wd => v7 = .int .i64 L0 ∧ Aside0 (wd.heap[W.heap.size]? = some (.cells #[.int .i64 h.minW, .int .i64 h.minH, .int .i64 h.maxW, .int .i64 h.maxH, .int .i64 h.baseW, .int .i64 h.baseH, .int .i64 h.incW, .int .i64 h.incH, .int .i64 h.lowX, .int .i64 h.lowY, .int .i64 h.highX, .int .i64 h.highY] 25 (0, 0))) ∧ Aside0 (Below W.heap.size W wd))
    case first =>
      have e := HL0.out
      unfold lo0 at e
      by_cases c : h.minH < h.baseH
      · have E := Aside0.mk (show h.baseH = L0 by omega)
        clear e
        go_wp2_with fail
        go_meet
        exact ⟨by rw [E.out], B3, HB⟩
      · have E := Aside0.mk (show h.minH = L0 by omega)
        clear e
        go_wp2_with fail
        go_meet
        exact ⟨by rw [E.out], B3, HB⟩
    case rest =>
      clear p0 p1 p2 p3 p4 p5 p6 p7 p8 p9 p10 p11
      clear B3 HB
      obtain ⟨rfl, B3, HB⟩ := hcut
      have p0 : wc.cell? ⟨W.heap.size, 0, none⟩ = some (.int .i64 (h.minW)) := (blk_cell B3.out 0).trans rfl
      have p1 : wc.cell? ⟨W.heap.size, 1, none⟩ = some (.int .i64 (h.minH)) := (blk_cell B3.out 1).trans rfl
      have p2 : wc.cell? ⟨W.heap.size, 2, none⟩ = some (.int .i64 (h.maxW)) := (blk_cell B3.out 2).trans rfl
      have p3 : wc.cell? ⟨W.heap.size, 3, none⟩ = some (.int .i64 (h.maxH)) := (blk_cell B3.out 3).trans rfl
      have p4 : wc.cell? ⟨W.heap.size, 4, none⟩ = some (.int .i64 (h.baseW)) := (blk_cell B3.out 4).trans rfl
      have p5 : wc.cell? ⟨W.heap.size, 5, none⟩ = some (.int .i64 (h.baseH)) := (blk_cell B3.out 5).trans rfl
      have p6 : wc.cell? ⟨W.heap.size, 6, none⟩ = some (.int .i64 (h.incW)) := (blk_cell B3.out 6).trans rfl
      have p7 : wc.cell? ⟨W.heap.size, 7, none⟩ = some (.int .i64 (h.incH)) := (blk_cell B3.out 7).trans rfl
      have p8 : wc.cell? ⟨W.heap.size, 8, none⟩ = some (.int .i64 (h.lowX)) := (blk_cell B3.out 8).trans rfl
      have p9 : wc.cell? ⟨W.heap.size, 9, none⟩ = some (.int .i64 (h.lowY)) := (blk_cell B3.out 9).trans rfl
      have p10 : wc.cell? ⟨W.heap.size, 10, none⟩ = some (.int .i64 (h.highX)) := (blk_cell B3.out 10).trans rfl
      have p11 : wc.cell? ⟨W.heap.size, 11, none⟩ = some (.int .i64 (h.highY)) := (blk_cell B3.out 11).trans rfl
      obtain ⟨bb, q23⟩ : ∃ bb : Bool, decide (0 < h.lowX) = bb := ⟨_, rfl⟩
      go_upto_if 23 with fail
      go_cut [7, 8] (fun v7 v8 we => v7 = .int .i64 L1 ∧ v8 = .int .i64 H1 ∧ Aside0 (we.heap[W.heap.size]? = some (.cells #[.int .i64 h.minW, .int .i64 h.minH, .int .i64 h.maxW, .int .i64 h.maxH, .int .i64 h.baseW, .int .i64 h.baseH, .int .i64 h.incW, .int .i64 h.incH, .int .i64 h.lowX, .int .i64 h.lowY, .int .i64 h.highX, .int .i64 h.highY] 25 (0, 0))) ∧ Aside0 (Below W.heap.size W we))
      case first =>
        cases bb
        rotate_left
        · have c : 0 < h.lowX := of_decide_eq_true q23
          have ha := HN.out.2.resolve_left fun a => by have := a.1; omega
          obtain ⟨⟨a1, a2⟩, ⟨a3, a4⟩, ⟨a5, a6⟩, ⟨a7, a8⟩, _⟩ := id ha
          obtain ⟨b1, b2⟩ := mul_bd hx0 hx (b := h.highY) (by omega) (by omega)
          obtain ⟨b3, b4⟩ := mul_bd hx0 hx (b := h.lowY) (by omega) (by omega)
          obtain ⟨b5, b6⟩ := mul_bd (show 0 ≤ L0 by omega) l02 (b := h.highX) (by omega) (by omega)
          obtain ⟨b7, b8⟩ := div_bd (a := x * h.lowY) (b := h.lowX) (by omega) (by omega)
          have z1 : ¬ h.lowX = 0 := by omega
          have z2 : (h.lowX == 0) = false := by simp; omega
          have z3 : (h.highX == 0) = false := by simp; omega
          have z4 : ¬ h.highX = 0 := by omega
          obtain ⟨o1, o2, o3⟩ := lo1_out HN.out hx0 hx c
          rw [← HL1.out] at o1 o2 o3
          rw [← HH0.out] at o3
          have O3 := Aside0.mk o3
          have EH : H1 = min H0 (x * h.lowY / h.lowX) := by rw [HH1.out, HH0.out]; unfold hi1; rw [if_pos c]
          replace EH := Aside0.mk EH
          have hg0 : ∃ g0 : Nat, (g0 = 1 ∧ (L0 * h.highX < x * h.highY ∧ L0 ≤ H0) ∧ L1 = L0 + 1 + (x * h.highY - L0 * h.highX - 1) / h.highX ∧ 0 ≤ (x * h.highY - L0 * h.highX - 1) / h.highX ∧ (x * h.highY - L0 * h.highX - 1) / h.highX ≤ 4294836225) ∨ (g0 = 0 ∧ L0 = L1) := by
            by_cases q : L0 * h.highX < x * h.highY ∧ L0 ≤ H0
            · have s := step_bd ha hx0 hx l01 l02 q.1
              refine ⟨1, Or.inl ⟨rfl, q, ?_, s.1.1, s.1.2⟩⟩
              rw [HL1.out]; unfold lo1; rw [if_pos c, ← HL0.out, ← HH0.out, if_pos q]
            · refine ⟨0, Or.inr ⟨rfl, ?_⟩⟩
              rw [HL1.out]; unfold lo1; rw [if_pos c, ← HL0.out, ← HH0.out, if_neg q]
          obtain ⟨g0, hg0⟩ := hg0
          have G0 := Aside0.mk hg0
          clear c ha hg0 o3
          go_wp2_with fail
          go_loopg [7] g0 (fun gk v7 wr => ∃ l : Int, v7 = .int .i64 l ∧ Aside0 (((gk = 1 ∧ l = L0) ∧ (L0 * h.highX < x * h.highY ∧ L0 ≤ H0) ∧ L1 = L0 + 1 + (x * h.highY - L0 * h.highX - 1) / h.highX ∧ 0 ≤ (x * h.highY - L0 * h.highX - 1) / h.highX ∧ (x * h.highY - L0 * h.highX - 1) / h.highX ≤ 4294836225) ∨ (gk = 0 ∧ l = L1)) ∧ Aside0 (wr.heap[W.heap.size]? = some (.cells #[.int .i64 h.minW, .int .i64 h.minH, .int .i64 h.maxW, .int .i64 h.maxH, .int .i64 h.baseW, .int .i64 h.baseH, .int .i64 h.incW, .int .i64 h.incH, .int .i64 h.lowX, .int .i64 h.lowY, .int .i64 h.highX, .int .i64 h.highY] 25 (0, 0))) ∧ Aside0 (Below W.heap.size W wr))
          case atStart =>
            refine ⟨L0, rfl, ⟨?_⟩, B3, HB⟩
            rcases G0.out with ⟨r1, r2⟩ | ⟨r1, r2⟩
            · exact Or.inl ⟨⟨r1, rfl⟩, r2⟩
            · exact Or.inr ⟨r1, r2⟩
          case round =>
            clear p0 p1 p2 p3 p4 p5 p6 p7 p8 p9 p10 p11
            clear B3 HB G0
            obtain ⟨l, rfl, H, B3, HB⟩ := hrel
            have p0 : wr.cell? ⟨W.heap.size, 0, none⟩ = some (.int .i64 (h.minW)) := (blk_cell B3.out 0).trans rfl
            have p1 : wr.cell? ⟨W.heap.size, 1, none⟩ = some (.int .i64 (h.minH)) := (blk_cell B3.out 1).trans rfl
            have p2 : wr.cell? ⟨W.heap.size, 2, none⟩ = some (.int .i64 (h.maxW)) := (blk_cell B3.out 2).trans rfl
            have p3 : wr.cell? ⟨W.heap.size, 3, none⟩ = some (.int .i64 (h.maxH)) := (blk_cell B3.out 3).trans rfl
            have p4 : wr.cell? ⟨W.heap.size, 4, none⟩ = some (.int .i64 (h.baseW)) := (blk_cell B3.out 4).trans rfl
            have p5 : wr.cell? ⟨W.heap.size, 5, none⟩ = some (.int .i64 (h.baseH)) := (blk_cell B3.out 5).trans rfl
            have p6 : wr.cell? ⟨W.heap.size, 6, none⟩ = some (.int .i64 (h.incW)) := (blk_cell B3.out 6).trans rfl
            have p7 : wr.cell? ⟨W.heap.size, 7, none⟩ = some (.int .i64 (h.incH)) := (blk_cell B3.out 7).trans rfl
            have p8 : wr.cell? ⟨W.heap.size, 8, none⟩ = some (.int .i64 (h.lowX)) := (blk_cell B3.out 8).trans rfl
            have p9 : wr.cell? ⟨W.heap.size, 9, none⟩ = some (.int .i64 (h.lowY)) := (blk_cell B3.out 9).trans rfl
            have p10 : wr.cell? ⟨W.heap.size, 10, none⟩ = some (.int .i64 (h.highX)) := (blk_cell B3.out 10).trans rfl
            have p11 : wr.cell? ⟨W.heap.size, 11, none⟩ = some (.int .i64 (h.highY)) := (blk_cell B3.out 11).trans rfl
            rcases H.out with ⟨⟨r1, rfl⟩, ⟨r2, r3⟩, r4, r5, r6⟩ | ⟨r1, rfl⟩
            · have R4 := Aside0.mk r4
              clear H r4
              go_wp2_with fail
              go_roundg 0
              case measure => omega
              case rel => exact ⟨_, rfl, ⟨Or.inr ⟨rfl, R4.out.symm⟩⟩, B3, HB⟩
            · clear H
              rcases O3.out with t1 | ⟨t1, t2⟩ <;> by_cases f : x * h.lowY / h.lowX < H0
              all_goals
                first
                  | (have E8 := Aside0.mk (show x * h.lowY / h.lowX = H1 by have := EH.out; omega); have f2 : decide (x * h.lowY / h.lowX < H0) = true := decide_eq_true f)
                  | (have E8 := Aside0.mk (show H0 = H1 by have := EH.out; omega); have f2 : decide (x * h.lowY / h.lowX < H0) = false := decide_eq_false f)
                clear f r1
                go_wp2_with fail
                go_meet
                exact ⟨rfl, by rw [E8.out], B3, HB⟩
        · have c : ¬ 0 < h.lowX := of_decide_eq_false q23
          have E7 := Aside0.mk (show L0 = L1 by rw [HL0.out, HL1.out]; unfold lo1; rw [if_neg c])
          have E8 := Aside0.mk (show H0 = H1 by rw [HH0.out, HH1.out]; unfold hi1; rw [if_neg c])
          clear c
          go_wp2_with fail
          go_meet
          exact ⟨by rw [E7.out], by rw [E8.out], B3, HB⟩
      case rest =>
        clear p0 p1 p2 p3 p4 p5 p6 p7 p8 p9 p10 p11
        clear B3 HB
        obtain ⟨rfl, rfl, B3, HB⟩ := hcut
        have HV1 := Aside0.mk (show V = if upV L1 h.baseH h.incH > H1 then 0 else if t < upV L1 h.baseH h.incH then upV L1 h.baseH h.incH else if t > H1 then H1 - (H1 - upV L1 h.baseH h.incH) % h.incH else t - (t - upV L1 h.baseH h.incH) % h.incH by rw [HV0.out, HL1.out, HH1.out]; rfl)
        obtain ⟨_, u2, u3, _⟩ := up_grid (low := L1) (base := h.baseH) (inc := h.incH) (by omega) (by omega)
        obtain ⟨m1, m2⟩ := emod_bd (L1 - h.baseH) i1
        have HU0 := Aside0.mk (show upV L1 h.baseH h.incH = if (L1 - h.baseH) % h.incH = 0 then L1 else L1 + h.incH - (L1 - h.baseH) % h.incH from rfl)
        obtain ⟨U, hU⟩ : ∃ u, u = upV L1 h.baseH h.incH := ⟨_, rfl⟩
        rw [← hU] at u2 u3 HV1 HU0
        clear hU HL1 HL0 HH1 HH0 HV0 HN
        have z5 : (h.incH == 0) = false := by simp; omega
        have z6 : ¬ h.incH = 0 := by omega
        have p0 : wc.cell? ⟨W.heap.size, 0, none⟩ = some (.int .i64 (h.minW)) := (blk_cell B3.out 0).trans rfl
        have p1 : wc.cell? ⟨W.heap.size, 1, none⟩ = some (.int .i64 (h.minH)) := (blk_cell B3.out 1).trans rfl
        have p2 : wc.cell? ⟨W.heap.size, 2, none⟩ = some (.int .i64 (h.maxW)) := (blk_cell B3.out 2).trans rfl
        have p3 : wc.cell? ⟨W.heap.size, 3, none⟩ = some (.int .i64 (h.maxH)) := (blk_cell B3.out 3).trans rfl
        have p4 : wc.cell? ⟨W.heap.size, 4, none⟩ = some (.int .i64 (h.baseW)) := (blk_cell B3.out 4).trans rfl
        have p5 : wc.cell? ⟨W.heap.size, 5, none⟩ = some (.int .i64 (h.baseH)) := (blk_cell B3.out 5).trans rfl
        have p6 : wc.cell? ⟨W.heap.size, 6, none⟩ = some (.int .i64 (h.incW)) := (blk_cell B3.out 6).trans rfl
        have p7 : wc.cell? ⟨W.heap.size, 7, none⟩ = some (.int .i64 (h.incH)) := (blk_cell B3.out 7).trans rfl
        have p8 : wc.cell? ⟨W.heap.size, 8, none⟩ = some (.int .i64 (h.lowX)) := (blk_cell B3.out 8).trans rfl
        have p9 : wc.cell? ⟨W.heap.size, 9, none⟩ = some (.int .i64 (h.lowY)) := (blk_cell B3.out 9).trans rfl
        have p10 : wc.cell? ⟨W.heap.size, 10, none⟩ = some (.int .i64 (h.highX)) := (blk_cell B3.out 10).trans rfl
        have p11 : wc.cell? ⟨W.heap.size, 11, none⟩ = some (.int .i64 (h.highY)) := (blk_cell B3.out 11).trans rfl
        go_upto_if 77 with fail
        go_cut [7] (fun v7 wf => v7 = .int .i64 U ∧ Aside0 (wf.heap[W.heap.size]? = some (.cells #[.int .i64 h.minW, .int .i64 h.minH, .int .i64 h.maxW, .int .i64 h.maxH, .int .i64 h.baseW, .int .i64 h.baseH, .int .i64 h.incW, .int .i64 h.incH, .int .i64 h.lowX, .int .i64 h.lowY, .int .i64 h.highX, .int .i64 h.highY] 25 (0, 0))) ∧ Aside0 (Below W.heap.size W wf))
        case first =>
          by_cases c : (L1 - h.baseH) % h.incH = 0
          · have E := Aside0.mk (show L1 = U by rw [HU0.out, if_pos c])
            have c2 : ((L1 - h.baseH) % h.incH != 0) = false := by simp [c]
            have c3 : ((L1 - h.baseH) % h.incH == 0) = true := by simp [c]
            clear c
            go_wp2_with fail
            go_meet
            exact ⟨by rw [E.out], B3, HB⟩
          · have E := Aside0.mk (show L1 + h.incH - (L1 - h.baseH) % h.incH = U by rw [HU0.out, if_neg c])
            have c2 : ((L1 - h.baseH) % h.incH != 0) = true := by simp [c]
            have c3 : ((L1 - h.baseH) % h.incH == 0) = false := by simp [c]
            clear c
            go_wp2_with fail
            go_quiet (fail)
            go_wp2_with fail
            go_meet
            exact ⟨by rw [E.out], ⟨blk_drewN B3.out _⟩, ⟨pw_below_drewN HB.out _⟩⟩
        case rest =>
          clear p0 p1 p2 p3 p4 p5 p6 p7 p8 p9 p10 p11
          clear B3 HB
          obtain ⟨rfl, B3, HB⟩ := hcut
          have p0 : wc.cell? ⟨W.heap.size, 0, none⟩ = some (.int .i64 (h.minW)) := (blk_cell B3.out 0).trans rfl
          have p1 : wc.cell? ⟨W.heap.size, 1, none⟩ = some (.int .i64 (h.minH)) := (blk_cell B3.out 1).trans rfl
          have p2 : wc.cell? ⟨W.heap.size, 2, none⟩ = some (.int .i64 (h.maxW)) := (blk_cell B3.out 2).trans rfl
          have p3 : wc.cell? ⟨W.heap.size, 3, none⟩ = some (.int .i64 (h.maxH)) := (blk_cell B3.out 3).trans rfl
          have p4 : wc.cell? ⟨W.heap.size, 4, none⟩ = some (.int .i64 (h.baseW)) := (blk_cell B3.out 4).trans rfl
          have p5 : wc.cell? ⟨W.heap.size, 5, none⟩ = some (.int .i64 (h.baseH)) := (blk_cell B3.out 5).trans rfl
          have p6 : wc.cell? ⟨W.heap.size, 6, none⟩ = some (.int .i64 (h.incW)) := (blk_cell B3.out 6).trans rfl
          have p7 : wc.cell? ⟨W.heap.size, 7, none⟩ = some (.int .i64 (h.incH)) := (blk_cell B3.out 7).trans rfl
          have p8 : wc.cell? ⟨W.heap.size, 8, none⟩ = some (.int .i64 (h.lowX)) := (blk_cell B3.out 8).trans rfl
          have p9 : wc.cell? ⟨W.heap.size, 9, none⟩ = some (.int .i64 (h.lowY)) := (blk_cell B3.out 9).trans rfl
          have p10 : wc.cell? ⟨W.heap.size, 10, none⟩ = some (.int .i64 (h.highX)) := (blk_cell B3.out 10).trans rfl
          have p11 : wc.cell? ⟨W.heap.size, 11, none⟩ = some (.int .i64 (h.highY)) := (blk_cell B3.out 11).trans rfl
          have e := HV1.out
          clear HV1
          by_cases c1 : H1 < U
          · rw [if_pos c1] at e
            subst e
            go_wp2
            go_ret
            exact ⟨rfl, HB.out⟩
          rw [if_neg c1] at e
          by_cases c2 : t < U
          · rw [if_pos c2] at e
            subst e
            go_wp2
            go_ret
            exact ⟨rfl, HB.out⟩
          rw [if_neg c2] at e
          obtain ⟨n1, n2⟩ := emod_bd (H1 - U) i1
          obtain ⟨n3, n4⟩ := emod_bd (t - U) i1
          by_cases c3 : H1 < t
          · rw [if_pos c3] at e
            subst e
            go_wp2
            go_ret
            exact ⟨rfl, HB.out⟩
          rw [if_neg c3] at e
          subst e
          go_wp2
          go_ret
          exact ⟨rfl, HB.out⟩
end Go.Proofs.Ytajpnmiblepmkaa.Sz
