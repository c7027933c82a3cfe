/- Sizes by hints, over plain whole numbers: what the chapter says, without Go and without memory. -/
import Derived.RowKit
namespace Go.Proofs.Ytajpnmiblepmkaa.Sz
open Go.RowKit
set_option linter.unusedVariables false
set_option linter.unusedSimpArgs false

structure Hn where
  minW : Int
  minH : Int
  maxW : Int
  maxH : Int
  baseW : Int
  baseH : Int
  incW : Int
  incH : Int
  lowX : Int
  lowY : Int
  highX : Int
  highY : Int

/-- The place of a set that is nearest to a number: from below, or else from above. -/
def IsNear (P : Int → Prop) (t y : Int) : Prop := P y ∧ ((y ≤ t ∧ ∀ z, P z → z ≤ t → z ≤ y) ∨ (t < y ∧ ∀ z, P z → t < z ∧ y ≤ z))

theorem IsNear.uniq {P : Int → Prop} {t y y' : Int} (h : IsNear P t y) (h' : IsNear P t y') : y = y' := by
  obtain ⟨p, h⟩ := h
  obtain ⟨p', h'⟩ := h'
  rcases h with ⟨a, b⟩ | ⟨a, b⟩ <;> rcases h' with ⟨a', b'⟩ | ⟨a', b'⟩
  · have := b _ p' a'; have := b' _ p a; omega
  · have := b' _ p; omega
  · have := b _ p'; omega
  · have := b _ p'; have := b' _ p; omega
theorem IsNear.congr {P Q : Int → Prop} (h : ∀ z, P z ↔ Q z) {t y : Int} (hn : IsNear P t y) : IsNear Q t y := by
  have : P = Q := funext fun z => propext (h z)
  rw [← this]; exact hn
theorem IsNear.self {P : Int → Prop} {t : Int} (h : P t) : IsNear P t t := ⟨h, Or.inl ⟨Int.le_refl _, fun z _ q => q⟩⟩
theorem greatest {P : Int → Prop} (t : Int) : ∀ (n : Nat) (z : Int), P z → z ≤ t → t - z ≤ n → ∃ y, P y ∧ y ≤ t ∧ ∀ z, P z → z ≤ t → z ≤ y
  | 0, z, hp, h1, h2 => ⟨z, hp, h1, fun z' _ _ => by omega⟩
  | n + 1, z, hp, h1, h2 => by
    by_cases h : ∃ z', P z' ∧ z' ≤ t ∧ z < z'
    · obtain ⟨z', hp', h1', h3⟩ := h
      exact greatest t n z' hp' h1' (by omega)
    · refine ⟨z, hp, h1, fun z' p' q' => ?_⟩
      by_cases q : z < z'
      · exact absurd ⟨z', p', q', q⟩ h
      · omega
theorem smallest {P : Int → Prop} (t : Int) : ∀ (n : Nat) (z : Int), P z → t < z → z - t ≤ n → ∃ y, P y ∧ t < y ∧ ∀ z, P z → t < z → y ≤ z
  | 0, z, hp, h1, h2 => by omega
  | n + 1, z, hp, h1, h2 => by
    by_cases h : ∃ z', P z' ∧ t < z' ∧ z' < z
    · obtain ⟨z', hp', h1', h3⟩ := h
      exact smallest t n z' hp' h1' (by omega)
    · refine ⟨z, hp, h1, fun z' p' q' => ?_⟩
      by_cases q : z' < z
      · exact absurd ⟨z', p', q', q⟩ h
      · omega
theorem IsNear.ex {P : Int → Prop} (t : Int) (h : ∃ z, P z) : ∃ y, IsNear P t y := by
  by_cases g : ∃ z, P z ∧ z ≤ t
  · obtain ⟨z, p, q⟩ := g
    obtain ⟨y, a, b, c⟩ := greatest t (t - z).toNat z p q (by omega)
    exact ⟨y, a, Or.inl ⟨b, c⟩⟩
  · obtain ⟨z, p⟩ := h
    have q : ∀ z, P z → t < z := fun z p => by
      by_cases q : z ≤ t
      · exact absurd ⟨z, p, q⟩ g
      · omega
    obtain ⟨y, a, b, c⟩ := smallest t (z - t).toNat z p (q z p) (by omega)
    exact ⟨y, a, Or.inr ⟨b, fun z p => ⟨q z p, c z p (q z p)⟩⟩⟩

def topP (m : Int) : Int := if m = 0 then 65535 else m
def along (n least most base inc : Int) : Prop := least ≤ n ∧ n ≤ topP most ∧ base ≤ n ∧ (n - base) % inc = 0
def asp (h : Hn) (x y : Int) : Prop := h.lowX = 0 ∨ (h.lowX * y ≤ x * h.lowY ∧ x * h.highY ≤ h.highX * y)
def wideP (h : Hn) (x : Int) : Prop := along x h.minW h.maxW h.baseW h.incW
def highP (h : Hn) (x y : Int) : Prop := along y h.minH h.maxH h.baseH h.incH ∧ asp h x y
def goodP (h : Hn) (x y : Int) : Prop := 1 ≤ x ∧ 1 ≤ y ∧ x ≤ 65535 ∧ y ≤ 65535 ∧ wideP h x ∧ highP h x y
/-- Hints without their aspects in range. -/
def Nrm0 (h : Hn) : Prop := (1 ≤ h.minW ∧ h.minW ≤ 65535) ∧ (1 ≤ h.minH ∧ h.minH ≤ 65535) ∧ (1 ≤ h.incW ∧ h.incW ≤ 65535) ∧ (1 ≤ h.incH ∧ h.incH ≤ 65535) ∧ (0 ≤ h.baseW ∧ h.baseW ≤ 65535) ∧ (0 ≤ h.baseH ∧ h.baseH ≤ 65535) ∧ (h.maxW = 0 ∨ h.minW ≤ h.maxW ∧ h.maxW ≤ 65535) ∧ (h.maxH = 0 ∨ h.minH ≤ h.maxH ∧ h.maxH ≤ 65535)
def Asp0 (h : Hn) : Prop := h.lowX = 0 ∧ h.lowY = 0 ∧ h.highX = 0 ∧ h.highY = 0
def Asp1 (h : Hn) : Prop := (1 ≤ h.lowX ∧ h.lowX ≤ 65535) ∧ (1 ≤ h.lowY ∧ h.lowY ≤ 65535) ∧ (1 ≤ h.highX ∧ h.highX ≤ 65535) ∧ (1 ≤ h.highY ∧ h.highY ≤ 65535) ∧ h.lowX * h.highY ≤ h.highX * h.lowY
def Nrm (h : Hn) : Prop := Nrm0 h ∧ (Asp0 h ∨ Asp1 h)
def Found (h : Hn) (w t x y : Int) : Prop := IsNear (fun x => wideP h x ∧ ∃ y, highP h x y) w x ∧ IsNear (highP h x) t y
def Nil (h : Hn) : Prop := ∀ x, wideP h x → ∀ y, ¬ highP h x y

theorem Nrm0.wide {h : Hn} (hn : Nrm0 h) {x : Int} (hw : wideP h x) : 1 ≤ x ∧ x ≤ 65535 := by
  unfold Nrm0 at hn; unfold wideP along topP at hw
  split at hw <;> omega
theorem Nrm0.high {h : Hn} (hn : Nrm0 h) {x y : Int} (hw : highP h x y) : 1 ≤ y ∧ y ≤ 65535 := by
  unfold Nrm0 at hn; unfold highP along topP at hw
  obtain ⟨hw, _⟩ := hw
  split at hw <;> omega
theorem Found.uniq {h : Hn} {w t x y x' y' : Int} (f : Found h w t x y) (f' : Found h w t x' y') : x = x' ∧ y = y' := by
  obtain ⟨a, b⟩ := f
  obtain ⟨a', b'⟩ := f'
  obtain rfl := a.uniq a'
  exact ⟨rfl, b.uniq b'⟩
theorem Found.good {h : Hn} (hn : Nrm0 h) {w t x y : Int} (f : Found h w t x y) : goodP h x y := by
  obtain ⟨⟨⟨a, _⟩, _⟩, ⟨b, _⟩⟩ := f
  have := hn.wide a
  have := hn.high b
  exact ⟨by omega, by omega, by omega, by omega, a, b⟩
theorem Found.ex {h : Hn} (w t : Int) (g : ¬ Nil h) : ∃ x y, Found h w t x y := by
  have g' : ∃ x, wideP h x ∧ ∃ y, highP h x y := by
    apply Classical.byContradiction
    intro q
    exact g fun x hx y hy => q ⟨x, hx, y, hy⟩
  obtain ⟨x, a⟩ := IsNear.ex w g'
  obtain ⟨y, b⟩ := IsNear.ex t a.1.2
  exact ⟨x, y, a, b⟩
theorem Found.self {h : Hn} {w t : Int} (g : goodP h w t) : Found h w t w t := by
  obtain ⟨_, _, _, _, a, b⟩ := g
  exact ⟨IsNear.self ⟨a, t, b⟩, IsNear.self b⟩

open Classical in
noncomputable def best (h : Hn) (w t : Int) : Int × Int × Bool := if e : ∃ p : Int × Int, Found h w t p.1 p.2 then (e.choose.1, e.choose.2, true) else (0, 0, false)
theorem best_of {h : Hn} {w t x y : Int} (f : Found h w t x y) : best h w t = (x, y, true) := by
  have e : ∃ p : Int × Int, Found h w t p.1 p.2 := ⟨(x, y), f⟩
  unfold best
  rw [dif_pos e]
  have := e.choose_spec.uniq f
  rw [this.1, this.2]
theorem best_none {h : Hn} {w t : Int} (f : Nil h) : best h w t = (0, 0, false) := by
  unfold best
  rw [dif_neg]
  rintro ⟨p, q, _⟩
  obtain ⟨a, y, b⟩ := q.1
  exact f _ a y b
theorem best_some {h : Hn} (w t : Int) (g : ¬ Nil h) : ∃ x y, Found h w t x y ∧ best h w t = (x, y, true) := by
  obtain ⟨x, y, f⟩ := Found.ex w t g
  exact ⟨x, y, f, best_of f⟩

/- Grids. -/
theorem grid_mul {c z : Int} (h : z % c = 0) : c * (z / c) = z := by
  have := Int.mul_ediv_add_emod z c; omega
theorem grid_down {k c : Int} (hc : 1 ≤ c) (hk : 0 ≤ k) : (k - k % c) % c = 0 ∧ 0 ≤ k - k % c ∧ k - k % c ≤ k ∧ ∀ z, z % c = 0 → z ≤ k → z ≤ k - k % c := by
  have e := Int.mul_ediv_add_emod k c
  have e2 : k - k % c = c * (k / c) := by omega
  have m0 := Int.emod_nonneg k (show c ≠ 0 by omega)
  have q0 := Int.ediv_nonneg hk (show 0 ≤ c by omega)
  have p0 := Int.mul_nonneg (show 0 ≤ c by omega) q0
  refine ⟨by rw [e2]; exact Int.mul_emod_right _ _, by omega, by omega, fun z hz hl => ?_⟩
  have g := grid_mul hz
  have l := Int.ediv_le_ediv (show 0 < c by omega) hl
  have := Int.mul_le_mul_of_nonneg_left l (show 0 ≤ c by omega)
  omega
theorem grid_up {k c : Int} (hc : 1 ≤ c) (hk : 0 ≤ k) : ((k + c - 1) / c * c) % c = 0 ∧ k ≤ (k + c - 1) / c * c ∧ (k + c - 1) / c * c ≤ k + c - 1 ∧ ∀ z, z % c = 0 → k ≤ z → (k + c - 1) / c * c ≤ z := by
  have e := Int.mul_ediv_add_emod (k + c - 1) c
  have m0 := Int.emod_nonneg (k + c - 1) (show c ≠ 0 by omega)
  have m1 := Int.emod_lt_of_pos (k + c - 1) (show 0 < c by omega)
  rw [Int.mul_comm] at e
  refine ⟨Int.mul_emod_left _ _, by omega, by omega, fun z hz hl => ?_⟩
  have g := grid_mul hz
  have l := Int.ediv_le_ediv (show 0 < c by omega) (show k + c - 1 ≤ z + (c - 1) by omega)
  have l2 : (z + (c - 1)) / c = z / c := by
    rw [← g, Int.add_comm, Int.add_mul_ediv_left _ _ (show c ≠ 0 by omega), Int.ediv_eq_zero_of_lt (by omega) (by omega), g]; omega
  rw [l2] at l
  have := Int.mul_le_mul_of_nonneg_left l (show 0 ≤ c by omega)
  rw [Int.mul_comm]
  omega
theorem ceil_le {a b y : Int} (hb : 1 ≤ b) : (a + b - 1) / b ≤ y ↔ a ≤ b * y := by
  have : (a + b - 1) / b ≤ y ↔ (a + b - 1) / b < y + 1 := by omega
  rw [this, Int.ediv_lt_iff_lt_mul (by omega), Int.add_mul, Int.mul_comm y b]
  omega
theorem le_floor {a b y : Int} (hb : 1 ≤ b) : y ≤ a / b ↔ b * y ≤ a := by
  rw [Int.le_ediv_iff_mul_le (by omega), Int.mul_comm]

/- The spans of the program. -/
def El (least most base inc z : Int) : Prop := least ≤ z ∧ z ≤ most ∧ base ≤ z ∧ (z - base) % inc = 0
def lastV (most base inc n : Int) : Int := min n most - (min n most - base) % inc
def firstV (least base inc n : Int) : Int := base + (max (max n least) base - base + inc - 1) / inc * inc
theorem last_yes {least most base inc n : Int} (hi : 1 ≤ inc) (hb : base ≤ min n most) (hl : least ≤ lastV most base inc n) :
    El least most base inc (lastV most base inc n) ∧ lastV most base inc n ≤ n ∧ ∀ z, El least most base inc z → z ≤ n → z ≤ lastV most base inc n := by
  have g := grid_down (k := min n most - base) hi (by omega)
  obtain ⟨g1, g2, g3, g4⟩ := g
  unfold lastV at *
  have e : min n most - (min n most - base) % inc - base = min n most - base - (min n most - base) % inc := by omega
  refine ⟨⟨hl, by omega, by omega, by rw [e]; exact g1⟩, by omega, fun z hz hn => ?_⟩
  have := g4 (z - base) hz.2.2.2 (by have := hz.2.1; omega)
  omega
theorem last_no {least most base inc n : Int} (hi : 1 ≤ inc) (h : ¬ base ≤ min n most ∨ ¬ least ≤ lastV most base inc n) (z : Int) (hz : El least most base inc z) : n < z := by
  obtain ⟨z1, z2, z3, z4⟩ := hz
  apply Classical.byContradiction
  intro q
  rcases h with h | h
  · omega
  · by_cases hb : base ≤ min n most
    · have g := grid_down (k := min n most - base) hi (by omega)
      have := g.2.2.2 (z - base) z4 (by omega)
      unfold lastV at h
      omega
    · omega
theorem first_yes {least most base inc n : Int} (hi : 1 ≤ inc) (h : firstV least base inc n ≤ most) :
    El least most base inc (firstV least base inc n) ∧ n ≤ firstV least base inc n ∧ ∀ z, El least most base inc z → n ≤ z → firstV least base inc n ≤ z := by
  have g := grid_up (k := max (max n least) base - base) hi (by omega)
  obtain ⟨g1, g2, g3, g4⟩ := g
  unfold firstV at *
  refine ⟨⟨by omega, h, by omega, by rw [show base + (max (max n least) base - base + inc - 1) / inc * inc - base = (max (max n least) base - base + inc - 1) / inc * inc by omega]; exact g1⟩, by omega, fun z hz hn => ?_⟩
  have := g4 (z - base) hz.2.2.2 (by have := hz.1; have := hz.2.2.1; omega)
  omega
theorem first_no {least most base inc n : Int} (hi : 1 ≤ inc) (h : ¬ firstV least base inc n ≤ most) (z : Int) (hz : El least most base inc z) : z < n := by
  obtain ⟨z1, z2, z3, z4⟩ := hz
  apply Classical.byContradiction
  intro q
  have g := grid_up (k := max (max n least) base - base) hi (by omega)
  have := g.2.2.2 (z - base) z4 (by omega)
  unfold firstV at h
  omega
/-- The bounds of the heights beside a width. -/
def lowV (h : Hn) (x : Int) : Int := if h.lowX > 0 then max h.minH ((x * h.highY + h.highX - 1) / h.highX) else h.minH
def mostV (h : Hn) (x : Int) : Int := if h.lowX > 0 then min (topP h.maxH) (x * h.lowY / h.lowX) else topP h.maxH
theorem el_high {h : Hn} (ha : Asp0 h ∨ Asp1 h) (x y : Int) : El (lowV h x) (mostV h x) h.baseH h.incH y ↔ highP h x y := by
  unfold El lowV mostV highP along asp
  rcases ha with ha | ha
  · obtain ⟨a, b, c, d⟩ := ha
    rw [if_neg (by omega), if_neg (by omega)]
    simp [a]
  · obtain ⟨a, b, c, d, e⟩ := ha
    rw [if_pos (by omega), if_pos (by omega)]
    have c1 := ceil_le (a := x * h.highY) (b := h.highX) (y := y) c.1
    have c2 := le_floor (a := x * h.lowY) (b := h.lowX) (y := y) a.1
    have n0 : ¬ h.lowX = 0 := by omega
    constructor
    · rintro ⟨p, q, r, s⟩
      exact ⟨⟨by omega, by omega, r, s⟩, Or.inr ⟨c2.1 (by omega), c1.1 (by omega)⟩⟩
    · rintro ⟨⟨p, q, r, s⟩, t | ⟨t, u⟩⟩
      · exact absurd t n0
      · have := c1.2 u; have := c2.2 t
        exact ⟨by omega, by omega, r, s⟩
theorem el_wide (h : Hn) (x : Int) : El h.minW (topP h.maxW) h.baseW h.incW x ↔ wideP h x := Iff.rfl
/-- Near: from below, or else from above. -/
theorem near_last {least most base inc n : Int} (hi : 1 ≤ inc) (hb : base ≤ min n most) (hl : least ≤ lastV most base inc n) : IsNear (El least most base inc) n (lastV most base inc n) :=
  have h := last_yes hi hb hl
  ⟨h.1, Or.inl ⟨h.2.1, h.2.2⟩⟩
theorem near_first {least most base inc n : Int} (hi : 1 ≤ inc) (h : ¬ base ≤ min n most ∨ ¬ least ≤ lastV most base inc n) (hf : firstV least base inc n ≤ most) : IsNear (El least most base inc) n (firstV least base inc n) :=
  have g := first_yes hi hf
  ⟨g.1, Or.inr ⟨last_no hi h _ g.1, fun z hz => ⟨last_no hi h z hz, g.2.2 z hz (by have := last_no hi h z hz; omega)⟩⟩⟩
theorem near_none {least most base inc n : Int} (hi : 1 ≤ inc) (h : ¬ base ≤ min n most ∨ ¬ least ≤ lastV most base inc n) (hf : ¬ firstV least base inc n ≤ most) (z : Int) : ¬ El least most base inc z := fun hz => by
  have := last_no hi h z hz
  have := first_no hi hf z hz
  omega

/- Normal hints. -/
def spanI (v l m : Int) : Int := max l (min v m)
def boundI (n least : Int) : Int := if n ≤ 0 then 0 else spanI n least 65535
def span0 (h : Hn) : Hn := ⟨spanI h.minW 1 65535, spanI h.minH 1 65535, boundI h.maxW (spanI h.minW 1 65535), boundI h.maxH (spanI h.minH 1 65535), spanI h.baseW 0 65535, spanI h.baseH 0 65535, spanI h.incW 1 65535, spanI h.incH 1 65535, h.lowX, h.lowY, h.highX, h.highY⟩
def free0 (h : Hn) : Hn := ⟨h.minW, h.minH, h.maxW, h.maxH, h.baseW, h.baseH, h.incW, h.incH, 0, 0, 0, 0⟩
def free1 (h : Hn) : Hn := ⟨h.minW, h.minH, h.maxW, h.maxH, 0, 0, 1, 1, 0, 0, 0, 0⟩
open Classical in
noncomputable def norm1 (h : Hn) : Hn := if Asp1 h then h else free0 h
open Classical in
noncomputable def norm2 (h : Hn) : Hn := if ¬ Nil (norm1 h) then norm1 h else if ¬ Nil (free0 h) then free0 h else free1 h
noncomputable def normal (h : Hn) : Hn := norm2 (span0 h)
noncomputable def fit (h : Hn) (w t : Int) : Int × Int × Bool := best (normal h) (spanI w 0 65535) (spanI t 0 65535)

theorem span0_nrm (h : Hn) : Nrm0 (span0 h) := by
  unfold Nrm0 span0 boundI spanI
  refine ⟨?_, ?_, ?_, ?_, ?_, ?_, ?_, ?_⟩ <;> dsimp only <;> (try split) <;> omega
theorem free0_nrm {h : Hn} (hn : Nrm0 h) : Nrm (free0 h) := ⟨hn, Or.inl ⟨rfl, rfl, rfl, rfl⟩⟩
theorem free1_nrm {h : Hn} (hn : Nrm0 h) : Nrm (free1 h) := ⟨by obtain ⟨a, b, c, d, e, f, g, i⟩ := hn; exact ⟨a, b, (show (1 : Int) ≤ 1 ∧ (1 : Int) ≤ 65535 by decide), (show (1 : Int) ≤ 1 ∧ (1 : Int) ≤ 65535 by decide), (show (0 : Int) ≤ 0 ∧ (0 : Int) ≤ 65535 by decide), (show (0 : Int) ≤ 0 ∧ (0 : Int) ≤ 65535 by decide), g, i⟩, Or.inl ⟨rfl, rfl, rfl, rfl⟩⟩
theorem norm1_nrm {h : Hn} (hn : Nrm0 h) : Nrm (norm1 h) := by
  unfold norm1
  split
  · exact ⟨hn, Or.inr ‹_›⟩
  · exact free0_nrm hn
theorem free1_some {h : Hn} (hn : Nrm0 h) : ¬ Nil (free1 h) := by
  intro q
  refine q h.minW ?_ h.minH ⟨?_, Or.inl rfl⟩
  · unfold Nrm0 at hn
    unfold wideP free1 along topP
    dsimp only
    refine ⟨by omega, by split <;> omega, by omega, Int.emod_one _⟩
  · unfold Nrm0 at hn
    unfold free1 along topP
    dsimp only
    refine ⟨by omega, by split <;> omega, by omega, Int.emod_one _⟩
theorem norm2_nrm {h : Hn} (hn : Nrm0 h) : Nrm (norm2 h) := by
  unfold norm2
  split
  · exact norm1_nrm hn
  · split
    · exact free0_nrm hn
    · exact free1_nrm hn
theorem norm2_some {h : Hn} (hn : Nrm0 h) : ¬ Nil (norm2 h) := by
  unfold norm2
  split
  · assumption
  · split
    · assumption
    · exact free1_some hn
theorem normal_nrm (h : Hn) : Nrm (normal h) := norm2_nrm (span0_nrm h)
theorem normal_some (h : Hn) : ¬ Nil (normal h) := norm2_some (span0_nrm h)
theorem span0_of {h : Hn} (hn : Nrm0 h) : span0 h = h := by
  obtain ⟨a, b, c, d, e, f, g, i, j, k, l, m⟩ := h
  unfold Nrm0 at hn
  dsimp only at hn
  unfold span0 boundI spanI
  dsimp only
  have e1 : max 1 (min a 65535) = a := by omega
  have e2 : max 1 (min b 65535) = b := by omega
  have e3 : (if c ≤ 0 then 0 else max (max 1 (min a 65535)) (min c 65535)) = c := by split <;> omega
  have e4 : (if d ≤ 0 then 0 else max (max 1 (min b 65535)) (min d 65535)) = d := by split <;> omega
  have e5 : max 0 (min e 65535) = e := by omega
  have e6 : max 0 (min f 65535) = f := by omega
  have e7 : max 1 (min g 65535) = g := by omega
  have e8 : max 1 (min i 65535) = i := by omega
  rw [e3, e4, e1, e2, e5, e6, e7, e8]
theorem norm1_of {h : Hn} (hn : Nrm h) : norm1 h = h := by
  unfold norm1
  split
  · rfl
  · rcases hn.2 with q | q
    · obtain ⟨a, b, c, d, e, f, g, i, j, k, l, m⟩ := h
      obtain ⟨q1, q2, q3, q4⟩ := q
      dsimp only at q1 q2 q3 q4
      subst q1 q2 q3 q4
      rfl
    · contradiction
theorem normal_of {h : Hn} (hn : Nrm h) (hs : ¬ Nil h) : normal h = h := by
  unfold normal
  rw [span0_of hn.1]
  unfold norm2
  rw [norm1_of hn, if_pos hs]
theorem normal_idem (h : Hn) : normal (normal h) = normal h := normal_of (normal_nrm h) (normal_some h)
theorem fit_found (h : Hn) (w t : Int) : ∃ x y, Found (normal h) (spanI w 0 65535) (spanI t 0 65535) x y ∧ fit h w t = (x, y, true) := best_some _ _ (normal_some h)
theorem fit_good (h : Hn) (w t : Int) : ∃ x y, goodP (normal h) x y ∧ fit h w t = (x, y, true) := by
  obtain ⟨x, y, a, b⟩ := fit_found h w t
  exact ⟨x, y, a.good (normal_nrm h).1, b⟩
theorem fit_of {h : Hn} {w t : Int} (g : goodP (normal h) w t) : fit h w t = (w, t, true) := by
  obtain ⟨a, b, c, d, _⟩ := id g
  unfold fit
  rw [show spanI w 0 65535 = w by unfold spanI; omega, show spanI t 0 65535 = t by unfold spanI; omega]
  exact best_of (Found.self g)
end Go.Proofs.Ytajpnmiblepmkaa.Sz
