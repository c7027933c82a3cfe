/- Plain laws of rectangles: kept ones, common parts, hulls, edges taken off. -/
import Derived.Test.YtechhbmaamjllaaGeoS
namespace Go.Proofs.Ytechhbmaamjllaa.Geo

/- kept in another one -/
theorem slide_keep {p n i m : Int} (h : -32768 ≤ p ∧ 0 < n ∧ n ≤ 32768 - p) (h' : -32768 ≤ i ∧ 0 < m ∧ m ≤ 32768 - i) :
    slideP p n (keepI p n i m - p) = min (32768 - n) (keepI p n i m) ∧ -32768 ≤ keepI p n i m := by
  unfold slideP keepI; split <;> (try split) <;> omega
theorem keep_val {r i : Rc} (h : emptyB r = false) (h' : emptyB i = false) :
    keepP r i = ⟨min (32768 - r.w) (keepI r.x r.w i.x i.w), min (32768 - r.h) (keepI r.y r.h i.y i.h), r.w, r.h⟩ := by
  have g := nonempty h
  have g' := nonempty h'
  unfold keepP
  rw [(emptyB_false.1 h).1, (emptyB_false.1 h').1]
  unfold shiftP
  rw [(emptyB_false.1 h).1]
  simp only [Bool.and_self, if_true]
  rw [(slide_keep (by omega) (by omega)).1, (slide_keep (by omega) (by omega)).1]
theorem keep_empty {r i : Rc} (h : emptyB r = false) (h' : emptyB i = false) : emptyB (keepP r i) = false := by
  have g := nonempty h
  have g' := nonempty h'
  rw [keep_val h h']
  apply emptyB_mk
  dsimp only
  unfold keepI
  omega
theorem keep_wh {r i : Rc} (h : emptyB r = false) (h' : emptyB i = false) : (keepP r i).w = r.w ∧ (keepP r i).h = r.h := by rw [keep_val h h']; exact ⟨rfl, rfl⟩
theorem keep_keep {r i : Rc} (h : emptyB r = false) (h' : emptyB i = false) : keepP (keepP r i) i = keepP r i := by
  have g := nonempty h
  have g' := nonempty h'
  rw [keep_val (keep_empty h h') h', keep_val h h']
  apply Rc.ext' <;> dsimp only
  · unfold keepI; omega
  · unfold keepI; omega
theorem inside_num {a b : Rc} (h : emptyB a = false) (h' : rightB b = true) : insideB a b = decide (b.x ≤ a.x ∧ b.y ≤ a.y ∧ a.x + a.w ≤ b.x + b.w ∧ a.y + a.h ≤ b.y + b.h) := by
  unfold insideB; rw [h, h']; rfl
theorem keep_inside {r i : Rc} (h : emptyB r = false) (h' : emptyB i = false) (hi : insideB r i = true) : keepP r i = r := by
  have g := nonempty h
  have g' := nonempty h'
  rw [inside_num h (emptyB_false.1 h').1, decide_eq_true_eq] at hi
  rw [keep_val h h']
  apply Rc.ext' <;> dsimp only
  · unfold keepI; omega
  · unfold keepI; omega
theorem keep_fits {r i : Rc} (h : emptyB r = false) (h' : emptyB i = false) (h1 : r.w ≤ i.w) (h2 : r.h ≤ i.h) : insideB (keepP r i) i = true := by
  have g := nonempty h
  have g' := nonempty h'
  rw [inside_num (keep_empty h h') (emptyB_false.1 h').1, decide_eq_true_eq, keep_val h h']
  dsimp only
  unfold keepI
  omega

/- what two have in common -/
theorem empty_z4 : emptyB z4 = true := by decide
def meets (a b : Rc) : Prop := max a.x b.x < min (a.x + a.w) (b.x + b.w) ∧ max a.y b.y < min (a.y + a.h) (b.y + b.h)
theorem inter_meets {a b : Rc} (h : emptyB a = false) (h' : emptyB b = false) (hm : meets a b) :
    interP a b = ⟨max a.x b.x, max a.y b.y, min (a.x + a.w) (b.x + b.w) - max a.x b.x, min (a.y + a.h) (b.y + b.h) - max a.y b.y⟩ := by
  have g := nonempty h
  have g' := nonempty h'
  unfold meets at hm
  unfold interP betweenP
  rw [h, h']
  simp only [Bool.or_self, Bool.false_eq_true, if_false]
  rw [if_pos (by omega)]
theorem inter_apart {a b : Rc} (hm : emptyB a = true ∨ emptyB b = true ∨ ¬ meets a b) : interP a b = z4 := by
  unfold interP betweenP
  by_cases h : emptyB a = true
  · simp [h]
  by_cases h' : emptyB b = true
  · simp [h']
  rcases hm with hm | hm | hm
  · exact absurd hm h
  · exact absurd hm h'
  simp only [Bool.not_eq_true] at h h'
  simp only [h, h', Bool.or_self, Bool.false_eq_true, if_false]
  unfold meets at hm
  rw [if_neg (by omega)]
theorem inter_empty {a b : Rc} (h : emptyB a = false) (h' : emptyB b = false) (hm : meets a b) : emptyB (interP a b) = false := by
  have g := nonempty h
  have g' := nonempty h'
  rw [inter_meets h h' hm]
  unfold meets at hm
  apply emptyB_mk
  dsimp only
  omega
theorem inter_comm (a b : Rc) : interP a b = interP b a := by
  unfold interP
  rw [Bool.or_comm, Int.max_comm a.x, Int.max_comm a.y, Int.min_comm (a.x + a.w), Int.min_comm (a.y + a.h)]
theorem add_sub_it (p q : Int) : p + (q - p) = q := by omega
theorem tri_b {a b c A B C : Int} (h : max (max a b) c < min (min A B) C) : max b c < min B C := by omega
theorem tri_a {a b c A B C : Int} (h : max a (max b c) < min A (min B C)) : max a b < min A B := by omega
theorem meets_left {a b c : Rc} (h : emptyB a = false) (h' : emptyB b = false) (m : meets a b) :
    meets (interP a b) c ↔ (max (max a.x b.x) c.x < min (min (a.x + a.w) (b.x + b.w)) (c.x + c.w) ∧ max (max a.y b.y) c.y < min (min (a.y + a.h) (b.y + b.h)) (c.y + c.h)) := by
  rw [inter_meets h h' m]; unfold meets; simp only [add_sub_it]
theorem meets_right {a b c : Rc} (h : emptyB b = false) (h' : emptyB c = false) (m : meets b c) :
    meets a (interP b c) ↔ (max a.x (max b.x c.x) < min (a.x + a.w) (min (b.x + b.w) (c.x + c.w)) ∧ max a.y (max b.y c.y) < min (a.y + a.h) (min (b.y + b.h) (c.y + c.h))) := by
  rw [inter_meets h h' m]; unfold meets; simp only [add_sub_it]
theorem inter_assoc (a b c : Rc) : interP (interP a b) c = interP a (interP b c) := by
  by_cases ha : emptyB a = true
  · rw [inter_apart (a := a) (b := b) (Or.inl ha), inter_apart (a := z4) (Or.inl empty_z4), inter_apart (Or.inl ha)]
  by_cases hc : emptyB c = true
  · rw [inter_apart (a := b) (b := c) (Or.inr (Or.inl hc)), inter_apart (b := z4) (Or.inr (Or.inl empty_z4)), inter_apart (Or.inr (Or.inl hc))]
  by_cases hb : emptyB b = true
  · rw [inter_apart (a := a) (b := b) (Or.inr (Or.inl hb)), inter_apart (a := b) (b := c) (Or.inl hb), inter_apart (a := z4) (Or.inl empty_z4), inter_apart (b := z4) (Or.inr (Or.inl empty_z4))]
  simp only [Bool.not_eq_true] at ha hb hc
  by_cases m1 : meets a b
  · have e1 := inter_empty ha hb m1
    have v1 := inter_meets ha hb m1
    by_cases m2 : meets b c
    · have e2 := inter_empty hb hc m2
      have v2 := inter_meets hb hc m2
      have q : meets (interP a b) c ↔ meets a (interP b c) := by
        rw [meets_left ha hb m1, meets_right hb hc m2, Int.max_assoc, Int.max_assoc, Int.min_assoc, Int.min_assoc]
      by_cases m3 : meets (interP a b) c
      · rw [inter_meets e1 hc m3, inter_meets ha e2 (q.1 m3), v1, v2]
        simp only [add_sub_it, Int.max_assoc, Int.min_assoc]
      · rw [inter_apart (Or.inr (Or.inr m3)), inter_apart (Or.inr (Or.inr (fun h => m3 (q.2 h))))]
    · have m3 : ¬ meets (interP a b) c := by
        rw [meets_left ha hb m1]
        rintro ⟨h1, h2⟩
        exact m2 ⟨tri_b h1, tri_b h2⟩
      rw [inter_apart (Or.inr (Or.inr m3)), inter_apart (a := b) (b := c) (Or.inr (Or.inr m2)), inter_apart (b := z4) (Or.inr (Or.inl empty_z4))]
  · rw [inter_apart (a := a) (b := b) (Or.inr (Or.inr m1)), inter_apart (a := z4) (Or.inl empty_z4)]
    by_cases m2 : meets b c
    · have m4 : ¬ meets a (interP b c) := by
        rw [meets_right hb hc m2]
        rintro ⟨h1, h2⟩
        exact m1 ⟨tri_a h1, tri_a h2⟩
      rw [inter_apart (Or.inr (Or.inr m4))]
    · rw [inter_apart (a := b) (b := c) (Or.inr (Or.inr m2)), inter_apart (b := z4) (Or.inr (Or.inl empty_z4))]

/- around two -/
theorem hull_val {a b : Rc} (h : emptyB a = false) (h' : emptyB b = false) :
    hullP a b = ⟨min a.x b.x, min a.y b.y, max (a.x + a.w) (b.x + b.w) - min a.x b.x, max (a.y + a.h) (b.y + b.h) - min a.y b.y⟩ := by
  have g := nonempty h
  have g' := nonempty h'
  unfold hullP betweenP
  rw [h, h']
  simp only [Bool.and_self, Bool.false_eq_true, if_false]
  rw [if_pos (by omega)]
theorem hull_empty {a b : Rc} (h : emptyB a = false) (h' : emptyB b = false) : emptyB (hullP a b) = false := by
  have g := nonempty h
  have g' := nonempty h'
  rw [hull_val h h']
  apply emptyB_mk
  dsimp only
  omega
theorem hull_comm {a b : Rc} (h : emptyB a = false) (h' : emptyB b = false) : hullP a b = hullP b a := by
  rw [hull_val h h', hull_val h' h]
  apply Rc.ext' <;> dsimp only <;> omega
theorem hull_assoc {a b c : Rc} (h : emptyB a = false) (h' : emptyB b = false) (h'' : emptyB c = false) : hullP (hullP a b) c = hullP a (hullP b c) := by
  rw [hull_val (hull_empty h h') h'', hull_val h (hull_empty h' h''), hull_val h h', hull_val h' h'']
  apply Rc.ext' <;> dsimp only <;> omega
theorem in_hull {a b : Rc} (h : emptyB a = false) (h' : emptyB b = false) : insideB a (hullP a b) = true := by
  rw [inside_num h (emptyB_false.1 (hull_empty h h')).1, decide_eq_true_eq, hull_val h h']
  dsimp only
  omega
theorem inter_in {a b : Rc} (h : emptyB a = false) (h' : emptyB b = false) : insideB (interP a b) a = true := by
  by_cases m : meets a b
  · rw [inside_num (inter_empty h h' m) (emptyB_false.1 h).1, decide_eq_true_eq, inter_meets h h' m]
    dsimp only
    omega
  · rw [inter_apart (Or.inr (Or.inr m))]; unfold insideB; rw [empty_z4]; rfl

/- places -/
theorem has_num {a : Rc} (h : emptyB a = false) (px py : Int) : hasB a px py = decide (a.x ≤ px ∧ px ≤ a.x + a.w - 1 ∧ a.y ≤ py ∧ py ≤ a.y + a.h - 1) := by
  unfold hasB; rw [h]; rfl
theorem has_none {a : Rc} (h : emptyB a = true) (px py : Int) : hasB a px py = false := by unfold hasB; rw [h]; rfl
theorem has_inter (a b : Rc) (px py : Int) : hasB (interP a b) px py = (hasB a px py && hasB b px py) := by
  by_cases ha : emptyB a = true
  · rw [inter_apart (Or.inl ha), has_none empty_z4, has_none ha]; rfl
  by_cases hb : emptyB b = true
  · rw [inter_apart (Or.inr (Or.inl hb)), has_none empty_z4, has_none hb, Bool.and_false]
  simp only [Bool.not_eq_true] at ha hb
  rw [has_num ha, has_num hb]
  by_cases m : meets a b
  · rw [has_num (inter_empty ha hb m), inter_meets ha hb m]
    dsimp only
    rw [Bool.eq_iff_iff]
    simp only [decide_eq_true_eq, Bool.and_eq_true]
    omega
  · rw [inter_apart (Or.inr (Or.inr m)), has_none empty_z4]
    unfold meets at m
    symm
    rw [Bool.eq_false_iff]
    simp only [ne_eq, decide_eq_true_eq, Bool.and_eq_true]
    omega
theorem has_hull (a b : Rc) (px py : Int) (h : hasB a px py = true ∨ hasB b px py = true) : hasB (hullP a b) px py = true := by
  by_cases ha : emptyB a = true
  · rcases h with h | h
    · rw [has_none ha] at h; cases h
    · by_cases hb : emptyB b = true
      · rw [has_none hb] at h; cases h
      · unfold hullP; simp only [Bool.not_eq_true] at hb; rw [ha, hb]; simpa using h
  · simp only [Bool.not_eq_true] at ha
    by_cases hb : emptyB b = true
    · rcases h with h | h
      · unfold hullP; rw [ha, hb]; simpa using h
      · rw [has_none hb] at h; cases h
    · simp only [Bool.not_eq_true] at hb
      rw [has_num ha, has_num hb] at h
      simp only [decide_eq_true_eq] at h
      have ga := nonempty ha
      have gb := nonempty hb
      rw [has_num (hull_empty ha hb), hull_val ha hb, decide_eq_true_eq]
      dsimp only
      omega

/- edges taken off -/
theorem inset_wh {r : Rc} (h : rightB r = true) {a b c d : Int} (ha : 0 ≤ a) (hb : 0 ≤ b) (hc : 0 ≤ c) (hd : 0 ≤ d) :
    (insetP r a b c d).w = max 0 (r.w - a - c) ∧ (insetP r a b c d).h = max 0 (r.h - b - d) := by
  have g := rightB_true.1 h
  unfold insetP
  rw [if_pos h]
  dsimp only
  unfold spanP
  omega
theorem inset_right {r : Rc} (h : rightB r = true) (a b c d : Int) : rightB (insetP r a b c d) = true := by
  have g := rightB_true.1 h
  unfold insetP
  rw [if_pos h, rightB_true]
  dsimp only
  unfold spanP
  omega
theorem inset_inside (r : Rc) (h : rightB r = true) (a b c d : Int) : insideB (insetP r a b c d) r = true := by
  by_cases e : emptyB (insetP r a b c d) = true
  · unfold insideB; rw [e]; rfl
  simp only [Bool.not_eq_true] at e
  rw [inside_num e h, decide_eq_true_eq]
  have g := rightB_true.1 h
  have n := nonempty e
  unfold insetP at n ⊢
  rw [if_pos h] at n ⊢
  dsimp only at n ⊢
  unfold spanP at n ⊢
  omega
theorem inset_zero (a b c d : Int) (r : Rc) (h : rightB r = false) : insetP r a b c d = z4 := by unfold insetP; rw [h]; rfl
theorem inset_twice (r : Rc) (h : rightB r = true) {a b c d : Int} (ha : 0 ≤ a) (hb : 0 ≤ b) (hc : 0 ≤ c) (hd : 0 ≤ d) :
    (emptyB (insetP r (a + c) (b + d) 0 0) && emptyB (insetP (insetP r a b 0 0) c d 0 0)) = true ∨ insetP (insetP r a b 0 0) c d 0 0 = insetP r (a + c) (b + d) 0 0 := by
  have g := rightB_true.1 h
  have i1 := inset_right h a b 0 0
  have i2 := inset_right h (a + c) (b + d) 0 0
  have i3 := inset_right i1 c d 0 0
  have w1 := inset_wh h ha hb (Int.le_refl 0) (Int.le_refl 0)
  have w2 := inset_wh h (show 0 ≤ a + c by omega) (show 0 ≤ b + d by omega) (Int.le_refl 0) (Int.le_refl 0)
  have w3 := inset_wh i1 hc hd (Int.le_refl 0) (Int.le_refl 0)
  by_cases e : r.w - a - c ≤ 0 ∨ r.h - b - d ≤ 0
  · left
    rw [Bool.and_eq_true]
    constructor
    · rw [emptyB_true]; omega
    · rw [emptyB_true]; omega
  · right
    have v0 : ∀ (s : Rc) (u v : Int), rightB s = true → 0 ≤ u → 0 ≤ v → u < s.w → v < s.h → insetP s u v 0 0 = ⟨s.x + u, s.y + v, s.w - u, s.h - v⟩ := by
      intro s u v hs hu hv hu' hv'
      have k := rightB_true.1 hs
      unfold insetP
      rw [if_pos hs]
      unfold spanP
      apply Rc.ext' <;> dsimp only <;> omega
    have q1 := v0 r a b h ha hb (by omega) (by omega)
    rw [v0 r (a + c) (b + d) h (by omega) (by omega) (by omega) (by omega), v0 (insetP r a b 0 0) c d i1 hc hd (by rw [q1]; dsimp only; omega) (by rw [q1]; dsimp only; omega), q1]
    apply Rc.ext' <;> dsimp only <;> omega
end Go.Proofs.Ytechhbmaamjllaa.Geo
