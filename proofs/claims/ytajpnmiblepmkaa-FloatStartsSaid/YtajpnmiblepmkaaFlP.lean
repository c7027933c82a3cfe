/- Clients that stand free, over plain whole numbers: where they come to be, are moved to, and which size they get. -/
import Derived.Test.YtajpnmiblepmkaaSzP
import Derived.Test.YtajpnmiblepmkaaGeoP
namespace Go.Proofs.Ytajpnmiblepmkaa.Fl
open Go.RowKit Go.Proofs.Ytajpnmiblepmkaa.Geo Go.Proofs.Ytajpnmiblepmkaa.Sz
set_option linter.unusedVariables false
set_option linter.unusedSimpArgs false

def laidP (x y w t : Int) : Rc := shiftP ⟨-32768, -32768, w, t⟩ (x + 32768) (y + 32768)
def midP (p m n : Int) : Int := p + (m - n) / 2
def gripP (p n i m : Int) : Int := spanP p (i - n + min 16 (min n m)) (i + m - min 16 (min n m))
def moveP (r work : Rc) (dx dy : Int) : Rc := if emptyB (shiftP r dx dy) || emptyB work then shiftP r dx dy else laidP (gripP (shiftP r dx dy).x (shiftP r dx dy).w work.x work.w) (gripP (shiftP r dx dy).y (shiftP r dx dy).h work.y work.h) (shiftP r dx dy).w (shiftP r dx dy).h
def workP (work : Rc) : Rc := if emptyB work then ⟨0, 0, 1, 1⟩ else work
def inP (owner work : Rc) : Rc := if emptyB owner then work else owner
noncomputable def startP (owner work : Rc) (h : Hn) (w t : Int) : Rc :=
  keepP (laidP (midP (inP owner (workP work)).x (inP owner (workP work)).w (fit h (min w (workP work).w) (min t (workP work).h)).1) (midP (inP owner (workP work)).y (inP owner (workP work)).h (fit h (min w (workP work).w) (min t (workP work).h)).2.1) (fit h (min w (workP work).w) (min t (workP work).h)).1 (fit h (min w (workP work).w) (min t (workP work).h)).2.1) (workP work)
noncomputable def resizeP (r : Rc) (h : Hn) (dw dt : Int) : Rc := if rightB r then laidP r.x r.y (fit h (r.w + spanP dw (-65535) 65535) (r.h + spanP dt (-65535) 65535)).1 (fit h (r.w + spanP dw (-65535) 65535) (r.h + spanP dt (-65535) 65535)).2.1 else z4

theorem shift_dim {r : Rc} (h : rightB r = true) (dx dy : Int) : rightB (shiftP r dx dy) = true ∧ (shiftP r dx dy).w = r.w ∧ (shiftP r dx dy).h = r.h := by
  have g := rightB_true.1 h
  unfold shiftP
  rw [if_pos h]
  refine ⟨rightB_true.2 ?_, rfl, rfl⟩
  unfold slideP
  dsimp only
  refine ⟨?_, ?_⟩ <;> split <;> (try split) <;> omega
theorem laid_dim {x y w t : Int} (h : (1 ≤ w ∧ w ≤ 65536) ∧ (1 ≤ t ∧ t ≤ 65536)) : rightB (laidP x y w t) = true ∧ (laidP x y w t).w = w ∧ (laidP x y w t).h = t :=
  shift_dim (rightB_true.2 (by dsimp only; omega)) _ _
theorem keep_dim {a b : Rc} (h : rightB a = true) (h' : rightB b = true) : rightB (keepP a b) = true ∧ (keepP a b).w = a.w ∧ (keepP a b).h = a.h := by
  unfold keepP
  rw [h, h']
  exact shift_dim h _ _
theorem workP_right (work : Rc) : emptyB (workP work) = false := by
  unfold workP
  by_cases h : emptyB work = true
  · rw [if_pos h]; rfl
  · rw [if_neg h]; simpa using h
theorem workP_rightB (work : Rc) : rightB (workP work) = true := (emptyB_false.1 (workP_right work)).1
theorem start_dim (owner work : Rc) (h : Hn) (w t : Int) : ∃ x y, goodP (normal h) x y ∧ rightB (startP owner work h w t) = true ∧ (startP owner work h w t).w = x ∧ (startP owner work h w t).h = y := by
  obtain ⟨x, y, g, e⟩ := fit_good h (min w (workP work).w) (min t (workP work).h)
  refine ⟨x, y, g, ?_⟩
  unfold startP
  rw [e]
  have l := laid_dim (x := midP (inP owner (workP work)).x (inP owner (workP work)).w x) (y := midP (inP owner (workP work)).y (inP owner (workP work)).h y) (w := x) (t := y) (by have := g.1; have := g.2.1; have := g.2.2.1; have := g.2.2.2.1; omega)
  have k := keep_dim l.1 (workP_rightB work)
  exact ⟨k.1, k.2.1.trans l.2.1, k.2.2.trans l.2.2⟩
theorem resize_dim {r : Rc} (hr : rightB r = true) (h : Hn) (dw dt : Int) : ∃ x y, goodP (normal h) x y ∧ rightB (resizeP r h dw dt) = true ∧ (resizeP r h dw dt).w = x ∧ (resizeP r h dw dt).h = y := by
  obtain ⟨x, y, g, e⟩ := fit_good h (r.w + spanP dw (-65535) 65535) (r.h + spanP dt (-65535) 65535)
  refine ⟨x, y, g, ?_⟩
  unfold resizeP
  rw [if_pos hr, e]
  dsimp only
  exact laid_dim (by have := g.1; have := g.2.1; have := g.2.2.1; have := g.2.2.2.1; omega)
theorem empty_same {r : Rc} (h : emptyB r = false) (dx dy : Int) : emptyB (shiftP r dx dy) = false := by
  have e := emptyB_false.1 h
  have s := shift_dim e.1 dx dy
  exact emptyB_false.2 ⟨s.1, by rw [s.2.1]; exact e.2.1, by rw [s.2.2]; exact e.2.2⟩
theorem empty_shift {r : Rc} (h : emptyB r = true) (dx dy : Int) : emptyB (shiftP r dx dy) = true := by
  by_cases e : rightB r = true
  · have s := shift_dim e dx dy
    rcases emptyB_true.1 h with q | q | q
    · rw [e] at q; cases q
    · exact emptyB_true.2 (Or.inr (Or.inl (by rw [s.2.1]; exact q)))
    · exact emptyB_true.2 (Or.inr (Or.inr (by rw [s.2.2]; exact q)))
  · unfold shiftP; rw [if_neg e]; rfl
theorem move_empty {r work : Rc} (h : emptyB r = true ∨ emptyB work = true) (dx dy : Int) : moveP r work dx dy = shiftP r dx dy := by
  unfold moveP
  rcases h with h | h
  · rw [empty_shift h]; rfl
  · rw [h, Bool.or_true]; rfl
theorem move_laid {r work : Rc} (h : emptyB r = false) (h' : emptyB work = false) (dx dy : Int) : moveP r work dx dy = laidP (gripP (shiftP r dx dy).x r.w work.x work.w) (gripP (shiftP r dx dy).y r.h work.y work.h) r.w r.h := by
  unfold moveP
  have s := shift_dim (emptyB_false.1 h).1 dx dy
  rw [empty_same h, h', s.2.1, s.2.2]
  rfl
theorem grip_seen {p n i m g : Int} (hn : 0 < n) (hm : 0 < m) (h : g = gripP p n i m) : min 16 (min n m) ≤ min (g + n) (i + m) - max g i := by
  subst h
  unfold gripP spanP
  omega
theorem move_seen {r work : Rc} (h : emptyB r = false) (h' : emptyB work = false) (dx dy : Int) :
    (moveP r work dx dy).w = r.w ∧ (moveP r work dx dy).h = r.h ∧ rightB (moveP r work dx dy) = true ∧
    (-32768 < (moveP r work dx dy).x → -32768 < (moveP r work dx dy).y → (moveP r work dx dy).x ≤ 32767 - (moveP r work dx dy).w → (moveP r work dx dy).y ≤ 32767 - (moveP r work dx dy).h →
      min 16 (min r.w work.w) ≤ (interP (moveP r work dx dy) work).w ∧ min 16 (min r.h work.h) ≤ (interP (moveP r work dx dy) work).h) := by
  have hr := nonempty h
  have hw := nonempty h'
  rw [move_laid h h']
  have l := laid_dim (x := gripP (shiftP r dx dy).x r.w work.x work.w) (y := gripP (shiftP r dx dy).y r.h work.y work.h) (w := r.w) (t := r.h) (by omega)
  refine ⟨l.2.1, l.2.2, l.1, ?_⟩
  intro a b c d
  rw [l.2.1] at c
  rw [l.2.2] at d
  have e : emptyB (laidP (gripP (shiftP r dx dy).x r.w work.x work.w) (gripP (shiftP r dx dy).y r.h work.y work.h) r.w r.h) = false := emptyB_false.2 ⟨l.1, by rw [l.2.1]; omega, by rw [l.2.2]; omega⟩
  have sx := grip_seen (p := (shiftP r dx dy).x) (n := r.w) (i := work.x) (m := work.w) (by omega) (by omega) rfl
  have sy := grip_seen (p := (shiftP r dx dy).y) (n := r.h) (i := work.y) (m := work.h) (by omega) (by omega) rfl
  obtain ⟨gx, hgx⟩ : ∃ g, g = gripP (shiftP r dx dy).x r.w work.x work.w := ⟨_, rfl⟩
  obtain ⟨gy, hgy⟩ : ∃ g, g = gripP (shiftP r dx dy).y r.h work.y work.h := ⟨_, rfl⟩
  rw [← hgx] at sx; rw [← hgy] at sy
  rw [← hgx, ← hgy] at a b c d e l ⊢
  clear hgx hgy
  obtain ⟨l1, l2, l3⟩ := l
  have ex : (laidP gx gy r.w r.h).x = slideP (-32768) r.w (gx + 32768) := by
    unfold laidP shiftP; rw [if_pos (rightB_true.2 (by dsimp only; omega))]
  have ey : (laidP gx gy r.w r.h).y = slideP (-32768) r.h (gy + 32768) := by
    unfold laidP shiftP; rw [if_pos (rightB_true.2 (by dsimp only; omega))]
  obtain ⟨A, hA⟩ : ∃ A, A = laidP gx gy r.w r.h := ⟨_, rfl⟩
  rw [← hA] at a b c d e l1 l2 l3 ex ey ⊢
  clear hA
  have fx : A.x = gx := by
    unfold slideP at ex
    split at ex <;> (try split at ex) <;> omega
  have fy : A.y = gy := by
    unfold slideP at ey
    split at ey <;> (try split at ey) <;> omega
  unfold interP
  rw [e, h']
  show _ ≤ (betweenP _ _ _ _).w ∧ _ ≤ (betweenP _ _ _ _).h
  unfold betweenP
  rw [fx, fy, l2, l3]
  rw [if_pos (by omega)]
  dsimp only
  omega
/- Frames. -/
def styleB (g b t : Int) : Bool := decide (0 ≤ g ∧ g ≤ 100 ∧ 0 ≤ b ∧ b ≤ 100 ∧ 0 ≤ t ∧ t ≤ 100)
def frameR (r : Rc) (b t : Int) : Rc := ⟨r.x - b, r.y - b - t, r.w + 2 * b, r.h + 2 * b + t⟩
def frameB (r : Rc) (g b t : Int) : Bool := rightB r && (styleB g b t && rightB (frameR r b t))
def frameP (r : Rc) (g b t : Int) : Rc := if frameB r g b t then frameR r b t else z4
def innerP (f : Rc) (g b t : Int) : Rc := if styleB g b t then insetP f b (b + t) b b else z4
theorem frame_back {r : Rc} {g b t : Int} (h : frameB r g b t = true) : innerP (frameP r g b t) g b t = r := by
  unfold frameP
  rw [if_pos h]
  unfold frameB at h
  simp only [Bool.and_eq_true] at h
  obtain ⟨h1, h2, h3⟩ := h
  unfold innerP
  rw [if_pos h2]
  simp only [styleB, decide_eq_true_eq] at h2
  unfold insetP
  rw [if_pos h3]
  have g1 := rightB_true.1 h1
  unfold spanP frameR
  apply Rc.ext' <;> dsimp only <;> omega
end Go.Proofs.Ytajpnmiblepmkaa.Fl
