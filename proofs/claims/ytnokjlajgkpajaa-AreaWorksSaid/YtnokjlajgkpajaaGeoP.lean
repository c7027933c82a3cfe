/- Rectangles over plain whole numbers: what the chapter says, without Go and without memory. -/
import Derived.RowKit
namespace Go.Proofs.Ytnokjlajgkpajaa.Geo
open Go.RowKit

structure Rc where
  x : Int
  y : Int
  w : Int
  h : Int

theorem Rc.ext' {a b : Rc} (h1 : a.x = b.x) (h2 : a.y = b.y) (h3 : a.w = b.w) (h4 : a.h = b.h) : a = b := by
  cases a; cases b; simp only at h1 h2 h3 h4; subst h1 h2 h3 h4; rfl

def z4 : Rc := ⟨0, 0, 0, 0⟩
def I64 (n : Int) : Prop := -9223372036854775808 ≤ n ∧ n ≤ 9223372036854775807
theorem I64.of {n : Int} (h : (Lit.int .i64 n).wf = true) : I64 n := by
  have e1 : IntKind.i64.min = -9223372036854775808 := by rfl
  have e2 : IntKind.i64.max = 9223372036854775807 := by rfl
  simp only [Lit.wf, e1, e2, Bool.and_eq_true, decide_eq_true_eq] at h
  exact h

def sideB (p n : Int) : Bool := decide (-32768 ≤ p ∧ p ≤ 32767 ∧ 0 ≤ n ∧ n ≤ 32768 - p)
def rightB (a : Rc) : Bool := sideB a.x a.w && sideB a.y a.h
def emptyB (a : Rc) : Bool := !rightB a || a.w == 0 || a.h == 0
def spanP (v l m : Int) : Int := max l (min v m)
def areaP (a : Rc) : Int := if emptyB a then 0 else a.w * a.h
def hasB (a : Rc) (px py : Int) : Bool := !emptyB a && decide (a.x ≤ px ∧ px ≤ a.x + a.w - 1 ∧ a.y ≤ py ∧ py ≤ a.y + a.h - 1)
def betweenP (x y u v : Int) : Rc := if x < u ∧ y < v ∧ -32768 ≤ x ∧ -32768 ≤ y ∧ u ≤ 32768 ∧ v ≤ 32768 then ⟨x, y, u - x, v - y⟩ else z4
def interP (a b : Rc) : Rc := if emptyB a || emptyB b then z4 else betweenP (max a.x b.x) (max a.y b.y) (min (a.x + a.w) (b.x + b.w)) (min (a.y + a.h) (b.y + b.h))
def hullP (a b : Rc) : Rc := if emptyB a && emptyB b then z4 else if emptyB a then b else if emptyB b then a else betweenP (min a.x b.x) (min a.y b.y) (max (a.x + a.w) (b.x + b.w)) (max (a.y + a.h) (b.y + b.h))
def insideB (a b : Rc) : Bool := emptyB a || (rightB b && decide (b.x ≤ a.x ∧ b.y ≤ a.y ∧ a.x + a.w ≤ b.x + b.w ∧ a.y + a.h ≤ b.y + b.h))
def slideP (p n d : Int) : Int := min 32767 (if d > 32768 - n - p then 32768 - n else if d < -32768 - p then -32768 else p + d)
def shiftP (a : Rc) (dx dy : Int) : Rc := if rightB a then ⟨slideP a.x a.w dx, slideP a.y a.h dy, a.w, a.h⟩ else z4
def insetP (a : Rc) (l t r b : Int) : Rc :=
  if rightB a then ⟨min 32767 (a.x + spanP l 0 a.w), min 32767 (a.y + spanP t 0 a.h), a.w - spanP l 0 a.w - spanP r 0 (a.w - spanP l 0 a.w), a.h - spanP t 0 a.h - spanP b 0 (a.h - spanP t 0 a.h)⟩ else z4
def keepI (p n i m : Int) : Int := max i (min p (i + m - n))
def keepP (a b : Rc) : Rc := if rightB a && rightB b then shiftP a (keepI a.x a.w b.x b.w - a.x) (keepI a.y a.h b.y b.h - a.y) else z4

theorem sideB_true {p n : Int} : sideB p n = true ↔ -32768 ≤ p ∧ p ≤ 32767 ∧ 0 ≤ n ∧ n ≤ 32768 - p := by simp [sideB]
theorem sideB_false {p n : Int} : sideB p n = false ↔ ¬ (-32768 ≤ p ∧ p ≤ 32767 ∧ 0 ≤ n ∧ n ≤ 32768 - p) := by simp [sideB]
theorem rightB_true {a : Rc} : rightB a = true ↔ (-32768 ≤ a.x ∧ a.x ≤ 32767 ∧ 0 ≤ a.w ∧ a.w ≤ 32768 - a.x) ∧ (-32768 ≤ a.y ∧ a.y ≤ 32767 ∧ 0 ≤ a.h ∧ a.h ≤ 32768 - a.y) := by
  simp [rightB, sideB_true]
theorem rightB_false {a : Rc} : rightB a = false ↔ ¬ ((-32768 ≤ a.x ∧ a.x ≤ 32767 ∧ 0 ≤ a.w ∧ a.w ≤ 32768 - a.x) ∧ (-32768 ≤ a.y ∧ a.y ≤ 32767 ∧ 0 ≤ a.h ∧ a.h ≤ 32768 - a.y)) := by
  rw [← rightB_true]; simp
theorem emptyB_false {a : Rc} : emptyB a = false ↔ rightB a = true ∧ a.w ≠ 0 ∧ a.h ≠ 0 := by
  simp [emptyB]; constructor <;> (intro h; simp_all)
theorem emptyB_true {a : Rc} : emptyB a = true ↔ rightB a = false ∨ a.w = 0 ∨ a.h = 0 := by
  simp [emptyB]; constructor
  · rintro ((h | h) | h) <;> simp_all
  · rintro (h | h | h) <;> simp_all
/-- What is not empty, in numbers. -/
theorem nonempty {a : Rc} (h : emptyB a = false) : (-32768 ≤ a.x ∧ a.x ≤ 32767 ∧ 0 < a.w ∧ a.w ≤ 32768 - a.x) ∧ (-32768 ≤ a.y ∧ a.y ≤ 32767 ∧ 0 < a.h ∧ a.h ≤ 32768 - a.y) := by
  obtain ⟨h1, h2, h3⟩ := emptyB_false.1 h
  have := rightB_true.1 h1
  omega
theorem emptyB_mk {a : Rc} (h : (-32768 ≤ a.x ∧ 0 < a.w ∧ a.w ≤ 32768 - a.x) ∧ (-32768 ≤ a.y ∧ 0 < a.h ∧ a.h ≤ 32768 - a.y)) : emptyB a = false :=
  emptyB_false.2 ⟨rightB_true.2 (by omega), by omega, by omega⟩
theorem wrap64_id {n : Int} (h : I64 n) : wrap64 n = n := by unfold I64 at h; unfold wrap64; omega
theorem wrap64_i {n : Int} (h1 : -9223372036854775808 ≤ n) (h2 : n ≤ 9223372036854775807) : wrap64 n = n := wrap64_id ⟨h1, h2⟩

end Go.Proofs.Ytnokjlajgkpajaa.Geo
