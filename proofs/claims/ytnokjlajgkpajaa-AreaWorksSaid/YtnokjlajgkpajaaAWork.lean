/- AreaWorks: both answers for the free part of a screen are the chapter's, in plain numbers and lists. -/
import Derived.Test.YtnokjlajgkpajaaGeoP
import Derived.Test.YtnokjlajgkpajaaAWa
import Derived.Test.YtnokjlajgkpajaaAWb
import Derived.Test.YtnokjlajgkpajaaAWc
namespace Go.Proofs.Ytnokjlajgkpajaa.Works
open Go.RowKit Go.Proofs.YtnokjlajgkpajaaW.PrintMore Go.Proofs.YtnokjlajgkpajaaW.PrintWords Go.Proofs.Ytnokjlajgkpajaa.Geo Go.Proofs.Ytnokjlajgkpajaa.PAreaWorks
set_option linter.unusedVariables false
set_option linter.unusedSimpArgs false

theorem mx_eq (a b : Int) : mx a b = max a b := by unfold mx; omega
theorem mn_eq (a b : Int) : mn a b = min a b := by unfold mn; omega
theorem side_eq (p n : Int) : geom_side.f p n = some (sideB p n) := by
  unfold geom_side.f sideB
  split
  · split
    · split
      · rw [wrap64_i (n := 32767 - p) (by omega) (by omega), wrap64_i (by omega) (by omega)]
        congr 1; simp only [decide_eq_decide]; omega
      · congr 1; simp; omega
    · congr 1; simp; omega
  · congr 1; simp; omega
theorem right_eq (a : Rc) : geom_Right.f a.x a.y a.w a.h = some (rightB a) := by
  unfold geom_Right.f rightB
  rw [side_eq, side_eq]
  simp only [Option.bind_some]
  cases sideB a.x a.w <;> simp
theorem span_eq (v l m : Int) : geom_Span.f v l m = some (spanP v l m) := by
  unfold geom_Span.f geom_between_int.f spanP
  simp only [Option.bind_some, mx_eq, mn_eq, Int.min_comm]
theorem take_eq (p n f l : Int) (h : sideB p n = true) : geom_take.f p n f l = some (p + spanP f 0 n, n - spanP f 0 n - spanP l 0 (n - spanP f 0 n)) := by
  have := sideB_true.1 h
  unfold geom_take.f
  rw [span_eq]; simp only [Option.bind_some]
  have h1 : 0 ≤ spanP f 0 n ∧ spanP f 0 n ≤ n := by unfold spanP; omega
  rw [wrap64_i (n := n - spanP f 0 n) (by omega) (by omega), span_eq]; simp only [Option.bind_some]
  have h2 : 0 ≤ spanP l 0 (n - spanP f 0 n) ∧ spanP l 0 (n - spanP f 0 n) ≤ n - spanP f 0 n := by unfold spanP at *; omega
  rw [wrap64_i (by omega) (by omega), wrap64_i (by omega) (by omega)]
theorem inset_eq (a : Rc) (l t r b : Int) : geom_Inset.f a.x a.y a.w a.h l t r b = some ((insetP a l t r b).x, (insetP a l t r b).y, (insetP a l t r b).w, (insetP a l t r b).h) := by
  unfold geom_Inset.f insetP
  rw [right_eq]
  simp only [Option.bind_some]
  by_cases h : rightB a = true
  · simp only [if_pos h]
    have h1 : sideB a.x a.w = true ∧ sideB a.y a.h = true := by simpa [rightB] using h
    rw [take_eq _ _ _ _ h1.1, take_eq _ _ _ _ h1.2]
    simp only [Option.bind_some, mn_eq, Int.min_comm]
  · simp only [if_neg h]; rfl
/-! the reference -/
theorem rright_eq (a : Rc) : casementref01_Right.f a.x a.y a.w a.h = some (rightB a) := by
  have e : rightB a = decide ((-32768 ≤ a.x ∧ a.x ≤ 32767 ∧ 0 ≤ a.w ∧ a.w ≤ 32768 - a.x) ∧ (-32768 ≤ a.y ∧ a.y ≤ 32767 ∧ 0 ≤ a.h ∧ a.h ≤ 32768 - a.y)) := by
    rw [Bool.eq_iff_iff, decide_eq_true_eq]; exact rightB_true
  rw [e]
  unfold casementref01_Right.f
  by_cases c1 : a.x < -32768
  · rw [if_pos c1]; congr 1; symm; rw [decide_eq_false_iff_not]; omega
  rw [if_neg c1]
  by_cases c2 : a.x > 32767
  · rw [if_pos c2]; congr 1; symm; rw [decide_eq_false_iff_not]; omega
  rw [if_neg c2]
  by_cases c3 : a.y < -32768
  · rw [if_pos c3]; congr 1; symm; rw [decide_eq_false_iff_not]; omega
  rw [if_neg c3]
  by_cases c4 : a.y > 32767
  · rw [if_pos c4]; congr 1; symm; rw [decide_eq_false_iff_not]; omega
  rw [if_neg c4]
  by_cases c5 : a.w < 0
  · rw [if_pos c5]; congr 1; symm; rw [decide_eq_false_iff_not]; omega
  rw [if_neg c5]
  by_cases c6 : a.h < 0
  · rw [if_pos c6]; congr 1; symm; rw [decide_eq_false_iff_not]; omega
  rw [if_neg c6]
  by_cases c7 : a.w > 65536
  · rw [if_pos c7]; congr 1; symm; rw [decide_eq_false_iff_not]; omega
  rw [if_neg c7]
  by_cases c8 : a.h > 65536
  · rw [if_pos c8]; congr 1; symm; rw [decide_eq_false_iff_not]; omega
  rw [if_neg c8, wrap64_i (n := a.x + a.w) (by omega) (by omega), wrap64_i (n := a.y + a.h) (by omega) (by omega)]
  by_cases c9 : a.x + a.w ≤ 32768
  · rw [if_pos c9]; congr 1; rw [decide_eq_decide]; omega
  · rw [if_neg c9]; congr 1; symm; rw [decide_eq_false_iff_not]; omega
theorem rspan_eq (v m : Int) (hm : 0 ≤ m) : casementref01_Span.f v 0 m = some (spanP v 0 m) := by
  unfold casementref01_Span.f spanP
  by_cases c : v > m
  · rw [if_pos c, if_neg (by omega)]; congr 1; omega
  · rw [if_neg c]
    by_cases c2 : v < 0
    · rw [if_pos c2]; congr 1; omega
    · rw [if_neg c2]; congr 1; omega
theorem rleast_eq (a b : Int) : casementref01_least.f a b = some (min a b) := by
  unfold casementref01_least.f
  by_cases c : a < b
  · rw [if_pos c]; congr 1; omega
  · rw [if_neg c]; congr 1; omega
theorem rrow_eq (p n f l : Int) (h : sideB p n = true) : casementref01_row.f p n f l = some (min 32767 (p + spanP f 0 n), n - spanP f 0 n - spanP l 0 (n - spanP f 0 n)) := by
  have := sideB_true.1 h
  have h1 : 0 ≤ spanP f 0 n ∧ spanP f 0 n ≤ n := by unfold spanP; omega
  unfold casementref01_row.f
  rw [rspan_eq _ _ (by omega)]; simp only [Option.bind_some]
  rw [wrap64_i (n := n - spanP f 0 n) (by omega) (by omega), rspan_eq _ _ (by omega)]; simp only [Option.bind_some]
  have h2 : 0 ≤ spanP l 0 (n - spanP f 0 n) ∧ spanP l 0 (n - spanP f 0 n) ≤ n - spanP f 0 n := by unfold spanP at *; omega
  rw [rleast_eq, wrap64_i (n := p + spanP f 0 n) (by omega) (by omega), wrap64_i (n := n - spanP f 0 n - spanP l 0 (n - spanP f 0 n)) (by omega) (by omega)]
  rfl
theorem rinset_eq (a : Rc) (l t r b : Int) : casementref01_Inset.f a.x a.y a.w a.h l t r b = some ((insetP a l t r b).x, (insetP a l t r b).y, (insetP a l t r b).w, (insetP a l t r b).h) := by
  unfold casementref01_Inset.f insetP
  rw [rright_eq]
  simp only [Option.bind_some]
  by_cases h : rightB a = true
  · simp only [if_pos h]
    have h1 : sideB a.x a.w = true ∧ sideB a.y a.h = true := by simpa [rightB] using h
    rw [rrow_eq _ _ _ _ h1.1, rrow_eq _ _ _ _ h1.2]
    simp only [Option.bind_some]
  · simp only [if_neg h]; rfl
/-! the most at each edge -/
def mA (l : List S31) (nm : ByteArray) (g : S31 → Int) : Nat → Int
  | 0 => 0
  | i + 1 => if (rd_T31 l (i : Int)).f0.toList = nm.toList then max (mA l nm g i) (g (rd_T31 l (i : Int))) else mA l nm g i
def workP (nm : ByteArray) (a : Rc) (l : List S31) : Rc := insetP a (mA l nm S31.f1 l.length) (mA l nm S31.f3 l.length) (mA l nm S31.f2 l.length) (mA l nm S31.f4 l.length)
theorem wrapS {i n : Nat} (h : i < n) (hn : n * 48 ≤ 140737488351232) : wrap64 ((i : Int) + 1) = ((i + 1 : Nat) : Int) := by
  rw [wrap64_i (by omega) (by omega)]; omega
theorem work_loop (l : List S31) (hn : l.length * 48 ≤ 140737488351232) (nm : ByteArray) (a : Rc) (k d : Nat) : ∀ (i : Nat), i ≤ l.length → l.length - i = d →
    area_Work.l0 (k + d + 1) l (l.length : Int) (i : Int) nm a.x a.y a.w a.h (mA l nm S31.f1 i) (mA l nm S31.f3 i) (mA l nm S31.f2 i) (mA l nm S31.f4 i) = some ((workP nm a l).x, (workP nm a l).y, (workP nm a l).w, (workP nm a l).h) := by
  induction d with
  | zero =>
    intro i h1 hd
    obtain rfl : i = l.length := by omega
    rw [show k + 0 + 1 = k + 1 by omega]
    unfold area_Work.l0
    rw [if_neg (by omega), inset_eq]; rfl
  | succ d ih =>
    intro i h1 hd
    have e := ih (i + 1) (by omega) (by omega)
    rw [show k + (d + 1) + 1 = (k + d + 1) + 1 by omega]
    unfold area_Work.l0
    rw [if_pos (by omega), if_pos (by omega), if_pos (by omega), wrapS (n := l.length) (by omega) hn]
    simp only [mA] at e
    simp only [mx_eq]
    by_cases c : (rd_T31 l (i : Int)).f0.toList = nm.toList
    · rw [if_pos c]; rw [if_pos c, if_pos c, if_pos c, if_pos c] at e; exact e
    · rw [if_neg c]; rw [if_neg c, if_neg c, if_neg c, if_neg c] at e; exact e
theorem work_eq (l : List S31) (hn : l.length * 48 ≤ 140737488351232) (nm : ByteArray) (a : Rc) (k : Nat) : area_Work.f (k + l.length + 1) nm a.x a.y a.w a.h l = some ((workP nm a l).x, (workP nm a l).y, (workP nm a l).w, (workP nm a l).h) :=
  work_loop l hn nm a k l.length 0 (by omega) (by omega)
def gk (k : Nat) : S31 → Int := if k = 0 then S31.f1 else if k = 1 then S31.f3 else if k = 2 then S31.f2 else S31.f4
theorem edge_eq (s : S31) (k : Nat) (hk : k < 4) : casementref13_edge.f s.f0 s.f1 s.f2 s.f3 s.f4 (k : Int) = some (gk k s) := by
  unfold casementref13_edge.f gk
  rcases (by omega : k = 0 ∨ k = 1 ∨ k = 2 ∨ k = 3) with rfl | rfl | rfl | rfl <;> rfl
theorem rd_nat (e : List Int) (k : Nat) : rd e (k : Int) = e.getD k 0 := rfl
theorem set_same (e : List Int) (k : Nat) (v : Int) (h : e.getD k 0 = v) : e.set k v = e := by
  apply List.ext_getElem?
  intro j
  rw [List.getElem?_set]
  by_cases c : k = j
  · subst c
    rw [if_pos rfl]
    by_cases c2 : k < e.length
    · rw [if_pos c2, ← h, List.getD_eq_getElem?_getD, List.getElem?_eq_getElem c2]; rfl
    · rw [if_neg c2, List.getElem?_eq_none (by omega)]
  · rw [if_neg c]
theorem rloop (l : List S31) (hn : l.length * 48 ≤ 140737488351232) (nm : ByteArray) (a : Rc) (k kk : Nat) (hk : kk < 4) (d : Nat) : ∀ (i : Nat) (e : List Int), e.length = 4 → e.getD kk 0 = mA l nm (gk kk) i → i ≤ l.length → l.length - i = d →
    casementref13_Work.l1 (k + d + 1) l e (kk : Int) (i : Int) nm a.x a.y a.w a.h = casementref13_Work.l0 k l (e.set kk (mA l nm (gk kk) l.length)) (wrap64 ((kk : Int) + 1)) nm a.x a.y a.w a.h := by
  induction d with
  | zero =>
    intro i e he hm h1 hd
    obtain rfl : i = l.length := by omega
    rw [show k + 0 + 1 = k + 1 by omega]
    conv => lhs; unfold casementref13_Work.l1
    rw [if_neg (by omega), set_same _ _ _ hm]
  | succ d ih =>
    intro i e he hm h1 hd
    rw [show k + (d + 1) + 1 = (k + d + 1) + 1 by omega]
    conv => lhs; unfold casementref13_Work.l1
    rw [if_pos (by omega), if_pos (by omega), wrapS (n := l.length) (by omega) hn, edge_eq _ _ hk]
    simp only [Option.bind_some]
    by_cases c : (rd_T31 l (i : Int)).f0.toList = nm.toList
    · rw [if_pos c, if_pos (by omega), if_pos (by omega), rd_nat, hm]
      by_cases c2 : gk kk (rd_T31 l (i : Int)) > mA l nm (gk kk) i
      · rw [if_pos c2, Int.toNat_natCast, ih (i + 1) _ (by simp [he]) ?_ (by omega) (by omega), List.set_set]
        simp only [mA]
        rw [if_pos c, List.getD_eq_getElem?_getD, List.getElem?_set_self (by omega)]
        show gk kk _ = _
        omega
      · rw [if_neg c2, ih (i + 1) _ he ?_ (by omega) (by omega)]
        simp only [mA]
        rw [if_pos c, hm]; omega
    · rw [if_neg c, ih (i + 1) _ he ?_ (by omega) (by omega)]
      simp only [mA]
      rw [if_neg c, hm]
theorem rstep (l : List S31) (hn : l.length * 48 ≤ 140737488351232) (nm : ByteArray) (a : Rc) (k kk : Nat) (hk : kk < 4) (e : List Int) (he : e.length = 4) (hm : e.getD kk 0 = 0) :
    casementref13_Work.l0 (k + l.length + 2) l e (kk : Int) nm a.x a.y a.w a.h = casementref13_Work.l0 k l (e.set kk (mA l nm (gk kk) l.length)) (wrap64 ((kk : Int) + 1)) nm a.x a.y a.w a.h := by
  rw [show k + l.length + 2 = (k + l.length + 1) + 1 by omega]
  conv => lhs; unfold casementref13_Work.l0
  rw [if_pos (by omega)]
  exact rloop l hn nm a k kk hk l.length 0 e he (by rw [hm]; rfl) (by omega) (by omega)
theorem rwork_eq (l : List S31) (hn : l.length * 48 ≤ 140737488351232) (nm : ByteArray) (a : Rc) (k : Nat) : casementref13_Work.f (k + 1 + l.length + 2 + l.length + 2 + l.length + 2 + l.length + 2) nm a.x a.y a.w a.h l = some ((workP nm a l).x, (workP nm a l).y, (workP nm a l).w, (workP nm a l).h) := by
  unfold casementref13_Work.f
  have e0 := rstep l hn nm a (k + 1 + l.length + 2 + l.length + 2 + l.length + 2) 0 (by omega) [0, 0, 0, 0] rfl rfl
  have e1 := rstep l hn nm a (k + 1 + l.length + 2 + l.length + 2) 1 (by omega) [mA l nm (gk 0) l.length, 0, 0, 0] rfl rfl
  have e2 := rstep l hn nm a (k + 1 + l.length + 2) 2 (by omega) [mA l nm (gk 0) l.length, mA l nm (gk 1) l.length, 0, 0] rfl rfl
  have e3 := rstep l hn nm a (k + 1) 3 (by omega) [mA l nm (gk 0) l.length, mA l nm (gk 1) l.length, mA l nm (gk 2) l.length, 0] rfl rfl
  rw [show wrap64 (((0 : Nat) : Int) + 1) = ((1 : Nat) : Int) from wrapS (n := 4) (by omega) (by omega)] at e0
  rw [show wrap64 (((1 : Nat) : Int) + 1) = ((2 : Nat) : Int) from wrapS (n := 4) (by omega) (by omega)] at e1
  rw [show wrap64 (((2 : Nat) : Int) + 1) = ((3 : Nat) : Int) from wrapS (n := 4) (by omega) (by omega)] at e2
  rw [show wrap64 (((3 : Nat) : Int) + 1) = ((4 : Nat) : Int) from wrapS (n := 4) (by omega) (by omega)] at e3
  simp only [List.set_cons_zero, List.set_cons_succ] at e0 e1 e2 e3
  refine e0.trans (e1.trans (e2.trans (e3.trans ?_)))
  show casementref13_Work.l0 (k + 1) l [mA l nm (gk 0) l.length, mA l nm (gk 1) l.length, mA l nm (gk 2) l.length, mA l nm (gk 3) l.length] 4 nm a.x a.y a.w a.h = _
  conv => lhs; unfold casementref13_Work.l0
  rw [if_neg (by decide), if_pos (by simp), if_pos (by simp), if_pos (by simp), if_pos (by simp)]
  have e := rinset_eq a (mA l nm (gk 0) l.length) (mA l nm (gk 1) l.length) (mA l nm (gk 2) l.length) (mA l nm (gk 3) l.length)
  show (casementref01_Inset.f a.x a.y a.w a.h (mA l nm (gk 0) l.length) (mA l nm (gk 1) l.length) (mA l nm (gk 2) l.length) (mA l nm (gk 3) l.length)).bind _ = _
  rw [e]; rfl
theorem awake_eq (k : Nat) : casementlaw13_awake.f (k + 4) = some true := by
  have h4 : casementlaw13_awake.f 4 = some true := by kernel_rfl
  induction k with
  | zero => exact h4
  | succ k ih => exact casementlaw13_awake.mono (k + 4) _ ih
theorem works_true (l : List S31) (hn : l.length * 48 ≤ 140737488351232) (nm : ByteArray) (a : Rc) : ∃ k, casementlaw13_AreaWorks.f k nm a.x a.y a.w a.h l = some true := by
  refine ⟨4 + 1 + l.length + 2 + l.length + 2 + l.length + 2 + l.length + 2, ?_⟩
  unfold casementlaw13_AreaWorks.f
  rw [rwork_eq l hn nm a 4, show 4 + 1 + l.length + 2 + l.length + 2 + l.length + 2 + l.length + 2 = (4 + 1 + l.length + 2 + l.length + 2 + l.length + 2 + 1) + l.length + 1 by omega, work_eq l hn nm a]
  simp only [Option.bind_some, beq_self_eq_true, Bool.and_self, if_true]
  rw [show (4 + 1 + l.length + 2 + l.length + 2 + l.length + 2 + 1) + l.length + 1 = (1 + 1 + l.length + 2 + l.length + 2 + l.length + 2 + l.length + 1) + 4 by omega, awake_eq]; rfl
end Go.Proofs.Ytnokjlajgkpajaa.Works
