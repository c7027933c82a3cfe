/- AreaWorks: for every input that the statement lets in, the law answers true and its arguments read as before. No condition beside the statement's own. -/
import Derived.Test.YtnokjlajgkpajaaRows
import Derived.Test.YtnokjlajgkpajaaGWork
import Derived.WalkKit
import Derived.ProofKit
import Derived.OpenShut
import Derived.ShutString
import Derived.ChangeOld
import Derived.Below
import Derived.Carry
import Derived.SizedLaws
import Derived.Deep.Slices
import Derived.Lib.SmallJoins
namespace Go.Proofs.Ytnokjlajgkpajaa.areaWorks
open Go.ChangeShapes Go.WideShapes Go.ChangeAt Go.RowKit Go.Deep
open Go.ChangeMaps (open_string shut_string)
open Go.Proofs.YtnokjlajgkpajaaW.PrintWords
set_option linter.unusedVariables false
set_option linter.unusedSimpArgs false
section
variable {H : Type} {enc : TypeId × Value → H} {P : Program} {w : World} {base : Nat} {spare : Nat → Bool} {held : Bool}
theorem open_row {α : Type} (k : Kd α) (Pr : α → Prop) (z : α) {t e : TypeId} {fuel n c : Nat} {A : Option Addr} {x : DataW H × List MemPlace} (hC : P.cellsOf e = k.sz) (ht : P.underlying t = some (.slice e))
    (hel : ∀ {n : Nat} {cs : List Value} {y : DataW H × List MemPlace}, DataW.trod enc P w base spare held n e cs = some y → ∃ x, k.K w x cs ∧ Pr x)
    (h : DataW.trod enc P w base spare held fuel t (Value.slice A n c).cells.toList = some x) :
    ∃ l : List α, n = l.length ∧ l.length ≤ c ∧ Kd.C k w A l.length l ∧ (∀ x ∈ l, Pr x) ∧ ∃ (el sp : List (DataW H)), (x.1 = .nil ∧ l = []) ∨ (x.1 = .slice el sp ∧ l.length = el.length) := by
  rcases open_slice ht h with ⟨hcs, hx⟩ | ⟨a, len, cap, m, n', D, Pl, hcs, hb, hl, hm, hmm, hx, hi⟩
  · simp [Value.cells] at hcs
    obtain ⟨rfl, rfl, rfl⟩ := hcs
    subst hx
    exact ⟨[], rfl, Nat.le_refl _, ⟨rfl, by simp, fun h => by simp at h⟩, fun x h => by simp at h, [], [], Or.inl ⟨rfl, rfl⟩⟩
  · simp [Value.cells] at hcs
    obtain ⟨rfl, rfl, rfl⟩ := hcs
    subst hx
    have hlm : n ≤ m := by rw [hmm]; split <;> omega
    have ch : ∀ i : Nat, ∃ x : α, i < n → ((∃ cs', k.K w x cs' ∧ w.cells? base (a.add (i * P.cellsOf e)) (P.cellsOf e) = some cs') ∧ Pr x) := by
      intro i
      by_cases h : i < n
      · obtain ⟨cs', h1, h2⟩ := hi i (by omega)
        obtain ⟨x, hx, hp⟩ := hel h2
        exact ⟨x, fun _ => ⟨⟨cs', hx, h1⟩, hp⟩⟩
      · exact ⟨z, fun h' => absurd h' h⟩
    obtain ⟨f, hf⟩ := Classical.axiomOfChoice ch
    have hlen : ((List.range n).map f).length = n := by simp
    refine ⟨(List.range n).map f, hlen.symm, by rw [hlen]; exact hl, ⟨rfl, by rw [hlen]; unfold maxLen at hm; omega, fun _ => ⟨a, rfl, ?_⟩⟩, ?_, (List.range n).map D, _, Or.inr ⟨rfl, by simp⟩⟩
    · intro j p hj
      rw [List.getElem?_map] at hj
      obtain ⟨i', hi', rfl⟩ := Option.map_eq_some_iff.1 hj
      obtain ⟨hjl, hji⟩ := List.getElem?_eq_some_iff.1 hi'
      rw [List.getElem_range] at hji
      subst hji
      rw [List.length_range] at hjl
      obtain ⟨⟨cs', h1, h2⟩, _⟩ := hf j hjl
      obtain ⟨_, hcl, hat⟩ := World.cells?_some h2
      refine ⟨cs', k.K_len h1, h1, fun i u hu => ?_⟩
      have hil : i < cs'.length := (List.getElem?_eq_some_iff.1 hu).1
      have := hat i (by omega)
      rw [Go.Deep.add_add, hC] at this
      rw [this]; exact hu
    · intro x hx
      simp at hx
      obtain ⟨i, hi', rfl⟩ := hx
      exact (hf i hi').2
end
theorem rd23 {H : Type} {enc : TypeId × Value → H} {w : World} {base : Nat} {spare : Nat → Bool} {held : Bool} {n : Nat} {cs : List Value} {y : DataW H × List MemPlace}
    (h : DataW.trod enc Try.prog w base spare held n 23 cs = some y) : ∃ (x0 : Int) (x1 : Int) (x2 : Int) (x3 : Int), cs = [.int .i64 x0, .int .i64 x1, .int .i64 x2, .int .i64 x3] ∧ (Lit.int .i64 x0).wf = true ∧ (Lit.int .i64 x1).wf = true ∧ (Lit.int .i64 x2).wf = true ∧ (Lit.int .i64 x3).wf = true := by
  have e3 : Try.prog.cellsOf 3 = 1 := by kernel_rfl
  have e23 : Try.prog.cellsOf 23 = 4 := by kernel_rfl
  obtain ⟨xs, m, rfl, hy, hl, hxl, hf⟩ := DataW.trod_struct Try.underlying23 h
  rw [e23] at hl
  match cs, hl with
  | [c0, c1, c2, c3], _ =>
    obtain ⟨z0, hz0⟩ : ∃ z, xs[0]? = some z := ⟨_, List.getElem?_eq_getElem (by rw [hxl]; decide)⟩
    have g0 := hf 0 _ rfl
    rw [hz0] at g0
    obtain ⟨x0, q0, _, w0⟩ := DataW.trod_int Try.underlying3 g0
    simp [e3] at q0
    obtain rfl := q0
    obtain ⟨z1, hz1⟩ : ∃ z, xs[1]? = some z := ⟨_, List.getElem?_eq_getElem (by rw [hxl]; decide)⟩
    have g1 := hf 1 _ rfl
    rw [hz1] at g1
    obtain ⟨x1, q1, _, w1⟩ := DataW.trod_int Try.underlying3 g1
    simp [e3] at q1
    obtain rfl := q1
    obtain ⟨z2, hz2⟩ : ∃ z, xs[2]? = some z := ⟨_, List.getElem?_eq_getElem (by rw [hxl]; decide)⟩
    have g2 := hf 2 _ rfl
    rw [hz2] at g2
    obtain ⟨x2, q2, _, w2⟩ := DataW.trod_int Try.underlying3 g2
    simp [e3] at q2
    obtain rfl := q2
    obtain ⟨z3, hz3⟩ : ∃ z, xs[3]? = some z := ⟨_, List.getElem?_eq_getElem (by rw [hxl]; decide)⟩
    have g3 := hf 3 _ rfl
    rw [hz3] at g3
    obtain ⟨x3, q3, _, w3⟩ := DataW.trod_int Try.underlying3 g3
    simp [e3] at q3
    obtain rfl := q3
    exact ⟨x0, x1, x2, x3, rfl, w0, w1, w2, w3⟩
theorem rd25 {H : Type} {enc : TypeId × Value → H} {w : World} {base : Nat} {spare : Nat → Bool} {held : Bool} {n : Nat} {cs : List Value} {y : DataW H × List MemPlace}
    (h : DataW.trod enc Try.prog w base spare held n 25 cs = some y) : ∃ (x0 : ByteArray) (x1 : Int) (x2 : Int) (x3 : Int) (x4 : Int), cs = [.string x0, .int .i64 x1, .int .i64 x2, .int .i64 x3, .int .i64 x4] ∧ x0.size ≤ maxLen ∧ (Lit.int .i64 x1).wf = true ∧ (Lit.int .i64 x2).wf = true ∧ (Lit.int .i64 x3).wf = true ∧ (Lit.int .i64 x4).wf = true := by
  have e9 : Try.prog.cellsOf 9 = 1 := by kernel_rfl
  have e23 : Try.prog.cellsOf 23 = 4 := by kernel_rfl
  have e25 : Try.prog.cellsOf 25 = 5 := by kernel_rfl
  obtain ⟨xs, m, rfl, hy, hl, hxl, hf⟩ := DataW.trod_struct Try.underlying25 h
  rw [e25] at hl
  match cs, hl with
  | [c0, c1, c2, c3, c4], _ =>
    obtain ⟨z0, hz0⟩ : ∃ z, xs[0]? = some z := ⟨_, List.getElem?_eq_getElem (by rw [hxl]; decide)⟩
    have g0 := hf 0 _ rfl
    rw [hz0] at g0
    obtain ⟨x0, q0, _, w0⟩ := DataW.trod_string Try.underlying9 g0
    simp [e9] at q0
    obtain rfl := q0
    obtain ⟨z1, hz1⟩ : ∃ z, xs[1]? = some z := ⟨_, List.getElem?_eq_getElem (by rw [hxl]; decide)⟩
    have g1 := hf 1 _ rfl
    rw [hz1] at g1
    obtain ⟨x1, x2, x3, x4, q1, w1, w2, w3, w4⟩ := rd23 g1
    simp [e23] at q1
    obtain ⟨rfl, rfl, rfl, rfl⟩ := q1
    exact ⟨x0, x1, x2, x3, x4, rfl, w0, w1, w2, w3, w4⟩
theorem rd31 {H : Type} {enc : TypeId × Value → H} {w : World} {base : Nat} {spare : Nat → Bool} {held : Bool} {n : Nat} {cs : List Value} {y : DataW H × List MemPlace}
    (h : DataW.trod enc Try.prog w base spare held n 31 cs = some y) : ∃ (x0 : ByteArray) (x1 : Int) (x2 : Int) (x3 : Int) (x4 : Int), cs = [.string x0, .int .i64 x1, .int .i64 x2, .int .i64 x3, .int .i64 x4] ∧ x0.size ≤ maxLen ∧ (Lit.int .i64 x1).wf = true ∧ (Lit.int .i64 x2).wf = true ∧ (Lit.int .i64 x3).wf = true ∧ (Lit.int .i64 x4).wf = true := by
  have e3 : Try.prog.cellsOf 3 = 1 := by kernel_rfl
  have e9 : Try.prog.cellsOf 9 = 1 := by kernel_rfl
  have e31 : Try.prog.cellsOf 31 = 5 := by kernel_rfl
  obtain ⟨xs, m, rfl, hy, hl, hxl, hf⟩ := DataW.trod_struct Try.underlying31 h
  rw [e31] at hl
  match cs, hl with
  | [c0, c1, c2, c3, c4], _ =>
    obtain ⟨z0, hz0⟩ : ∃ z, xs[0]? = some z := ⟨_, List.getElem?_eq_getElem (by rw [hxl]; decide)⟩
    have g0 := hf 0 _ rfl
    rw [hz0] at g0
    obtain ⟨x0, q0, _, w0⟩ := DataW.trod_string Try.underlying9 g0
    simp [e9] at q0
    obtain rfl := q0
    obtain ⟨z1, hz1⟩ : ∃ z, xs[1]? = some z := ⟨_, List.getElem?_eq_getElem (by rw [hxl]; decide)⟩
    have g1 := hf 1 _ rfl
    rw [hz1] at g1
    obtain ⟨x1, q1, _, w1⟩ := DataW.trod_int Try.underlying3 g1
    simp [e3] at q1
    obtain rfl := q1
    obtain ⟨z2, hz2⟩ : ∃ z, xs[2]? = some z := ⟨_, List.getElem?_eq_getElem (by rw [hxl]; decide)⟩
    have g2 := hf 2 _ rfl
    rw [hz2] at g2
    obtain ⟨x2, q2, _, w2⟩ := DataW.trod_int Try.underlying3 g2
    simp [e3] at q2
    obtain rfl := q2
    obtain ⟨z3, hz3⟩ : ∃ z, xs[3]? = some z := ⟨_, List.getElem?_eq_getElem (by rw [hxl]; decide)⟩
    have g3 := hf 3 _ rfl
    rw [hz3] at g3
    obtain ⟨x3, q3, _, w3⟩ := DataW.trod_int Try.underlying3 g3
    simp [e3] at q3
    obtain rfl := q3
    obtain ⟨z4, hz4⟩ : ∃ z, xs[4]? = some z := ⟨_, List.getElem?_eq_getElem (by rw [hxl]; decide)⟩
    have g4 := hf 4 _ rfl
    rw [hz4] at g4
    obtain ⟨x4, q4, _, w4⟩ := DataW.trod_int Try.underlying3 g4
    simp [e3] at q4
    obtain rfl := q4
    exact ⟨x0, x1, x2, x3, x4, rfl, w0, w1, w2, w3, w4⟩
theorem own : ownKnob Try.prog.godebug = none := by kernel_rfl
theorem laid : laidOutB Try.prog = true := by kernel_rfl
set_option maxHeartbeats 1000000 in
set_option maxRecDepth 100000 in
theorem lifted (os : Os) (started : os.Started) (H : Type) (enc : TypeId × Value → H) :
    ReturnsInHanded {} Try.checked os 3 .any (Rows.areaWorksSpec.pre6 enc Try.prog Try.f3 Rows.areaWorksRow.domain false) (Rows.areaWorksSpec.post enc Try.prog Try.f3 false true false false) := by
  refine returnsInHanded_of_change_sized (C := Try.checked) own started (by kernel_rfl) Try.func3
    (ChangeSpec.witness6 (enc := enc) (C := Try.checked) false ⟨#[], #[.agg #[.string ByteArray.empty, .int .i64 0, .int .i64 0, .int .i64 0, .int .i64 0], .slice none 0 0], []⟩ 8 (by kernel_rfl) (by kernel_rfl) (by kernel_rfl) (by kernel_rfl)) ?_
  intro W base args ds gs before hval0 hW hcnd hsz0 _
  have hsz : (DataW.weightsEach Try.prog (Try.f3.params.toList ++ Rows.areaWorksSpec.plain.varTypes Try.prog) (ds ++ gs)).all (· ≤ reachBytes) = true := hsz0
  have hval : ∀ (j : Nat) t v, Try.f3.params[j]? = some t → args[j]? = some v → Value.okWide Try.prog W .any base t v := hval0
  have hW' := hW
  obtain ⟨p, q, hA0, hV, rfl, hfz, hnd⟩ := hW
  have hA : DataW.TrodAll enc Try.prog W 0 (fun _ => true) true Try.f3.params.toList args.toList ds p := hA0
  rw [Try.params3] at hA hval hsz
  obtain ⟨v0, vs0, d0, ds0, p0, q0, hargs, rfl, rfl, h0, r0⟩ := trodAll_cons hA
  obtain ⟨v1, vs1, d1, ds1, p1, q1, rfl, rfl, rfl, h1, r1⟩ := trodAll_cons r0
  obtain ⟨rfl, rfl, rfl⟩ := trodAll_nil r1
  obtain rfl : args = #[v0, v1] := by cases args; simp_all
  obtain ⟨rfl, rfl⟩ := trodVars_none hV
  have b0 : ∀ x ∈ p0, x.block < W.heap.size := fun x hx => hW'.lt x (by simp [hx])
  have k0 := h0
  have b1 : ∀ x ∈ p1, x.block < W.heap.size := fun x hx => hW'.lt x (by simp [hx])
  have k1 := h1
  obtain ⟨cs0, rfl, hs0⟩ := okWide_struct Try.underlying25 (hval 0 25 v0 rfl rfl)
  obtain ⟨fu0, hf0⟩ := h0
  obtain ⟨a0_0, a0_1, a0_2, a0_3, a0_4, q0, w0_0, w0_1, w0_2, w0_3, w0_4⟩ := rd25 hf0
  obtain rfl : cs0 = #[.string a0_0, .int .i64 a0_1, .int .i64 a0_2, .int .i64 a0_3, .int .i64 a0_4] := by apply Array.ext'; simpa [Value.cells] using q0
  clear q0 hs0 hf0
  obtain ⟨A1, n1, c1, rfl⟩ := okWide_slice Try.underlying26 (hval 1 26 v1 rfl rfl)
  obtain ⟨fu1, hf1⟩ := h1
  obtain ⟨l1, rfl, hc1, hr1, hp1, el1, sp1, hd1⟩ := open_row Go.Proofs.Ytnokjlajgkpajaa.PAreaWorks.k31 (fun x : Go.Proofs.Ytnokjlajgkpajaa.PAreaWorks.S31 => x.f0.size ≤ maxLen ∧ (Lit.int .i64 x.f1).wf = true ∧ (Lit.int .i64 x.f2).wf = true ∧ (Lit.int .i64 x.f3).wf = true ∧ (Lit.int .i64 x.f4).wf = true) Go.Proofs.Ytnokjlajgkpajaa.PAreaWorks.z31 (by kernel_rfl) Try.underlying26 (fun g => by obtain ⟨x0, x1, x2, x3, x4, rfl, u0, u1, u2, u3, u4⟩ := rd31 g; exact ⟨⟨x0, x1, x2, x3, x4⟩, Go.Proofs.Ytnokjlajgkpajaa.PAreaWorks.k31_mk _ _, u0, u1, u2, u3, u4⟩) hf1
  have hb1 : l1.length * 48 ≤ 140737488351232 := by
    have eb : Try.prog.bytesOf 31 = 48 := by kernel_rfl
    rcases hd1 with ⟨hd, hl⟩ | ⟨hd, hl⟩
    · rw [hl]; simp
    · simp only at hd
      subst hd
      have z := sized_slice hsz (j := 1) (t := 26) rfl rfl Try.underlying26
      rw [eb] at z
      exact Nat.le_trans (Nat.mul_le_mul_right _ (by omega)) z
  clear hA0 hval0 hsz0 hsz
  refine (Works.AreaWorks_law a0_0 a0_1 a0_2 a0_3 a0_4 A1 c1 l1 W w0_0 w0_1 w0_2 w0_3 w0_4 hr1 hc1 hb1 hp1).mono fun e W' ⟨he, bel⟩ => ?_
  subst he
  exact ⟨_, rfl, _, _, _, [], _, [], hW', trodAll_mk1 (shut_bool Try.underlying4 _), (trodAll_cons_mk (Below.trod laid (by kernel_rfl) (of_decide_eq_true (by kernel_rfl)) k0 bel b0) (trodAll_cons_mk (Below.trod laid (by kernel_rfl) (of_decide_eq_true (by kernel_rfl)) k1 bel b1) trodAll_mk0)), rfl, bel.frame _, fun h => by cases h⟩
theorem over : Rows.areaWorksRow.holds Try.pinned (OpenSpec.ofChange Rows.areaWorksSpec) :=
  OpenClaim.holds_of_wide 3 Try.f3 rfl rfl rfl rfl rfl rfl rfl ⟨rfl, rfl, rfl, rfl, rfl⟩ rfl rfl rfl rfl rfl (by kernel_rfl) Try.func3 (by kernel_rfl)
    (of_decide_eq_true (by kernel_rfl)) (by unfold Func.isWrapper; first | (rw [if_pos (by decide +kernel)]; kernel_rfl) | (rw [if_neg (by decide +kernel)]; exact ⟨rfl, rfl⟩))
    (fun os started H enc _ => lifted os started H enc)
theorem proved : Rows.AreaWorksSaid := over
#print axioms proved
end Go.Proofs.Ytnokjlajgkpajaa.areaWorks
namespace Go.Proofs.Ytnokjlajgkpajaa
/-- The row, under a short name, for the claim. -/
theorem areaWorks_holds : Rows.AreaWorksSaid := areaWorks.proved
end Go.Proofs.Ytnokjlajgkpajaa
