/- FloatStarts: for every input that the statement lets in, the law answers true and its arguments read as before. No condition beside the statement's own. -/
import Derived.Test.YtajpnmiblepmkaaRows
import Derived.Test.YtajpnmiblepmkaaFlT
import Derived.WalkKit
import Derived.ProofKit
import Derived.OpenShut
import Derived.ShutString
import Derived.ChangeOld
import Derived.Below
import Derived.Carry
import Derived.SizedLaws
import Derived.Deep.Slices
import Derived.Lib.SmallJoins
namespace Go.Proofs.Ytajpnmiblepmkaa.floatStarts
open Go.ChangeShapes Go.WideShapes Go.ChangeAt Go.RowKit Go.Deep
open Go.ChangeMaps (open_string shut_string)
set_option linter.unusedVariables false
set_option linter.unusedSimpArgs false
theorem rd23 {H : Type} {enc : TypeId × Value → H} {w : World} {base : Nat} {spare : Nat → Bool} {held : Bool} {n : Nat} {cs : List Value} {y : DataW H × List MemPlace}
    (h : DataW.trod enc Try.prog w base spare held n 23 cs = some y) : ∃ (x0 : Int) (x1 : Int) (x2 : Int) (x3 : Int), cs = [.int .i64 x0, .int .i64 x1, .int .i64 x2, .int .i64 x3] ∧ (Lit.int .i64 x0).wf = true ∧ (Lit.int .i64 x1).wf = true ∧ (Lit.int .i64 x2).wf = true ∧ (Lit.int .i64 x3).wf = true := by
  have e3 : Try.prog.cellsOf 3 = 1 := by kernel_rfl
  have e23 : Try.prog.cellsOf 23 = 4 := by kernel_rfl
  obtain ⟨xs, m, rfl, hy, hl, hxl, hf⟩ := DataW.trod_struct Try.underlying23 h
  rw [e23] at hl
  match cs, hl with
  | [c0, c1, c2, c3], _ =>
    obtain ⟨z0, hz0⟩ : ∃ z, xs[0]? = some z := ⟨_, List.getElem?_eq_getElem (by rw [hxl]; decide)⟩
    have g0 := hf 0 _ rfl
    rw [hz0] at g0
    obtain ⟨x0, q0, _, w0⟩ := DataW.trod_int Try.underlying3 g0
    simp [e3] at q0
    obtain rfl := q0
    obtain ⟨z1, hz1⟩ : ∃ z, xs[1]? = some z := ⟨_, List.getElem?_eq_getElem (by rw [hxl]; decide)⟩
    have g1 := hf 1 _ rfl
    rw [hz1] at g1
    obtain ⟨x1, q1, _, w1⟩ := DataW.trod_int Try.underlying3 g1
    simp [e3] at q1
    obtain rfl := q1
    obtain ⟨z2, hz2⟩ : ∃ z, xs[2]? = some z := ⟨_, List.getElem?_eq_getElem (by rw [hxl]; decide)⟩
    have g2 := hf 2 _ rfl
    rw [hz2] at g2
    obtain ⟨x2, q2, _, w2⟩ := DataW.trod_int Try.underlying3 g2
    simp [e3] at q2
    obtain rfl := q2
    obtain ⟨z3, hz3⟩ : ∃ z, xs[3]? = some z := ⟨_, List.getElem?_eq_getElem (by rw [hxl]; decide)⟩
    have g3 := hf 3 _ rfl
    rw [hz3] at g3
    obtain ⟨x3, q3, _, w3⟩ := DataW.trod_int Try.underlying3 g3
    simp [e3] at q3
    obtain rfl := q3
    exact ⟨x0, x1, x2, x3, rfl, w0, w1, w2, w3⟩
theorem rd25 {H : Type} {enc : TypeId × Value → H} {w : World} {base : Nat} {spare : Nat → Bool} {held : Bool} {n : Nat} {cs : List Value} {y : DataW H × List MemPlace}
    (h : DataW.trod enc Try.prog w base spare held n 25 cs = some y) : ∃ (x0 : Int) (x1 : Int) (x2 : Int) (x3 : Int) (x4 : Int) (x5 : Int) (x6 : Int) (x7 : Int) (x8 : Int) (x9 : Int) (x10 : Int) (x11 : Int), cs = [.int .i64 x0, .int .i64 x1, .int .i64 x2, .int .i64 x3, .int .i64 x4, .int .i64 x5, .int .i64 x6, .int .i64 x7, .int .i64 x8, .int .i64 x9, .int .i64 x10, .int .i64 x11] ∧ (Lit.int .i64 x0).wf = true ∧ (Lit.int .i64 x1).wf = true ∧ (Lit.int .i64 x2).wf = true ∧ (Lit.int .i64 x3).wf = true ∧ (Lit.int .i64 x4).wf = true ∧ (Lit.int .i64 x5).wf = true ∧ (Lit.int .i64 x6).wf = true ∧ (Lit.int .i64 x7).wf = true ∧ (Lit.int .i64 x8).wf = true ∧ (Lit.int .i64 x9).wf = true ∧ (Lit.int .i64 x10).wf = true ∧ (Lit.int .i64 x11).wf = true := by
  have e3 : Try.prog.cellsOf 3 = 1 := by kernel_rfl
  have e25 : Try.prog.cellsOf 25 = 12 := by kernel_rfl
  obtain ⟨xs, m, rfl, hy, hl, hxl, hf⟩ := DataW.trod_struct Try.underlying25 h
  rw [e25] at hl
  match cs, hl with
  | [c0, c1, c2, c3, c4, c5, c6, c7, c8, c9, c10, c11], _ =>
    obtain ⟨z0, hz0⟩ : ∃ z, xs[0]? = some z := ⟨_, List.getElem?_eq_getElem (by rw [hxl]; decide)⟩
    have g0 := hf 0 _ rfl
    rw [hz0] at g0
    obtain ⟨x0, q0, _, w0⟩ := DataW.trod_int Try.underlying3 g0
    simp [e3] at q0
    obtain rfl := q0
    obtain ⟨z1, hz1⟩ : ∃ z, xs[1]? = some z := ⟨_, List.getElem?_eq_getElem (by rw [hxl]; decide)⟩
    have g1 := hf 1 _ rfl
    rw [hz1] at g1
    obtain ⟨x1, q1, _, w1⟩ := DataW.trod_int Try.underlying3 g1
    simp [e3] at q1
    obtain rfl := q1
    obtain ⟨z2, hz2⟩ : ∃ z, xs[2]? = some z := ⟨_, List.getElem?_eq_getElem (by rw [hxl]; decide)⟩
    have g2 := hf 2 _ rfl
    rw [hz2] at g2
    obtain ⟨x2, q2, _, w2⟩ := DataW.trod_int Try.underlying3 g2
    simp [e3] at q2
    obtain rfl := q2
    obtain ⟨z3, hz3⟩ : ∃ z, xs[3]? = some z := ⟨_, List.getElem?_eq_getElem (by rw [hxl]; decide)⟩
    have g3 := hf 3 _ rfl
    rw [hz3] at g3
    obtain ⟨x3, q3, _, w3⟩ := DataW.trod_int Try.underlying3 g3
    simp [e3] at q3
    obtain rfl := q3
    obtain ⟨z4, hz4⟩ : ∃ z, xs[4]? = some z := ⟨_, List.getElem?_eq_getElem (by rw [hxl]; decide)⟩
    have g4 := hf 4 _ rfl
    rw [hz4] at g4
    obtain ⟨x4, q4, _, w4⟩ := DataW.trod_int Try.underlying3 g4
    simp [e3] at q4
    obtain rfl := q4
    obtain ⟨z5, hz5⟩ : ∃ z, xs[5]? = some z := ⟨_, List.getElem?_eq_getElem (by rw [hxl]; decide)⟩
    have g5 := hf 5 _ rfl
    rw [hz5] at g5
    obtain ⟨x5, q5, _, w5⟩ := DataW.trod_int Try.underlying3 g5
    simp [e3] at q5
    obtain rfl := q5
    obtain ⟨z6, hz6⟩ : ∃ z, xs[6]? = some z := ⟨_, List.getElem?_eq_getElem (by rw [hxl]; decide)⟩
    have g6 := hf 6 _ rfl
    rw [hz6] at g6
    obtain ⟨x6, q6, _, w6⟩ := DataW.trod_int Try.underlying3 g6
    simp [e3] at q6
    obtain rfl := q6
    obtain ⟨z7, hz7⟩ : ∃ z, xs[7]? = some z := ⟨_, List.getElem?_eq_getElem (by rw [hxl]; decide)⟩
    have g7 := hf 7 _ rfl
    rw [hz7] at g7
    obtain ⟨x7, q7, _, w7⟩ := DataW.trod_int Try.underlying3 g7
    simp [e3] at q7
    obtain rfl := q7
    obtain ⟨z8, hz8⟩ : ∃ z, xs[8]? = some z := ⟨_, List.getElem?_eq_getElem (by rw [hxl]; decide)⟩
    have g8 := hf 8 _ rfl
    rw [hz8] at g8
    obtain ⟨x8, q8, _, w8⟩ := DataW.trod_int Try.underlying3 g8
    simp [e3] at q8
    obtain rfl := q8
    obtain ⟨z9, hz9⟩ : ∃ z, xs[9]? = some z := ⟨_, List.getElem?_eq_getElem (by rw [hxl]; decide)⟩
    have g9 := hf 9 _ rfl
    rw [hz9] at g9
    obtain ⟨x9, q9, _, w9⟩ := DataW.trod_int Try.underlying3 g9
    simp [e3] at q9
    obtain rfl := q9
    obtain ⟨z10, hz10⟩ : ∃ z, xs[10]? = some z := ⟨_, List.getElem?_eq_getElem (by rw [hxl]; decide)⟩
    have g10 := hf 10 _ rfl
    rw [hz10] at g10
    obtain ⟨x10, q10, _, w10⟩ := DataW.trod_int Try.underlying3 g10
    simp [e3] at q10
    obtain rfl := q10
    obtain ⟨z11, hz11⟩ : ∃ z, xs[11]? = some z := ⟨_, List.getElem?_eq_getElem (by rw [hxl]; decide)⟩
    have g11 := hf 11 _ rfl
    rw [hz11] at g11
    obtain ⟨x11, q11, _, w11⟩ := DataW.trod_int Try.underlying3 g11
    simp [e3] at q11
    obtain rfl := q11
    exact ⟨x0, x1, x2, x3, x4, x5, x6, x7, x8, x9, x10, x11, rfl, w0, w1, w2, w3, w4, w5, w6, w7, w8, w9, w10, w11⟩
theorem own : ownKnob Try.prog.godebug = none := by kernel_rfl
theorem laid : laidOutB Try.prog = true := by kernel_rfl
set_option maxHeartbeats 1000000 in
set_option maxRecDepth 100000 in
theorem lifted (os : Os) (started : os.Started) (H : Type) (enc : TypeId × Value → H) :
    ReturnsInHanded {} Try.checked os 3 .any (Rows.floatStartsSpec.pre6 enc Try.prog Try.f3 Rows.floatStartsRow.domain false) (Rows.floatStartsSpec.post enc Try.prog Try.f3 false true false false) := by
  refine returnsInHanded_of_change_sized (C := Try.checked) own started (by kernel_rfl) Try.func3
    (ChangeSpec.witness6 (enc := enc) (C := Try.checked) false ⟨#[], #[.agg #[.int .i64 0, .int .i64 0, .int .i64 0, .int .i64 0], .agg #[.int .i64 0, .int .i64 0, .int .i64 0, .int .i64 0], .agg #[.int .i64 0, .int .i64 0, .int .i64 0, .int .i64 0, .int .i64 0, .int .i64 0, .int .i64 0, .int .i64 0, .int .i64 0, .int .i64 0, .int .i64 0, .int .i64 0], .int .i64 0, .int .i64 0], []⟩ 8 (by kernel_rfl) (by kernel_rfl) (by kernel_rfl) (by kernel_rfl)) ?_
  intro W base args ds gs before hval0 hW hcnd hsz0 _
  have hsz : (DataW.weightsEach Try.prog (Try.f3.params.toList ++ Rows.floatStartsSpec.plain.varTypes Try.prog) (ds ++ gs)).all (· ≤ reachBytes) = true := hsz0
  have hval : ∀ (j : Nat) t v, Try.f3.params[j]? = some t → args[j]? = some v → Value.okWide Try.prog W .any base t v := hval0
  have hW' := hW
  obtain ⟨p, q, hA0, hV, rfl, hfz, hnd⟩ := hW
  have hA : DataW.TrodAll enc Try.prog W 0 (fun _ => true) true Try.f3.params.toList args.toList ds p := hA0
  rw [Try.params3] at hA hval hsz
  obtain ⟨v0, vs0, d0, ds0, p0, q0, hargs, rfl, rfl, h0, r0⟩ := trodAll_cons hA
  obtain ⟨v1, vs1, d1, ds1, p1, q1, rfl, rfl, rfl, h1, r1⟩ := trodAll_cons r0
  obtain ⟨v2, vs2, d2, ds2, p2, q2, rfl, rfl, rfl, h2, r2⟩ := trodAll_cons r1
  obtain ⟨v3, vs3, d3, ds3, p3, q3, rfl, rfl, rfl, h3, r3⟩ := trodAll_cons r2
  obtain ⟨v4, vs4, d4, ds4, p4, q4, rfl, rfl, rfl, h4, r4⟩ := trodAll_cons r3
  obtain ⟨rfl, rfl, rfl⟩ := trodAll_nil r4
  obtain rfl : args = #[v0, v1, v2, v3, v4] := by cases args; simp_all
  obtain ⟨rfl, rfl⟩ := trodVars_none hV
  have b0 : ∀ x ∈ p0, x.block < W.heap.size := fun x hx => hW'.lt x (by simp [hx])
  have k0 := h0
  have b1 : ∀ x ∈ p1, x.block < W.heap.size := fun x hx => hW'.lt x (by simp [hx])
  have k1 := h1
  have b2 : ∀ x ∈ p2, x.block < W.heap.size := fun x hx => hW'.lt x (by simp [hx])
  have k2 := h2
  have b3 : ∀ x ∈ p3, x.block < W.heap.size := fun x hx => hW'.lt x (by simp [hx])
  have k3 := h3
  have b4 : ∀ x ∈ p4, x.block < W.heap.size := fun x hx => hW'.lt x (by simp [hx])
  have k4 := h4
  obtain ⟨cs0, rfl, hs0⟩ := okWide_struct Try.underlying23 (hval 0 23 v0 rfl rfl)
  obtain ⟨fu0, hf0⟩ := h0
  obtain ⟨a0_0, a0_1, a0_2, a0_3, q0, w0_0, w0_1, w0_2, w0_3⟩ := rd23 hf0
  obtain rfl : cs0 = #[.int .i64 a0_0, .int .i64 a0_1, .int .i64 a0_2, .int .i64 a0_3] := by apply Array.ext'; simpa [Value.cells] using q0
  clear q0 hs0 hf0
  obtain ⟨cs1, rfl, hs1⟩ := okWide_struct Try.underlying23 (hval 1 23 v1 rfl rfl)
  obtain ⟨fu1, hf1⟩ := h1
  obtain ⟨a1_0, a1_1, a1_2, a1_3, q1, w1_0, w1_1, w1_2, w1_3⟩ := rd23 hf1
  obtain rfl : cs1 = #[.int .i64 a1_0, .int .i64 a1_1, .int .i64 a1_2, .int .i64 a1_3] := by apply Array.ext'; simpa [Value.cells] using q1
  clear q1 hs1 hf1
  obtain ⟨cs2, rfl, hs2⟩ := okWide_struct Try.underlying25 (hval 2 25 v2 rfl rfl)
  obtain ⟨fu2, hf2⟩ := h2
  obtain ⟨a2_0, a2_1, a2_2, a2_3, a2_4, a2_5, a2_6, a2_7, a2_8, a2_9, a2_10, a2_11, q2, w2_0, w2_1, w2_2, w2_3, w2_4, w2_5, w2_6, w2_7, w2_8, w2_9, w2_10, w2_11⟩ := rd25 hf2
  obtain rfl : cs2 = #[.int .i64 a2_0, .int .i64 a2_1, .int .i64 a2_2, .int .i64 a2_3, .int .i64 a2_4, .int .i64 a2_5, .int .i64 a2_6, .int .i64 a2_7, .int .i64 a2_8, .int .i64 a2_9, .int .i64 a2_10, .int .i64 a2_11] := by apply Array.ext'; simpa [Value.cells] using q2
  clear q2 hs2 hf2
  obtain ⟨a3, rfl, rfl, rfl, w3⟩ := open_int Try.underlying3 (hval 3 3 v3 rfl rfl) h3
  obtain ⟨a4, rfl, rfl, rfl, w4⟩ := open_int Try.underlying3 (hval 4 3 v4 rfl rfl) h4
  clear hA0 hval0 hsz0 hsz
  refine (Fl.FloatStarts_law a0_0 a0_1 a0_2 a0_3 a1_0 a1_1 a1_2 a1_3 a2_0 a2_1 a2_2 a2_3 a2_4 a2_5 a2_6 a2_7 a2_8 a2_9 a2_10 a2_11 a3 a4 W w0_0 w0_1 w0_2 w0_3 w1_0 w1_1 w1_2 w1_3 w2_0 w2_1 w2_2 w2_3 w2_4 w2_5 w2_6 w2_7 w2_8 w2_9 w2_10 w2_11 w3 w4).mono fun e W' ⟨he, bel⟩ => ?_
  subst he
  exact ⟨_, rfl, _, _, _, [], _, [], hW', trodAll_mk1 (shut_bool Try.underlying4 _), (trodAll_cons_mk (Below.trod laid (by kernel_rfl) (of_decide_eq_true (by kernel_rfl)) k0 bel b0) (trodAll_cons_mk (Below.trod laid (by kernel_rfl) (of_decide_eq_true (by kernel_rfl)) k1 bel b1) (trodAll_cons_mk (Below.trod laid (by kernel_rfl) (of_decide_eq_true (by kernel_rfl)) k2 bel b2) (trodAll_cons_mk (Below.trod laid (by kernel_rfl) (of_decide_eq_true (by kernel_rfl)) k3 bel b3) (trodAll_cons_mk (Below.trod laid (by kernel_rfl) (of_decide_eq_true (by kernel_rfl)) k4 bel b4) trodAll_mk0))))), rfl, bel.frame _, fun h => by cases h⟩
theorem over : Rows.floatStartsRow.holds Try.pinned (OpenSpec.ofChange Rows.floatStartsSpec) :=
  OpenClaim.holds_of_wide 3 Try.f3 rfl rfl rfl rfl rfl rfl rfl ⟨rfl, rfl, rfl, rfl, rfl⟩ rfl rfl rfl rfl rfl (by kernel_rfl) Try.func3 (by kernel_rfl)
    (of_decide_eq_true (by kernel_rfl)) (by unfold Func.isWrapper; first | (rw [if_pos (by decide +kernel)]; kernel_rfl) | (rw [if_neg (by decide +kernel)]; exact ⟨rfl, rfl⟩))
    (fun os started H enc _ => lifted os started H enc)
theorem proved : Rows.FloatStartsSaid := over
#print axioms proved
end Go.Proofs.Ytajpnmiblepmkaa.floatStarts
namespace Go.Proofs.Ytajpnmiblepmkaa
/-- The row, under a short name, for the claim. -/
theorem floatStarts_holds : Rows.FloatStartsSaid := floatStarts.proved
end Go.Proofs.Ytajpnmiblepmkaa
