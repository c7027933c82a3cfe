/- FloatFrames: for every input that the statement lets in, the law answers true and its arguments read as before. No condition beside the statement's own. -/
import Derived.Test.YtajpnmiblepmkaaRows
import Derived.Test.YtajpnmiblepmkaaFlN
import Derived.WalkKit
import Derived.ProofKit
import Derived.OpenShut
import Derived.ShutString
import Derived.ChangeOld
import Derived.Below
import Derived.Carry
import Derived.SizedLaws
import Derived.Deep.Slices
import Derived.Lib.SmallJoins
namespace Go.Proofs.Ytajpnmiblepmkaa.floatFrames
open Go.ChangeShapes Go.WideShapes Go.ChangeAt Go.RowKit Go.Deep
open Go.ChangeMaps (open_string shut_string)
set_option linter.unusedVariables false
set_option linter.unusedSimpArgs false
theorem rd23 {H : Type} {enc : TypeId × Value → H} {w : World} {base : Nat} {spare : Nat → Bool} {held : Bool} {n : Nat} {cs : List Value} {y : DataW H × List MemPlace}
    (h : DataW.trod enc Try.prog w base spare held n 23 cs = some y) : ∃ (x0 : Int) (x1 : Int) (x2 : Int) (x3 : Int), cs = [.int .i64 x0, .int .i64 x1, .int .i64 x2, .int .i64 x3] ∧ (Lit.int .i64 x0).wf = true ∧ (Lit.int .i64 x1).wf = true ∧ (Lit.int .i64 x2).wf = true ∧ (Lit.int .i64 x3).wf = true := by
  have e3 : Try.prog.cellsOf 3 = 1 := by kernel_rfl
  have e23 : Try.prog.cellsOf 23 = 4 := by kernel_rfl
  obtain ⟨xs, m, rfl, hy, hl, hxl, hf⟩ := DataW.trod_struct Try.underlying23 h
  rw [e23] at hl
  match cs, hl with
  | [c0, c1, c2, c3], _ =>
    obtain ⟨z0, hz0⟩ : ∃ z, xs[0]? = some z := ⟨_, List.getElem?_eq_getElem (by rw [hxl]; decide)⟩
    have g0 := hf 0 _ rfl
    rw [hz0] at g0
    obtain ⟨x0, q0, _, w0⟩ := DataW.trod_int Try.underlying3 g0
    simp [e3] at q0
    obtain rfl := q0
    obtain ⟨z1, hz1⟩ : ∃ z, xs[1]? = some z := ⟨_, List.getElem?_eq_getElem (by rw [hxl]; decide)⟩
    have g1 := hf 1 _ rfl
    rw [hz1] at g1
    obtain ⟨x1, q1, _, w1⟩ := DataW.trod_int Try.underlying3 g1
    simp [e3] at q1
    obtain rfl := q1
    obtain ⟨z2, hz2⟩ : ∃ z, xs[2]? = some z := ⟨_, List.getElem?_eq_getElem (by rw [hxl]; decide)⟩
    have g2 := hf 2 _ rfl
    rw [hz2] at g2
    obtain ⟨x2, q2, _, w2⟩ := DataW.trod_int Try.underlying3 g2
    simp [e3] at q2
    obtain rfl := q2
    obtain ⟨z3, hz3⟩ : ∃ z, xs[3]? = some z := ⟨_, List.getElem?_eq_getElem (by rw [hxl]; decide)⟩
    have g3 := hf 3 _ rfl
    rw [hz3] at g3
    obtain ⟨x3, q3, _, w3⟩ := DataW.trod_int Try.underlying3 g3
    simp [e3] at q3
    obtain rfl := q3
    exact ⟨x0, x1, x2, x3, rfl, w0, w1, w2, w3⟩
theorem rd39 {H : Type} {enc : TypeId × Value → H} {w : World} {base : Nat} {spare : Nat → Bool} {held : Bool} {n : Nat} {cs : List Value} {y : DataW H × List MemPlace}
    (h : DataW.trod enc Try.prog w base spare held n 39 cs = some y) : ∃ (x0 : Int) (x1 : Int) (x2 : Int), cs = [.int .i64 x0, .int .i64 x1, .int .i64 x2] ∧ (Lit.int .i64 x0).wf = true ∧ (Lit.int .i64 x1).wf = true ∧ (Lit.int .i64 x2).wf = true := by
  have e3 : Try.prog.cellsOf 3 = 1 := by kernel_rfl
  have e39 : Try.prog.cellsOf 39 = 3 := by kernel_rfl
  obtain ⟨xs, m, rfl, hy, hl, hxl, hf⟩ := DataW.trod_struct Try.underlying39 h
  rw [e39] at hl
  match cs, hl with
  | [c0, c1, c2], _ =>
    obtain ⟨z0, hz0⟩ : ∃ z, xs[0]? = some z := ⟨_, List.getElem?_eq_getElem (by rw [hxl]; decide)⟩
    have g0 := hf 0 _ rfl
    rw [hz0] at g0
    obtain ⟨x0, q0, _, w0⟩ := DataW.trod_int Try.underlying3 g0
    simp [e3] at q0
    obtain rfl := q0
    obtain ⟨z1, hz1⟩ : ∃ z, xs[1]? = some z := ⟨_, List.getElem?_eq_getElem (by rw [hxl]; decide)⟩
    have g1 := hf 1 _ rfl
    rw [hz1] at g1
    obtain ⟨x1, q1, _, w1⟩ := DataW.trod_int Try.underlying3 g1
    simp [e3] at q1
    obtain rfl := q1
    obtain ⟨z2, hz2⟩ : ∃ z, xs[2]? = some z := ⟨_, List.getElem?_eq_getElem (by rw [hxl]; decide)⟩
    have g2 := hf 2 _ rfl
    rw [hz2] at g2
    obtain ⟨x2, q2, _, w2⟩ := DataW.trod_int Try.underlying3 g2
    simp [e3] at q2
    obtain rfl := q2
    exact ⟨x0, x1, x2, rfl, w0, w1, w2⟩
theorem own : ownKnob Try.prog.godebug = none := by kernel_rfl
theorem laid : laidOutB Try.prog = true := by kernel_rfl
set_option maxHeartbeats 1000000 in
set_option maxRecDepth 100000 in
theorem lifted (os : Os) (started : os.Started) (H : Type) (enc : TypeId × Value → H) :
    ReturnsInHanded {} Try.checked os 8 .any (Rows.floatFramesSpec.pre6 enc Try.prog Try.f8 Rows.floatFramesRow.domain false) (Rows.floatFramesSpec.post enc Try.prog Try.f8 false true false false) := by
  refine returnsInHanded_of_change_sized (C := Try.checked) own started (by kernel_rfl) Try.func8
    (ChangeSpec.witness6 (enc := enc) (C := Try.checked) false ⟨#[], #[.agg #[.int .i64 0, .int .i64 0, .int .i64 0, .int .i64 0], .agg #[.int .i64 0, .int .i64 0, .int .i64 0]], []⟩ 8 (by kernel_rfl) (by kernel_rfl) (by kernel_rfl) (by kernel_rfl)) ?_
  intro W base args ds gs before hval0 hW hcnd hsz0 _
  have hsz : (DataW.weightsEach Try.prog (Try.f8.params.toList ++ Rows.floatFramesSpec.plain.varTypes Try.prog) (ds ++ gs)).all (· ≤ reachBytes) = true := hsz0
  have hval : ∀ (j : Nat) t v, Try.f8.params[j]? = some t → args[j]? = some v → Value.okWide Try.prog W .any base t v := hval0
  have hW' := hW
  obtain ⟨p, q, hA0, hV, rfl, hfz, hnd⟩ := hW
  have hA : DataW.TrodAll enc Try.prog W 0 (fun _ => true) true Try.f8.params.toList args.toList ds p := hA0
  rw [Try.params8] at hA hval hsz
  obtain ⟨v0, vs0, d0, ds0, p0, q0, hargs, rfl, rfl, h0, r0⟩ := trodAll_cons hA
  obtain ⟨v1, vs1, d1, ds1, p1, q1, rfl, rfl, rfl, h1, r1⟩ := trodAll_cons r0
  obtain ⟨rfl, rfl, rfl⟩ := trodAll_nil r1
  obtain rfl : args = #[v0, v1] := by cases args; simp_all
  obtain ⟨rfl, rfl⟩ := trodVars_none hV
  have b0 : ∀ x ∈ p0, x.block < W.heap.size := fun x hx => hW'.lt x (by simp [hx])
  have k0 := h0
  have b1 : ∀ x ∈ p1, x.block < W.heap.size := fun x hx => hW'.lt x (by simp [hx])
  have k1 := h1
  obtain ⟨cs0, rfl, hs0⟩ := okWide_struct Try.underlying23 (hval 0 23 v0 rfl rfl)
  obtain ⟨fu0, hf0⟩ := h0
  obtain ⟨a0_0, a0_1, a0_2, a0_3, q0, w0_0, w0_1, w0_2, w0_3⟩ := rd23 hf0
  obtain rfl : cs0 = #[.int .i64 a0_0, .int .i64 a0_1, .int .i64 a0_2, .int .i64 a0_3] := by apply Array.ext'; simpa [Value.cells] using q0
  clear q0 hs0 hf0
  obtain ⟨cs1, rfl, hs1⟩ := okWide_struct Try.underlying39 (hval 1 39 v1 rfl rfl)
  obtain ⟨fu1, hf1⟩ := h1
  obtain ⟨a1_0, a1_1, a1_2, q1, w1_0, w1_1, w1_2⟩ := rd39 hf1
  obtain rfl : cs1 = #[.int .i64 a1_0, .int .i64 a1_1, .int .i64 a1_2] := by apply Array.ext'; simpa [Value.cells] using q1
  clear q1 hs1 hf1
  clear hA0 hval0 hsz0 hsz
  refine (Fl.FloatFrames_law a0_0 a0_1 a0_2 a0_3 a1_0 a1_1 a1_2 W w0_0 w0_1 w0_2 w0_3 w1_0 w1_1 w1_2).mono fun e W' ⟨he, bel⟩ => ?_
  subst he
  exact ⟨_, rfl, _, _, _, [], _, [], hW', trodAll_mk1 (shut_bool Try.underlying4 _), (trodAll_cons_mk (Below.trod laid (by kernel_rfl) (of_decide_eq_true (by kernel_rfl)) k0 bel b0) (trodAll_cons_mk (Below.trod laid (by kernel_rfl) (of_decide_eq_true (by kernel_rfl)) k1 bel b1) trodAll_mk0)), rfl, bel.frame _, fun h => by cases h⟩
theorem over : Rows.floatFramesRow.holds Try.pinned (OpenSpec.ofChange Rows.floatFramesSpec) :=
  OpenClaim.holds_of_wide 8 Try.f8 rfl rfl rfl rfl rfl rfl rfl ⟨rfl, rfl, rfl, rfl, rfl⟩ rfl rfl rfl rfl rfl (by kernel_rfl) Try.func8 (by kernel_rfl)
    (of_decide_eq_true (by kernel_rfl)) (by unfold Func.isWrapper; first | (rw [if_pos (by decide +kernel)]; kernel_rfl) | (rw [if_neg (by decide +kernel)]; exact ⟨rfl, rfl⟩))
    (fun os started H enc _ => lifted os started H enc)
theorem proved : Rows.FloatFramesSaid := over
#print axioms proved
end Go.Proofs.Ytajpnmiblepmkaa.floatFrames
namespace Go.Proofs.Ytajpnmiblepmkaa
/-- The row, under a short name, for the claim. -/
theorem floatFrames_holds : Rows.FloatFramesSaid := floatFrames.proved
end Go.Proofs.Ytajpnmiblepmkaa
