/-
  No cell of these rows narrows 'for every input' (looked for: loops, veiled, ifaces, maps, wideKeys, modest, calm, conditions, laid).
  DERIVED. THE GIVEN ROWS OF THIS SEAT. 2 by the template 'for every input the law returns true; each argument reads behind the call as it read before'; 0 by the template 'total and deterministic' (their statements: YtechhbmaamjllabTotals.lean).
  GIVEN WITH THE SEED: the statements are not yours to turn. If you find one false, say at which input.
  Laid BY PROGRAM, IN A SANDBOX (cutbox-rows.mjs): the forced cells as the released guide's own fill.sh prints them over the translation 19b31ab80d7d1a50… (all of the seat's roots in one cut). By AI agents, Wed Nov 11 2026. No macro, syntax, notation, axiom, sorry.
-/
import Derived.Test.YtechhbmaamjllabChecked
import GoSem.Claim
import GoSem.ClaimJoined
import GoSem.ClaimMapViews
import Derived.JoinedTies
import Derived.KernelRfl
namespace Go.Proofs.Ytechhbmaamjllab
/- THE CELL 'sum', in the pinned program and in every row, IS THE sha256 OF THE DUMP (.gsa) THAT YtechhbmaamjllabProg.lean LOADS. Nothing in Lean hashes anything: it is a label: what it is worth is what the hold of that sum in a sandbox is worth. -/
noncomputable def Try.pinned : Pinned := { name := "ytechhbmaamjllab", sum := "19b31ab80d7d1a505a2cb81ac8c90e242fc2e33576f559f2417f42c6ef90c6b2", checked := Try.checked }
namespace Rows
def none {H : Type} : Left H := { results := [], args := [] }

/-- 'casementlaw01.GeomLaws': WHATEVER THE INPUT: true; the input reads as it did. -/
def geomLawsSpec : ChangeSpec := { name := "geomLaws", fn := fun _ => fun
  | [d1, d2, d3] => { results := [.lit (.bool true)], args := [d1, d2, d3] }
  | _ => none }
def geomLawsRow : OpenClaim := { program := "ytechhbmaamjllab", sum := "19b31ab80d7d1a505a2cb81ac8c90e242fc2e33576f559f2417f42c6ef90c6b2", func := "casement/casementlaw01.GeomLaws", spec := "geomLaws", apart := false }
def GeomLawsSaid : Prop := geomLawsRow.holds Try.pinned (OpenSpec.ofChange geomLawsSpec)

/-- ITS FALSE NEIGHBOUR: 'it returns false'. Refute it at one input. -/
def geomLawsWrong : ChangeSpec := { name := "geomLaws", fn := fun _ => fun
  | [d1, d2, d3] => { results := [.lit (.bool false)], args := [d1, d2, d3] }
  | _ => none }
def GeomLawsWrongFalsely : Prop := geomLawsRow.holds Try.pinned (OpenSpec.ofChange geomLawsWrong)

/-- 'casementlaw01.GeomPoints': WHATEVER THE INPUT: true; the input reads as it did. -/
def geomPointsSpec : ChangeSpec := { name := "geomPoints", fn := fun _ => fun
  | [d1, d2, d3] => { results := [.lit (.bool true)], args := [d1, d2, d3] }
  | _ => none }
def geomPointsRow : OpenClaim := { program := "ytechhbmaamjllab", sum := "19b31ab80d7d1a505a2cb81ac8c90e242fc2e33576f559f2417f42c6ef90c6b2", func := "casement/casementlaw01.GeomPoints", spec := "geomPoints", apart := false }
def GeomPointsSaid : Prop := geomPointsRow.holds Try.pinned (OpenSpec.ofChange geomPointsSpec)

/-- ITS FALSE NEIGHBOUR: 'it returns false'. Refute it at one input. -/
def geomPointsWrong : ChangeSpec := { name := "geomPoints", fn := fun _ => fun
  | [d1, d2, d3] => { results := [.lit (.bool false)], args := [d1, d2, d3] }
  | _ => none }
def GeomPointsWrongFalsely : Prop := geomPointsRow.holds Try.pinned (OpenSpec.ofChange geomPointsWrong)

/- THE SECOND FORM. 'bulk': how many values and letters a reading holds, each counted each time it is reached (what is shared counts as often as it is met; a slice's spare places count too). A statement '..UptoSaid' is the law's where the arguments, and the package variables that the reading takes, are together of bulk at most 1048576: NARROWER than '..Said'. Prove '..Said' where nothing that the law and all that it calls make is longer than what came in: it says more and counts as full. Else prove '..UptoSaid'. A law counts once. -/
mutual
def uptoBulk {H : Type} : DataW H → Nat
  | .lit (.string bytes) => bytes.length + 1
  | .lit _ => 1
  | .nil => 1
  | .ptr d => uptoBulk d + 1
  | .slice elems spare => uptoBulkAll elems + uptoBulkAll spare + 1
  | .agg parts => uptoBulkAll parts + 1
  | .iface _ d => uptoBulk d + 1
  | .map entries => uptoBulkEntries entries + 1
  | .held _ => 1
def uptoBulkAll {H : Type} : List (DataW H) → Nat
  | [] => 0
  | d :: r => uptoBulk d + uptoBulkAll r
def uptoBulkEntries {H : Type} : List (Lit × DataW H) → Nat
  | [] => 0
  | x :: r => uptoBulkEntry x + uptoBulkEntries r
def uptoBulkEntry {H : Type} : Lit × DataW H → Nat
  | (.string bytes, d) => bytes.length + uptoBulk d + 1
  | (_, d) => uptoBulk d + 1
 end
def uptoSmall : (H : Type) → List (DataW H) → Bool := fun _ ds => decide (uptoBulkAll ds ≤ 1048576)
def OpenSpec.upto (s : _root_.Go.ChangeSpec) : _root_.Go.OpenSpec := { _root_.Go.OpenSpec.ofChange s with cond := some uptoSmall }

/-- 'casementlaw01.GeomLaws', WHERE WHAT IT READS IS OF BULK AT MOST 1048576: true; the input reads as it did. -/
def geomLawsUptoRow : OpenClaim := { program := "ytechhbmaamjllab", sum := "19b31ab80d7d1a505a2cb81ac8c90e242fc2e33576f559f2417f42c6ef90c6b2", func := "casement/casementlaw01.GeomLaws", spec := "geomLaws", apart := false, narrowed := true }
def GeomLawsUptoSaid : Prop := geomLawsUptoRow.holds Try.pinned (OpenSpec.upto geomLawsSpec)

/-- 'casementlaw01.GeomPoints', WHERE WHAT IT READS IS OF BULK AT MOST 1048576: true; the input reads as it did. -/
def geomPointsUptoRow : OpenClaim := { program := "ytechhbmaamjllab", sum := "19b31ab80d7d1a505a2cb81ac8c90e242fc2e33576f559f2417f42c6ef90c6b2", func := "casement/casementlaw01.GeomPoints", spec := "geomPoints", apart := false, narrowed := true }
def GeomPointsUptoSaid : Prop := geomPointsUptoRow.holds Try.pinned (OpenSpec.upto geomPointsSpec)

end Rows
end Go.Proofs.Ytechhbmaamjllab
