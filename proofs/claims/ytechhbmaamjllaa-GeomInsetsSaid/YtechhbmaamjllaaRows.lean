/-
  No cell of these rows narrows 'for every input' (looked for: loops, veiled, ifaces, maps, wideKeys, modest, calm, conditions, laid).
  DERIVED. THE GIVEN ROWS OF THIS SEAT. 6 by the template 'for every input the law returns true; each argument reads behind the call as it read before'; 0 by the template 'total and deterministic' (their statements: YtechhbmaamjllaaTotals.lean).
  GIVEN WITH THE SEED: the statements are not yours to turn. If you find one false, say at which input.
  Laid BY PROGRAM, IN A SANDBOX (cutbox-rows.mjs): the forced cells as the released guide's own fill.sh prints them over the translation 169f1395db63ffb7… (all of the seat's roots in one cut). By AI agents, Wed Nov 11 2026. No macro, syntax, notation, axiom, sorry.
-/
import Derived.Test.YtechhbmaamjllaaChecked
import GoSem.Claim
import GoSem.ClaimJoined
import GoSem.ClaimMapViews
import Derived.JoinedTies
import Derived.KernelRfl
namespace Go.Proofs.Ytechhbmaamjllaa
/- THE CELL 'sum', in the pinned program and in every row, IS THE sha256 OF THE DUMP (.gsa) THAT YtechhbmaamjllaaProg.lean LOADS. Nothing in Lean hashes anything: it is a label: what it is worth is what the hold of that sum in a sandbox is worth. -/
noncomputable def Try.pinned : Pinned := { name := "ytechhbmaamjllaa", sum := "169f1395db63ffb7b50d89889a77c222730e940f040c9ebd69b2f6260c459ec3", checked := Try.checked }
namespace Rows
def none {H : Type} : Left H := { results := [], args := [] }

/-- 'casementlaw01.GeomMoves': WHATEVER THE INPUT: true; the input reads as it did. -/
def geomMovesSpec : ChangeSpec := { name := "geomMoves", fn := fun _ => fun
  | [d1, d2, d3, d4, d5] => { results := [.lit (.bool true)], args := [d1, d2, d3, d4, d5] }
  | _ => none }
def geomMovesRow : OpenClaim := { program := "ytechhbmaamjllaa", sum := "169f1395db63ffb7b50d89889a77c222730e940f040c9ebd69b2f6260c459ec3", func := "casement/casementlaw01.GeomMoves", spec := "geomMoves", apart := false }
def GeomMovesSaid : Prop := geomMovesRow.holds Try.pinned (OpenSpec.ofChange geomMovesSpec)

/-- ITS FALSE NEIGHBOUR: 'it returns false'. Refute it at one input. -/
def geomMovesWrong : ChangeSpec := { name := "geomMoves", fn := fun _ => fun
  | [d1, d2, d3, d4, d5] => { results := [.lit (.bool false)], args := [d1, d2, d3, d4, d5] }
  | _ => none }
def GeomMovesWrongFalsely : Prop := geomMovesRow.holds Try.pinned (OpenSpec.ofChange geomMovesWrong)

/-- 'casementlaw01.GeomSpans': WHATEVER THE INPUT: true; the input reads as it did. -/
def geomSpansSpec : ChangeSpec := { name := "geomSpans", fn := fun _ => fun
  | [d1, d2, d3] => { results := [.lit (.bool true)], args := [d1, d2, d3] }
  | _ => none }
def geomSpansRow : OpenClaim := { program := "ytechhbmaamjllaa", sum := "169f1395db63ffb7b50d89889a77c222730e940f040c9ebd69b2f6260c459ec3", func := "casement/casementlaw01.GeomSpans", spec := "geomSpans", apart := false }
def GeomSpansSaid : Prop := geomSpansRow.holds Try.pinned (OpenSpec.ofChange geomSpansSpec)

/-- ITS FALSE NEIGHBOUR: 'it returns false'. Refute it at one input. -/
def geomSpansWrong : ChangeSpec := { name := "geomSpans", fn := fun _ => fun
  | [d1, d2, d3] => { results := [.lit (.bool false)], args := [d1, d2, d3] }
  | _ => none }
def GeomSpansWrongFalsely : Prop := geomSpansRow.holds Try.pinned (OpenSpec.ofChange geomSpansWrong)

/-- 'casementlaw01.GeomKept': WHATEVER THE INPUT: true; the input reads as it did. -/
def geomKeptSpec : ChangeSpec := { name := "geomKept", fn := fun _ => fun
  | [d1, d2] => { results := [.lit (.bool true)], args := [d1, d2] }
  | _ => none }
def geomKeptRow : OpenClaim := { program := "ytechhbmaamjllaa", sum := "169f1395db63ffb7b50d89889a77c222730e940f040c9ebd69b2f6260c459ec3", func := "casement/casementlaw01.GeomKept", spec := "geomKept", apart := false }
def GeomKeptSaid : Prop := geomKeptRow.holds Try.pinned (OpenSpec.ofChange geomKeptSpec)

/-- ITS FALSE NEIGHBOUR: 'it returns false'. Refute it at one input. -/
def geomKeptWrong : ChangeSpec := { name := "geomKept", fn := fun _ => fun
  | [d1, d2] => { results := [.lit (.bool false)], args := [d1, d2] }
  | _ => none }
def GeomKeptWrongFalsely : Prop := geomKeptRow.holds Try.pinned (OpenSpec.ofChange geomKeptWrong)

/-- 'casementlaw01.GeomInsets': WHATEVER THE INPUT: true; the input reads as it did. -/
def geomInsetsSpec : ChangeSpec := { name := "geomInsets", fn := fun _ => fun
  | [d1, d2, d3] => { results := [.lit (.bool true)], args := [d1, d2, d3] }
  | _ => none }
def geomInsetsRow : OpenClaim := { program := "ytechhbmaamjllaa", sum := "169f1395db63ffb7b50d89889a77c222730e940f040c9ebd69b2f6260c459ec3", func := "casement/casementlaw01.GeomInsets", spec := "geomInsets", apart := false }
def GeomInsetsSaid : Prop := geomInsetsRow.holds Try.pinned (OpenSpec.ofChange geomInsetsSpec)

/-- ITS FALSE NEIGHBOUR: 'it returns false'. Refute it at one input. -/
def geomInsetsWrong : ChangeSpec := { name := "geomInsets", fn := fun _ => fun
  | [d1, d2, d3] => { results := [.lit (.bool false)], args := [d1, d2, d3] }
  | _ => none }
def GeomInsetsWrongFalsely : Prop := geomInsetsRow.holds Try.pinned (OpenSpec.ofChange geomInsetsWrong)

/-- 'casementlaw01.GeomRects': WHATEVER THE INPUT: true; the input reads as it did. -/
def geomRectsSpec : ChangeSpec := { name := "geomRects", fn := fun _ => fun
  | [d1, d2] => { results := [.lit (.bool true)], args := [d1, d2] }
  | _ => none }
def geomRectsRow : OpenClaim := { program := "ytechhbmaamjllaa", sum := "169f1395db63ffb7b50d89889a77c222730e940f040c9ebd69b2f6260c459ec3", func := "casement/casementlaw01.GeomRects", spec := "geomRects", apart := false }
def GeomRectsSaid : Prop := geomRectsRow.holds Try.pinned (OpenSpec.ofChange geomRectsSpec)

/-- ITS FALSE NEIGHBOUR: 'it returns false'. Refute it at one input. -/
def geomRectsWrong : ChangeSpec := { name := "geomRects", fn := fun _ => fun
  | [d1, d2] => { results := [.lit (.bool false)], args := [d1, d2] }
  | _ => none }
def GeomRectsWrongFalsely : Prop := geomRectsRow.holds Try.pinned (OpenSpec.ofChange geomRectsWrong)

/-- 'casementlaw01.GeomMeets': WHATEVER THE INPUT: true; the input reads as it did. -/
def geomMeetsSpec : ChangeSpec := { name := "geomMeets", fn := fun _ => fun
  | [d1, d2, d3, d4] => { results := [.lit (.bool true)], args := [d1, d2, d3, d4] }
  | _ => none }
def geomMeetsRow : OpenClaim := { program := "ytechhbmaamjllaa", sum := "169f1395db63ffb7b50d89889a77c222730e940f040c9ebd69b2f6260c459ec3", func := "casement/casementlaw01.GeomMeets", spec := "geomMeets", apart := false }
def GeomMeetsSaid : Prop := geomMeetsRow.holds Try.pinned (OpenSpec.ofChange geomMeetsSpec)

/-- ITS FALSE NEIGHBOUR: 'it returns false'. Refute it at one input. -/
def geomMeetsWrong : ChangeSpec := { name := "geomMeets", fn := fun _ => fun
  | [d1, d2, d3, d4] => { results := [.lit (.bool false)], args := [d1, d2, d3, d4] }
  | _ => none }
def GeomMeetsWrongFalsely : Prop := geomMeetsRow.holds Try.pinned (OpenSpec.ofChange geomMeetsWrong)

/- THE SECOND FORM. 'bulk': how many values and letters a reading holds, each counted each time it is reached (what is shared counts as often as it is met; a slice's spare places count too). A statement '..UptoSaid' is the law's where the arguments, and the package variables that the reading takes, are together of bulk at most 1048576: NARROWER than '..Said'. Prove '..Said' where nothing that the law and all that it calls make is longer than what came in: it says more and counts as full. Else prove '..UptoSaid'. A law counts once. -/
mutual
def uptoBulk {H : Type} : DataW H → Nat
  | .lit (.string bytes) => bytes.length + 1
  | .lit _ => 1
  | .nil => 1
  | .ptr d => uptoBulk d + 1
  | .slice elems spare => uptoBulkAll elems + uptoBulkAll spare + 1
  | .agg parts => uptoBulkAll parts + 1
  | .iface _ d => uptoBulk d + 1
  | .map entries => uptoBulkEntries entries + 1
  | .held _ => 1
def uptoBulkAll {H : Type} : List (DataW H) → Nat
  | [] => 0
  | d :: r => uptoBulk d + uptoBulkAll r
def uptoBulkEntries {H : Type} : List (Lit × DataW H) → Nat
  | [] => 0
  | x :: r => uptoBulkEntry x + uptoBulkEntries r
def uptoBulkEntry {H : Type} : Lit × DataW H → Nat
  | (.string bytes, d) => bytes.length + uptoBulk d + 1
  | (_, d) => uptoBulk d + 1
 end
def uptoSmall : (H : Type) → List (DataW H) → Bool := fun _ ds => decide (uptoBulkAll ds ≤ 1048576)
def OpenSpec.upto (s : _root_.Go.ChangeSpec) : _root_.Go.OpenSpec := { _root_.Go.OpenSpec.ofChange s with cond := some uptoSmall }

/-- 'casementlaw01.GeomMoves', WHERE WHAT IT READS IS OF BULK AT MOST 1048576: true; the input reads as it did. -/
def geomMovesUptoRow : OpenClaim := { program := "ytechhbmaamjllaa", sum := "169f1395db63ffb7b50d89889a77c222730e940f040c9ebd69b2f6260c459ec3", func := "casement/casementlaw01.GeomMoves", spec := "geomMoves", apart := false, narrowed := true }
def GeomMovesUptoSaid : Prop := geomMovesUptoRow.holds Try.pinned (OpenSpec.upto geomMovesSpec)

/-- 'casementlaw01.GeomSpans', WHERE WHAT IT READS IS OF BULK AT MOST 1048576: true; the input reads as it did. -/
def geomSpansUptoRow : OpenClaim := { program := "ytechhbmaamjllaa", sum := "169f1395db63ffb7b50d89889a77c222730e940f040c9ebd69b2f6260c459ec3", func := "casement/casementlaw01.GeomSpans", spec := "geomSpans", apart := false, narrowed := true }
def GeomSpansUptoSaid : Prop := geomSpansUptoRow.holds Try.pinned (OpenSpec.upto geomSpansSpec)

/-- 'casementlaw01.GeomKept', WHERE WHAT IT READS IS OF BULK AT MOST 1048576: true; the input reads as it did. -/
def geomKeptUptoRow : OpenClaim := { program := "ytechhbmaamjllaa", sum := "169f1395db63ffb7b50d89889a77c222730e940f040c9ebd69b2f6260c459ec3", func := "casement/casementlaw01.GeomKept", spec := "geomKept", apart := false, narrowed := true }
def GeomKeptUptoSaid : Prop := geomKeptUptoRow.holds Try.pinned (OpenSpec.upto geomKeptSpec)

/-- 'casementlaw01.GeomInsets', WHERE WHAT IT READS IS OF BULK AT MOST 1048576: true; the input reads as it did. -/
def geomInsetsUptoRow : OpenClaim := { program := "ytechhbmaamjllaa", sum := "169f1395db63ffb7b50d89889a77c222730e940f040c9ebd69b2f6260c459ec3", func := "casement/casementlaw01.GeomInsets", spec := "geomInsets", apart := false, narrowed := true }
def GeomInsetsUptoSaid : Prop := geomInsetsUptoRow.holds Try.pinned (OpenSpec.upto geomInsetsSpec)

/-- 'casementlaw01.GeomRects', WHERE WHAT IT READS IS OF BULK AT MOST 1048576: true; the input reads as it did. -/
def geomRectsUptoRow : OpenClaim := { program := "ytechhbmaamjllaa", sum := "169f1395db63ffb7b50d89889a77c222730e940f040c9ebd69b2f6260c459ec3", func := "casement/casementlaw01.GeomRects", spec := "geomRects", apart := false, narrowed := true }
def GeomRectsUptoSaid : Prop := geomRectsUptoRow.holds Try.pinned (OpenSpec.upto geomRectsSpec)

/-- 'casementlaw01.GeomMeets', WHERE WHAT IT READS IS OF BULK AT MOST 1048576: true; the input reads as it did. -/
def geomMeetsUptoRow : OpenClaim := { program := "ytechhbmaamjllaa", sum := "169f1395db63ffb7b50d89889a77c222730e940f040c9ebd69b2f6260c459ec3", func := "casement/casementlaw01.GeomMeets", spec := "geomMeets", apart := false, narrowed := true }
def GeomMeetsUptoSaid : Prop := geomMeetsUptoRow.holds Try.pinned (OpenSpec.upto geomMeetsSpec)

end Rows
end Go.Proofs.Ytechhbmaamjllaa
