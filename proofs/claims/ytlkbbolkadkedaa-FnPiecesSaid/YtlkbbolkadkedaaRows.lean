/-
  No cell of these rows narrows 'for every input' (looked for: loops, veiled, ifaces, maps, wideKeys, modest, calm, conditions, laid).
  DERIVED. THE GIVEN ROWS OF THIS SEAT. 7 by the template 'for every input the law returns true; each argument reads behind the call as it read before'; 0 by the template 'total and deterministic' (their statements: YtlkbbolkadkedaaTotals.lean).
  GIVEN WITH THE SEED: the statements are not yours to turn. If you find one false, say at which input.
  Laid BY PROGRAM, IN A SANDBOX (cutbox-rows.mjs): the forced cells as the released guide's own fill.sh prints them over the translation 6c0762e26629900f… (all of the seat's roots in one cut). By AI agents, Wed Nov 11 2026. No macro, syntax, notation, axiom, sorry.
-/
import Derived.Test.YtlkbbolkadkedaaChecked
import GoSem.Claim
import GoSem.ClaimJoined
import GoSem.ClaimMapViews
import Derived.JoinedTies
import Derived.KernelRfl
namespace Go.Proofs.Ytlkbbolkadkedaa
/- THE CELL 'sum', in the pinned program and in every row, IS THE sha256 OF THE DUMP (.gsa) THAT YtlkbbolkadkedaaProg.lean LOADS. Nothing in Lean hashes anything: it is a label: what it is worth is what the hold of that sum in a sandbox is worth. -/
noncomputable def Try.pinned : Pinned := { name := "ytlkbbolkadkedaa", sum := "6c0762e26629900f6168997055d6c038f87fb210277fe23ea5b91548a58e4a1c", checked := Try.checked }
namespace Rows
def none {H : Type} : Left H := { results := [], args := [] }

/-- 'laws.FnExactGoodPile': WHATEVER THE INPUT: true; the input reads as it did. -/
def fnExactGoodPileSpec : ChangeSpec := { name := "fnExactGoodPile", fn := fun _ => fun
  | [d] => { results := [.lit (.bool true)], args := [d] }
  | _ => none }
def fnExactGoodPileRow : OpenClaim := { program := "ytlkbbolkadkedaa", sum := "6c0762e26629900f6168997055d6c038f87fb210277fe23ea5b91548a58e4a1c", func := "loop.example/g00315/laws.FnExactGoodPile", spec := "fnExactGoodPile", apart := false }
def FnExactGoodPileSaid : Prop := fnExactGoodPileRow.holds Try.pinned (OpenSpec.ofChange fnExactGoodPileSpec)

/-- ITS FALSE NEIGHBOUR: 'it returns false'. Refute it at one input. -/
def fnExactGoodPileWrong : ChangeSpec := { name := "fnExactGoodPile", fn := fun _ => fun
  | [d] => { results := [.lit (.bool false)], args := [d] }
  | _ => none }
def FnExactGoodPileWrongFalsely : Prop := fnExactGoodPileRow.holds Try.pinned (OpenSpec.ofChange fnExactGoodPileWrong)

/-- 'laws.FnExactCovered': WHATEVER THE INPUT: true; the input reads as it did. -/
def fnExactCoveredSpec : ChangeSpec := { name := "fnExactCovered", fn := fun _ => fun
  | [d] => { results := [.lit (.bool true)], args := [d] }
  | _ => none }
def fnExactCoveredRow : OpenClaim := { program := "ytlkbbolkadkedaa", sum := "6c0762e26629900f6168997055d6c038f87fb210277fe23ea5b91548a58e4a1c", func := "loop.example/g00315/laws.FnExactCovered", spec := "fnExactCovered", recurses := true, apart := false }
def FnExactCoveredSaid : Prop := fnExactCoveredRow.holds Try.pinned (OpenSpec.ofChange fnExactCoveredSpec)

/-- ITS FALSE NEIGHBOUR: 'it returns false'. Refute it at one input. -/
def fnExactCoveredWrong : ChangeSpec := { name := "fnExactCovered", fn := fun _ => fun
  | [d] => { results := [.lit (.bool false)], args := [d] }
  | _ => none }
def FnExactCoveredWrongFalsely : Prop := fnExactCoveredRow.holds Try.pinned (OpenSpec.ofChange fnExactCoveredWrong)

/-- 'laws.FnExactMissingIn': WHATEVER THE INPUT: true; the input reads as it did. -/
def fnExactMissingInSpec : ChangeSpec := { name := "fnExactMissingIn", fn := fun _ => fun
  | [d] => { results := [.lit (.bool true)], args := [d] }
  | _ => none }
def fnExactMissingInRow : OpenClaim := { program := "ytlkbbolkadkedaa", sum := "6c0762e26629900f6168997055d6c038f87fb210277fe23ea5b91548a58e4a1c", func := "loop.example/g00315/laws.FnExactMissingIn", spec := "fnExactMissingIn", recurses := true, apart := false }
def FnExactMissingInSaid : Prop := fnExactMissingInRow.holds Try.pinned (OpenSpec.ofChange fnExactMissingInSpec)

/-- ITS FALSE NEIGHBOUR: 'it returns false'. Refute it at one input. -/
def fnExactMissingInWrong : ChangeSpec := { name := "fnExactMissingIn", fn := fun _ => fun
  | [d] => { results := [.lit (.bool false)], args := [d] }
  | _ => none }
def FnExactMissingInWrongFalsely : Prop := fnExactMissingInRow.holds Try.pinned (OpenSpec.ofChange fnExactMissingInWrong)

/-- 'laws.FnExactAddPiece': WHATEVER THE INPUT: true; the input reads as it did. -/
def fnExactAddPieceSpec : ChangeSpec := { name := "fnExactAddPiece", fn := fun _ => fun
  | [d1, d2] => { results := [.lit (.bool true)], args := [d1, d2] }
  | _ => none }
def fnExactAddPieceRow : OpenClaim := { program := "ytlkbbolkadkedaa", sum := "6c0762e26629900f6168997055d6c038f87fb210277fe23ea5b91548a58e4a1c", func := "loop.example/g00315/laws.FnExactAddPiece", spec := "fnExactAddPiece", inPlace := ["slices.overlaps[loop.example/g00315/impl.Bundle]"], apart := false }
def FnExactAddPieceSaid : Prop := fnExactAddPieceRow.holds Try.pinned (OpenSpec.ofChange fnExactAddPieceSpec)

/-- ITS FALSE NEIGHBOUR: 'it returns false'. Refute it at one input. -/
def fnExactAddPieceWrong : ChangeSpec := { name := "fnExactAddPiece", fn := fun _ => fun
  | [d1, d2] => { results := [.lit (.bool false)], args := [d1, d2] }
  | _ => none }
def FnExactAddPieceWrongFalsely : Prop := fnExactAddPieceRow.holds Try.pinned (OpenSpec.ofChange fnExactAddPieceWrong)

/-- 'laws.FnExactWholeOf': WHATEVER THE INPUT: true; the input reads as it did. -/
def fnExactWholeOfSpec : ChangeSpec := { name := "fnExactWholeOf", fn := fun _ => fun
  | [d] => { results := [.lit (.bool true)], args := [d] }
  | _ => none }
def fnExactWholeOfRow : OpenClaim := { program := "ytlkbbolkadkedaa", sum := "6c0762e26629900f6168997055d6c038f87fb210277fe23ea5b91548a58e4a1c", func := "loop.example/g00315/laws.FnExactWholeOf", spec := "fnExactWholeOf", recurses := true, apart := false }
def FnExactWholeOfSaid : Prop := fnExactWholeOfRow.holds Try.pinned (OpenSpec.ofChange fnExactWholeOfSpec)

/-- ITS FALSE NEIGHBOUR: 'it returns false'. Refute it at one input. -/
def fnExactWholeOfWrong : ChangeSpec := { name := "fnExactWholeOf", fn := fun _ => fun
  | [d] => { results := [.lit (.bool false)], args := [d] }
  | _ => none }
def FnExactWholeOfWrongFalsely : Prop := fnExactWholeOfRow.holds Try.pinned (OpenSpec.ofChange fnExactWholeOfWrong)

/-- 'laws.FnPieces': WHATEVER THE INPUT: true; the input reads as it did. -/
def fnPiecesSpec : ChangeSpec := { name := "fnPieces", fn := fun _ => fun
  | [d1, d2] => { results := [.lit (.bool true)], args := [d1, d2] }
  | _ => none }
def fnPiecesRow : OpenClaim := { program := "ytlkbbolkadkedaa", sum := "6c0762e26629900f6168997055d6c038f87fb210277fe23ea5b91548a58e4a1c", func := "loop.example/g00315/laws.FnPieces", spec := "fnPieces", inPlace := ["slices.overlaps[loop.example/g00315/impl.Bundle]"], recurses := true, apart := false }
def FnPiecesSaid : Prop := fnPiecesRow.holds Try.pinned (OpenSpec.ofChange fnPiecesSpec)

/-- ITS FALSE NEIGHBOUR: 'it returns false'. Refute it at one input. -/
def fnPiecesWrong : ChangeSpec := { name := "fnPieces", fn := fun _ => fun
  | [d1, d2] => { results := [.lit (.bool false)], args := [d1, d2] }
  | _ => none }
def FnPiecesWrongFalsely : Prop := fnPiecesRow.holds Try.pinned (OpenSpec.ofChange fnPiecesWrong)

/-- 'laws.FnCovers': WHATEVER THE INPUT: true; the input reads as it did. -/
def fnCoversSpec : ChangeSpec := { name := "fnCovers", fn := fun _ => fun
  | [d1, d2] => { results := [.lit (.bool true)], args := [d1, d2] }
  | _ => none }
def fnCoversRow : OpenClaim := { program := "ytlkbbolkadkedaa", sum := "6c0762e26629900f6168997055d6c038f87fb210277fe23ea5b91548a58e4a1c", func := "loop.example/g00315/laws.FnCovers", spec := "fnCovers", inPlace := ["slices.overlaps[loop.example/g00315/impl.Bundle]"], recurses := true, apart := false }
def FnCoversSaid : Prop := fnCoversRow.holds Try.pinned (OpenSpec.ofChange fnCoversSpec)

/-- ITS FALSE NEIGHBOUR: 'it returns false'. Refute it at one input. -/
def fnCoversWrong : ChangeSpec := { name := "fnCovers", fn := fun _ => fun
  | [d1, d2] => { results := [.lit (.bool false)], args := [d1, d2] }
  | _ => none }
def FnCoversWrongFalsely : Prop := fnCoversRow.holds Try.pinned (OpenSpec.ofChange fnCoversWrong)

/- THE SECOND FORM. 'bulk': how many values and letters a reading holds, each counted each time it is reached (what is shared counts as often as it is met; a slice's spare places count too). A statement '..UptoSaid' is the law's where the arguments, and the package variables that the reading takes, are together of bulk at most 1048576: NARROWER than '..Said'. Prove '..Said' where nothing that the law and all that it calls make is longer than what came in: it says more and counts as full. Else prove '..UptoSaid'. A law counts once. -/
mutual
def uptoBulk {H : Type} : DataW H → Nat
  | .lit (.string bytes) => bytes.length + 1
  | .lit _ => 1
  | .nil => 1
  | .ptr d => uptoBulk d + 1
  | .slice elems spare => uptoBulkAll elems + uptoBulkAll spare + 1
  | .agg parts => uptoBulkAll parts + 1
  | .iface _ d => uptoBulk d + 1
  | .map entries => uptoBulkEntries entries + 1
  | .held _ => 1
def uptoBulkAll {H : Type} : List (DataW H) → Nat
  | [] => 0
  | d :: r => uptoBulk d + uptoBulkAll r
def uptoBulkEntries {H : Type} : List (Lit × DataW H) → Nat
  | [] => 0
  | x :: r => uptoBulkEntry x + uptoBulkEntries r
def uptoBulkEntry {H : Type} : Lit × DataW H → Nat
  | (.string bytes, d) => bytes.length + uptoBulk d + 1
  | (_, d) => uptoBulk d + 1
 end
def uptoSmall : (H : Type) → List (DataW H) → Bool := fun _ ds => decide (uptoBulkAll ds ≤ 1048576)
def OpenSpec.upto (s : _root_.Go.ChangeSpec) : _root_.Go.OpenSpec := { _root_.Go.OpenSpec.ofChange s with cond := some uptoSmall }

/-- 'laws.FnExactGoodPile', WHERE WHAT IT READS IS OF BULK AT MOST 1048576: true; the input reads as it did. -/
def fnExactGoodPileUptoRow : OpenClaim := { program := "ytlkbbolkadkedaa", sum := "6c0762e26629900f6168997055d6c038f87fb210277fe23ea5b91548a58e4a1c", func := "loop.example/g00315/laws.FnExactGoodPile", spec := "fnExactGoodPile", apart := false, narrowed := true }
def FnExactGoodPileUptoSaid : Prop := fnExactGoodPileUptoRow.holds Try.pinned (OpenSpec.upto fnExactGoodPileSpec)

/-- 'laws.FnExactCovered', WHERE WHAT IT READS IS OF BULK AT MOST 1048576: true; the input reads as it did. -/
def fnExactCoveredUptoRow : OpenClaim := { program := "ytlkbbolkadkedaa", sum := "6c0762e26629900f6168997055d6c038f87fb210277fe23ea5b91548a58e4a1c", func := "loop.example/g00315/laws.FnExactCovered", spec := "fnExactCovered", recurses := true, apart := false, narrowed := true }
def FnExactCoveredUptoSaid : Prop := fnExactCoveredUptoRow.holds Try.pinned (OpenSpec.upto fnExactCoveredSpec)

/-- 'laws.FnExactMissingIn', WHERE WHAT IT READS IS OF BULK AT MOST 1048576: true; the input reads as it did. -/
def fnExactMissingInUptoRow : OpenClaim := { program := "ytlkbbolkadkedaa", sum := "6c0762e26629900f6168997055d6c038f87fb210277fe23ea5b91548a58e4a1c", func := "loop.example/g00315/laws.FnExactMissingIn", spec := "fnExactMissingIn", recurses := true, apart := false, narrowed := true }
def FnExactMissingInUptoSaid : Prop := fnExactMissingInUptoRow.holds Try.pinned (OpenSpec.upto fnExactMissingInSpec)

/-- 'laws.FnExactAddPiece', WHERE WHAT IT READS IS OF BULK AT MOST 1048576: true; the input reads as it did. -/
def fnExactAddPieceUptoRow : OpenClaim := { program := "ytlkbbolkadkedaa", sum := "6c0762e26629900f6168997055d6c038f87fb210277fe23ea5b91548a58e4a1c", func := "loop.example/g00315/laws.FnExactAddPiece", spec := "fnExactAddPiece", inPlace := ["slices.overlaps[loop.example/g00315/impl.Bundle]"], apart := false, narrowed := true }
def FnExactAddPieceUptoSaid : Prop := fnExactAddPieceUptoRow.holds Try.pinned (OpenSpec.upto fnExactAddPieceSpec)

/-- 'laws.FnExactWholeOf', WHERE WHAT IT READS IS OF BULK AT MOST 1048576: true; the input reads as it did. -/
def fnExactWholeOfUptoRow : OpenClaim := { program := "ytlkbbolkadkedaa", sum := "6c0762e26629900f6168997055d6c038f87fb210277fe23ea5b91548a58e4a1c", func := "loop.example/g00315/laws.FnExactWholeOf", spec := "fnExactWholeOf", recurses := true, apart := false, narrowed := true }
def FnExactWholeOfUptoSaid : Prop := fnExactWholeOfUptoRow.holds Try.pinned (OpenSpec.upto fnExactWholeOfSpec)

/-- 'laws.FnPieces', WHERE WHAT IT READS IS OF BULK AT MOST 1048576: true; the input reads as it did. -/
def fnPiecesUptoRow : OpenClaim := { program := "ytlkbbolkadkedaa", sum := "6c0762e26629900f6168997055d6c038f87fb210277fe23ea5b91548a58e4a1c", func := "loop.example/g00315/laws.FnPieces", spec := "fnPieces", inPlace := ["slices.overlaps[loop.example/g00315/impl.Bundle]"], recurses := true, apart := false, narrowed := true }
def FnPiecesUptoSaid : Prop := fnPiecesUptoRow.holds Try.pinned (OpenSpec.upto fnPiecesSpec)

/-- 'laws.FnCovers', WHERE WHAT IT READS IS OF BULK AT MOST 1048576: true; the input reads as it did. -/
def fnCoversUptoRow : OpenClaim := { program := "ytlkbbolkadkedaa", sum := "6c0762e26629900f6168997055d6c038f87fb210277fe23ea5b91548a58e4a1c", func := "loop.example/g00315/laws.FnCovers", spec := "fnCovers", inPlace := ["slices.overlaps[loop.example/g00315/impl.Bundle]"], recurses := true, apart := false, narrowed := true }
def FnCoversUptoSaid : Prop := fnCoversUptoRow.holds Try.pinned (OpenSpec.upto fnCoversSpec)

end Rows
end Go.Proofs.Ytlkbbolkadkedaa
