/-
  No cell of these rows narrows 'for every input' (looked for: loops, veiled, ifaces, maps, wideKeys, modest, calm, conditions, laid).
  DERIVED. THE GIVEN ROWS OF THIS SEAT. 12 by the template 'for every input the law returns true; each argument reads behind the call as it read before'; 0 by the template 'total and deterministic' (their statements: YtkljbkminihlbaaTotals.lean).
  GIVEN WITH THE SEED: the statements are not yours to turn. If you find one false, say at which input.
  Laid BY PROGRAM, IN A SANDBOX (cutbox-rows.mjs): the forced cells as the released guide's own fill.sh prints them over the translation d64245991528b6ef… (all of the seat's roots in one cut). By AI agents, Wed Nov 11 2026. No macro, syntax, notation, axiom, sorry.
-/
import Derived.Test.YtkljbkminihlbaaChecked
import GoSem.Claim
import GoSem.ClaimJoined
import GoSem.ClaimMapViews
import Derived.JoinedTies
import Derived.KernelRfl
namespace Go.Proofs.Ytkljbkminihlbaa
/- THE CELL 'sum', in the pinned program and in every row, IS THE sha256 OF THE DUMP (.gsa) THAT YtkljbkminihlbaaProg.lean LOADS. Nothing in Lean hashes anything: it is a label: what it is worth is what the hold of that sum in a sandbox is worth. -/
noncomputable def Try.pinned : Pinned := { name := "ytkljbkminihlbaa", sum := "d64245991528b6ef39e97c799a66b07d6952bddbab9c8b522ce0b2c51b9961f6", checked := Try.checked }
namespace Rows
def none {H : Type} : Left H := { results := [], args := [] }

/-- 'laws.FnExactGoodBundle': WHATEVER THE INPUT: true; the input reads as it did. -/
def fnExactGoodBundleSpec : ChangeSpec := { name := "fnExactGoodBundle", fn := fun _ => fun
  | [d] => { results := [.lit (.bool true)], args := [d] }
  | _ => none }
def fnExactGoodBundleRow : OpenClaim := { program := "ytkljbkminihlbaa", sum := "d64245991528b6ef39e97c799a66b07d6952bddbab9c8b522ce0b2c51b9961f6", func := "loop.example/g00315/laws.FnExactGoodBundle", spec := "fnExactGoodBundle", apart := false }
def FnExactGoodBundleSaid : Prop := fnExactGoodBundleRow.holds Try.pinned (OpenSpec.ofChange fnExactGoodBundleSpec)

/-- ITS FALSE NEIGHBOUR: 'it returns false'. Refute it at one input. -/
def fnExactGoodBundleWrong : ChangeSpec := { name := "fnExactGoodBundle", fn := fun _ => fun
  | [d] => { results := [.lit (.bool false)], args := [d] }
  | _ => none }
def FnExactGoodBundleWrongFalsely : Prop := fnExactGoodBundleRow.holds Try.pinned (OpenSpec.ofChange fnExactGoodBundleWrong)

/-- 'laws.FnExactIsOver': WHATEVER THE INPUT: true; the input reads as it did. -/
def fnExactIsOverSpec : ChangeSpec := { name := "fnExactIsOver", fn := fun _ => fun
  | [d1, d2] => { results := [.lit (.bool true)], args := [d1, d2] }
  | _ => none }
def fnExactIsOverRow : OpenClaim := { program := "ytkljbkminihlbaa", sum := "d64245991528b6ef39e97c799a66b07d6952bddbab9c8b522ce0b2c51b9961f6", func := "loop.example/g00315/laws.FnExactIsOver", spec := "fnExactIsOver", apart := false }
def FnExactIsOverSaid : Prop := fnExactIsOverRow.holds Try.pinned (OpenSpec.ofChange fnExactIsOverSpec)

/-- ITS FALSE NEIGHBOUR: 'it returns false'. Refute it at one input. -/
def fnExactIsOverWrong : ChangeSpec := { name := "fnExactIsOver", fn := fun _ => fun
  | [d1, d2] => { results := [.lit (.bool false)], args := [d1, d2] }
  | _ => none }
def FnExactIsOverWrongFalsely : Prop := fnExactIsOverRow.holds Try.pinned (OpenSpec.ofChange fnExactIsOverWrong)

/-- 'laws.FnExactHopBundle': WHATEVER THE INPUT: true; the input reads as it did. -/
def fnExactHopBundleSpec : ChangeSpec := { name := "fnExactHopBundle", fn := fun _ => fun
  | [d] => { results := [.lit (.bool true)], args := [d] }
  | _ => none }
def fnExactHopBundleRow : OpenClaim := { program := "ytkljbkminihlbaa", sum := "d64245991528b6ef39e97c799a66b07d6952bddbab9c8b522ce0b2c51b9961f6", func := "loop.example/g00315/laws.FnExactHopBundle", spec := "fnExactHopBundle", apart := false }
def FnExactHopBundleSaid : Prop := fnExactHopBundleRow.holds Try.pinned (OpenSpec.ofChange fnExactHopBundleSpec)

/-- ITS FALSE NEIGHBOUR: 'it returns false'. Refute it at one input. -/
def fnExactHopBundleWrong : ChangeSpec := { name := "fnExactHopBundle", fn := fun _ => fun
  | [d] => { results := [.lit (.bool false)], args := [d] }
  | _ => none }
def FnExactHopBundleWrongFalsely : Prop := fnExactHopBundleRow.holds Try.pinned (OpenSpec.ofChange fnExactHopBundleWrong)

/-- 'laws.FnExactCutPiece': WHATEVER THE INPUT: true; the input reads as it did. -/
def fnExactCutPieceSpec : ChangeSpec := { name := "fnExactCutPiece", fn := fun _ => fun
  | [d1, d2] => { results := [.lit (.bool true)], args := [d1, d2] }
  | _ => none }
def fnExactCutPieceRow : OpenClaim := { program := "ytkljbkminihlbaa", sum := "d64245991528b6ef39e97c799a66b07d6952bddbab9c8b522ce0b2c51b9961f6", func := "loop.example/g00315/laws.FnExactCutPiece", spec := "fnExactCutPiece", apart := false }
def FnExactCutPieceSaid : Prop := fnExactCutPieceRow.holds Try.pinned (OpenSpec.ofChange fnExactCutPieceSpec)

/-- ITS FALSE NEIGHBOUR: 'it returns false'. Refute it at one input. -/
def fnExactCutPieceWrong : ChangeSpec := { name := "fnExactCutPiece", fn := fun _ => fun
  | [d1, d2] => { results := [.lit (.bool false)], args := [d1, d2] }
  | _ => none }
def FnExactCutPieceWrongFalsely : Prop := fnExactCutPieceRow.holds Try.pinned (OpenSpec.ofChange fnExactCutPieceWrong)

/-- 'laws.FnExactTakeHead': WHATEVER THE INPUT: true; the input reads as it did. -/
def fnExactTakeHeadSpec : ChangeSpec := { name := "fnExactTakeHead", fn := fun _ => fun
  | [d1, d2] => { results := [.lit (.bool true)], args := [d1, d2] }
  | _ => none }
def fnExactTakeHeadRow : OpenClaim := { program := "ytkljbkminihlbaa", sum := "d64245991528b6ef39e97c799a66b07d6952bddbab9c8b522ce0b2c51b9961f6", func := "loop.example/g00315/laws.FnExactTakeHead", spec := "fnExactTakeHead", apart := false }
def FnExactTakeHeadSaid : Prop := fnExactTakeHeadRow.holds Try.pinned (OpenSpec.ofChange fnExactTakeHeadSpec)

/-- ITS FALSE NEIGHBOUR: 'it returns false'. Refute it at one input. -/
def fnExactTakeHeadWrong : ChangeSpec := { name := "fnExactTakeHead", fn := fun _ => fun
  | [d1, d2] => { results := [.lit (.bool false)], args := [d1, d2] }
  | _ => none }
def FnExactTakeHeadWrongFalsely : Prop := fnExactTakeHeadRow.holds Try.pinned (OpenSpec.ofChange fnExactTakeHeadWrong)

/-- 'laws.FnExactCutBundle': WHATEVER THE INPUT: true; the input reads as it did. -/
def fnExactCutBundleSpec : ChangeSpec := { name := "fnExactCutBundle", fn := fun _ => fun
  | [d1, d2] => { results := [.lit (.bool true)], args := [d1, d2] }
  | _ => none }
def fnExactCutBundleRow : OpenClaim := { program := "ytkljbkminihlbaa", sum := "d64245991528b6ef39e97c799a66b07d6952bddbab9c8b522ce0b2c51b9961f6", func := "loop.example/g00315/laws.FnExactCutBundle", spec := "fnExactCutBundle", apart := false }
def FnExactCutBundleSaid : Prop := fnExactCutBundleRow.holds Try.pinned (OpenSpec.ofChange fnExactCutBundleSpec)

/-- ITS FALSE NEIGHBOUR: 'it returns false'. Refute it at one input. -/
def fnExactCutBundleWrong : ChangeSpec := { name := "fnExactCutBundle", fn := fun _ => fun
  | [d1, d2] => { results := [.lit (.bool false)], args := [d1, d2] }
  | _ => none }
def FnExactCutBundleWrongFalsely : Prop := fnExactCutBundleRow.holds Try.pinned (OpenSpec.ofChange fnExactCutBundleWrong)

/-- 'laws.FnHeads': WHATEVER THE INPUT: true; the input reads as it did. -/
def fnHeadsSpec : ChangeSpec := { name := "fnHeads", fn := fun _ => fun
  | [d1, d2] => { results := [.lit (.bool true)], args := [d1, d2] }
  | _ => none }
def fnHeadsRow : OpenClaim := { program := "ytkljbkminihlbaa", sum := "d64245991528b6ef39e97c799a66b07d6952bddbab9c8b522ce0b2c51b9961f6", func := "loop.example/g00315/laws.FnHeads", spec := "fnHeads", recurses := true, apart := false }
def FnHeadsSaid : Prop := fnHeadsRow.holds Try.pinned (OpenSpec.ofChange fnHeadsSpec)

/-- ITS FALSE NEIGHBOUR: 'it returns false'. Refute it at one input. -/
def fnHeadsWrong : ChangeSpec := { name := "fnHeads", fn := fun _ => fun
  | [d1, d2] => { results := [.lit (.bool false)], args := [d1, d2] }
  | _ => none }
def FnHeadsWrongFalsely : Prop := fnHeadsRow.holds Try.pinned (OpenSpec.ofChange fnHeadsWrong)

/-- 'laws.FnExactGoodItems': WHATEVER THE INPUT: true; the input reads as it did. -/
def fnExactGoodItemsSpec : ChangeSpec := { name := "fnExactGoodItems", fn := fun _ => fun
  | [d] => { results := [.lit (.bool true)], args := [d] }
  | _ => none }
def fnExactGoodItemsRow : OpenClaim := { program := "ytkljbkminihlbaa", sum := "d64245991528b6ef39e97c799a66b07d6952bddbab9c8b522ce0b2c51b9961f6", func := "loop.example/g00315/laws.FnExactGoodItems", spec := "fnExactGoodItems", recurses := true, apart := false }
def FnExactGoodItemsSaid : Prop := fnExactGoodItemsRow.holds Try.pinned (OpenSpec.ofChange fnExactGoodItemsSpec)

/-- ITS FALSE NEIGHBOUR: 'it returns false'. Refute it at one input. -/
def fnExactGoodItemsWrong : ChangeSpec := { name := "fnExactGoodItems", fn := fun _ => fun
  | [d] => { results := [.lit (.bool false)], args := [d] }
  | _ => none }
def FnExactGoodItemsWrongFalsely : Prop := fnExactGoodItemsRow.holds Try.pinned (OpenSpec.ofChange fnExactGoodItemsWrong)

/-- 'laws.FnExactItemsBytes': WHATEVER THE INPUT: true; the input reads as it did. -/
def fnExactItemsBytesSpec : ChangeSpec := { name := "fnExactItemsBytes", fn := fun _ => fun
  | [d] => { results := [.lit (.bool true)], args := [d] }
  | _ => none }
def fnExactItemsBytesRow : OpenClaim := { program := "ytkljbkminihlbaa", sum := "d64245991528b6ef39e97c799a66b07d6952bddbab9c8b522ce0b2c51b9961f6", func := "loop.example/g00315/laws.FnExactItemsBytes", spec := "fnExactItemsBytes", recurses := true, apart := false }
def FnExactItemsBytesSaid : Prop := fnExactItemsBytesRow.holds Try.pinned (OpenSpec.ofChange fnExactItemsBytesSpec)

/-- ITS FALSE NEIGHBOUR: 'it returns false'. Refute it at one input. -/
def fnExactItemsBytesWrong : ChangeSpec := { name := "fnExactItemsBytes", fn := fun _ => fun
  | [d] => { results := [.lit (.bool false)], args := [d] }
  | _ => none }
def FnExactItemsBytesWrongFalsely : Prop := fnExactItemsBytesRow.holds Try.pinned (OpenSpec.ofChange fnExactItemsBytesWrong)

/-- 'laws.FnExactDeepOf': WHATEVER THE INPUT: true; the input reads as it did. -/
def fnExactDeepOfSpec : ChangeSpec := { name := "fnExactDeepOf", fn := fun _ => fun
  | [d] => { results := [.lit (.bool true)], args := [d] }
  | _ => none }
def fnExactDeepOfRow : OpenClaim := { program := "ytkljbkminihlbaa", sum := "d64245991528b6ef39e97c799a66b07d6952bddbab9c8b522ce0b2c51b9961f6", func := "loop.example/g00315/laws.FnExactDeepOf", spec := "fnExactDeepOf", recurses := true, apart := false }
def FnExactDeepOfSaid : Prop := fnExactDeepOfRow.holds Try.pinned (OpenSpec.ofChange fnExactDeepOfSpec)

/-- ITS FALSE NEIGHBOUR: 'it returns false'. Refute it at one input. -/
def fnExactDeepOfWrong : ChangeSpec := { name := "fnExactDeepOf", fn := fun _ => fun
  | [d] => { results := [.lit (.bool false)], args := [d] }
  | _ => none }
def FnExactDeepOfWrongFalsely : Prop := fnExactDeepOfRow.holds Try.pinned (OpenSpec.ofChange fnExactDeepOfWrong)

/-- 'laws.FnExactReadItems': WHATEVER THE INPUT: true; the input reads as it did. -/
def fnExactReadItemsSpec : ChangeSpec := { name := "fnExactReadItems", fn := fun _ => fun
  | [d] => { results := [.lit (.bool true)], args := [d] }
  | _ => none }
def fnExactReadItemsRow : OpenClaim := { program := "ytkljbkminihlbaa", sum := "d64245991528b6ef39e97c799a66b07d6952bddbab9c8b522ce0b2c51b9961f6", func := "loop.example/g00315/laws.FnExactReadItems", spec := "fnExactReadItems", recurses := true, apart := false }
def FnExactReadItemsSaid : Prop := fnExactReadItemsRow.holds Try.pinned (OpenSpec.ofChange fnExactReadItemsSpec)

/-- ITS FALSE NEIGHBOUR: 'it returns false'. Refute it at one input. -/
def fnExactReadItemsWrong : ChangeSpec := { name := "fnExactReadItems", fn := fun _ => fun
  | [d] => { results := [.lit (.bool false)], args := [d] }
  | _ => none }
def FnExactReadItemsWrongFalsely : Prop := fnExactReadItemsRow.holds Try.pinned (OpenSpec.ofChange fnExactReadItemsWrong)

/-- 'laws.FnItems': WHATEVER THE INPUT: true; the input reads as it did. -/
def fnItemsSpec : ChangeSpec := { name := "fnItems", fn := fun _ => fun
  | [d1, d2] => { results := [.lit (.bool true)], args := [d1, d2] }
  | _ => none }
def fnItemsRow : OpenClaim := { program := "ytkljbkminihlbaa", sum := "d64245991528b6ef39e97c799a66b07d6952bddbab9c8b522ce0b2c51b9961f6", func := "loop.example/g00315/laws.FnItems", spec := "fnItems", recurses := true, apart := false }
def FnItemsSaid : Prop := fnItemsRow.holds Try.pinned (OpenSpec.ofChange fnItemsSpec)

/-- ITS FALSE NEIGHBOUR: 'it returns false'. Refute it at one input. -/
def fnItemsWrong : ChangeSpec := { name := "fnItems", fn := fun _ => fun
  | [d1, d2] => { results := [.lit (.bool false)], args := [d1, d2] }
  | _ => none }
def FnItemsWrongFalsely : Prop := fnItemsRow.holds Try.pinned (OpenSpec.ofChange fnItemsWrong)

/- THE SECOND FORM. 'bulk': how many values and letters a reading holds, each counted each time it is reached (what is shared counts as often as it is met; a slice's spare places count too). A statement '..UptoSaid' is the law's where the arguments, and the package variables that the reading takes, are together of bulk at most 1048576: NARROWER than '..Said'. Prove '..Said' where nothing that the law and all that it calls make is longer than what came in: it says more and counts as full. Else prove '..UptoSaid'. A law counts once. -/
mutual
def uptoBulk {H : Type} : DataW H → Nat
  | .lit (.string bytes) => bytes.length + 1
  | .lit _ => 1
  | .nil => 1
  | .ptr d => uptoBulk d + 1
  | .slice elems spare => uptoBulkAll elems + uptoBulkAll spare + 1
  | .agg parts => uptoBulkAll parts + 1
  | .iface _ d => uptoBulk d + 1
  | .map entries => uptoBulkEntries entries + 1
  | .held _ => 1
def uptoBulkAll {H : Type} : List (DataW H) → Nat
  | [] => 0
  | d :: r => uptoBulk d + uptoBulkAll r
def uptoBulkEntries {H : Type} : List (Lit × DataW H) → Nat
  | [] => 0
  | x :: r => uptoBulkEntry x + uptoBulkEntries r
def uptoBulkEntry {H : Type} : Lit × DataW H → Nat
  | (.string bytes, d) => bytes.length + uptoBulk d + 1
  | (_, d) => uptoBulk d + 1
 end
def uptoSmall : (H : Type) → List (DataW H) → Bool := fun _ ds => decide (uptoBulkAll ds ≤ 1048576)
def OpenSpec.upto (s : _root_.Go.ChangeSpec) : _root_.Go.OpenSpec := { _root_.Go.OpenSpec.ofChange s with cond := some uptoSmall }

/-- 'laws.FnExactGoodBundle', WHERE WHAT IT READS IS OF BULK AT MOST 1048576: true; the input reads as it did. -/
def fnExactGoodBundleUptoRow : OpenClaim := { program := "ytkljbkminihlbaa", sum := "d64245991528b6ef39e97c799a66b07d6952bddbab9c8b522ce0b2c51b9961f6", func := "loop.example/g00315/laws.FnExactGoodBundle", spec := "fnExactGoodBundle", apart := false, narrowed := true }
def FnExactGoodBundleUptoSaid : Prop := fnExactGoodBundleUptoRow.holds Try.pinned (OpenSpec.upto fnExactGoodBundleSpec)

/-- 'laws.FnExactIsOver', WHERE WHAT IT READS IS OF BULK AT MOST 1048576: true; the input reads as it did. -/
def fnExactIsOverUptoRow : OpenClaim := { program := "ytkljbkminihlbaa", sum := "d64245991528b6ef39e97c799a66b07d6952bddbab9c8b522ce0b2c51b9961f6", func := "loop.example/g00315/laws.FnExactIsOver", spec := "fnExactIsOver", apart := false, narrowed := true }
def FnExactIsOverUptoSaid : Prop := fnExactIsOverUptoRow.holds Try.pinned (OpenSpec.upto fnExactIsOverSpec)

/-- 'laws.FnExactHopBundle', WHERE WHAT IT READS IS OF BULK AT MOST 1048576: true; the input reads as it did. -/
def fnExactHopBundleUptoRow : OpenClaim := { program := "ytkljbkminihlbaa", sum := "d64245991528b6ef39e97c799a66b07d6952bddbab9c8b522ce0b2c51b9961f6", func := "loop.example/g00315/laws.FnExactHopBundle", spec := "fnExactHopBundle", apart := false, narrowed := true }
def FnExactHopBundleUptoSaid : Prop := fnExactHopBundleUptoRow.holds Try.pinned (OpenSpec.upto fnExactHopBundleSpec)

/-- 'laws.FnExactCutPiece', WHERE WHAT IT READS IS OF BULK AT MOST 1048576: true; the input reads as it did. -/
def fnExactCutPieceUptoRow : OpenClaim := { program := "ytkljbkminihlbaa", sum := "d64245991528b6ef39e97c799a66b07d6952bddbab9c8b522ce0b2c51b9961f6", func := "loop.example/g00315/laws.FnExactCutPiece", spec := "fnExactCutPiece", apart := false, narrowed := true }
def FnExactCutPieceUptoSaid : Prop := fnExactCutPieceUptoRow.holds Try.pinned (OpenSpec.upto fnExactCutPieceSpec)

/-- 'laws.FnExactTakeHead', WHERE WHAT IT READS IS OF BULK AT MOST 1048576: true; the input reads as it did. -/
def fnExactTakeHeadUptoRow : OpenClaim := { program := "ytkljbkminihlbaa", sum := "d64245991528b6ef39e97c799a66b07d6952bddbab9c8b522ce0b2c51b9961f6", func := "loop.example/g00315/laws.FnExactTakeHead", spec := "fnExactTakeHead", apart := false, narrowed := true }
def FnExactTakeHeadUptoSaid : Prop := fnExactTakeHeadUptoRow.holds Try.pinned (OpenSpec.upto fnExactTakeHeadSpec)

/-- 'laws.FnExactCutBundle', WHERE WHAT IT READS IS OF BULK AT MOST 1048576: true; the input reads as it did. -/
def fnExactCutBundleUptoRow : OpenClaim := { program := "ytkljbkminihlbaa", sum := "d64245991528b6ef39e97c799a66b07d6952bddbab9c8b522ce0b2c51b9961f6", func := "loop.example/g00315/laws.FnExactCutBundle", spec := "fnExactCutBundle", apart := false, narrowed := true }
def FnExactCutBundleUptoSaid : Prop := fnExactCutBundleUptoRow.holds Try.pinned (OpenSpec.upto fnExactCutBundleSpec)

/-- 'laws.FnHeads', WHERE WHAT IT READS IS OF BULK AT MOST 1048576: true; the input reads as it did. -/
def fnHeadsUptoRow : OpenClaim := { program := "ytkljbkminihlbaa", sum := "d64245991528b6ef39e97c799a66b07d6952bddbab9c8b522ce0b2c51b9961f6", func := "loop.example/g00315/laws.FnHeads", spec := "fnHeads", recurses := true, apart := false, narrowed := true }
def FnHeadsUptoSaid : Prop := fnHeadsUptoRow.holds Try.pinned (OpenSpec.upto fnHeadsSpec)

/-- 'laws.FnExactGoodItems', WHERE WHAT IT READS IS OF BULK AT MOST 1048576: true; the input reads as it did. -/
def fnExactGoodItemsUptoRow : OpenClaim := { program := "ytkljbkminihlbaa", sum := "d64245991528b6ef39e97c799a66b07d6952bddbab9c8b522ce0b2c51b9961f6", func := "loop.example/g00315/laws.FnExactGoodItems", spec := "fnExactGoodItems", recurses := true, apart := false, narrowed := true }
def FnExactGoodItemsUptoSaid : Prop := fnExactGoodItemsUptoRow.holds Try.pinned (OpenSpec.upto fnExactGoodItemsSpec)

/-- 'laws.FnExactItemsBytes', WHERE WHAT IT READS IS OF BULK AT MOST 1048576: true; the input reads as it did. -/
def fnExactItemsBytesUptoRow : OpenClaim := { program := "ytkljbkminihlbaa", sum := "d64245991528b6ef39e97c799a66b07d6952bddbab9c8b522ce0b2c51b9961f6", func := "loop.example/g00315/laws.FnExactItemsBytes", spec := "fnExactItemsBytes", recurses := true, apart := false, narrowed := true }
def FnExactItemsBytesUptoSaid : Prop := fnExactItemsBytesUptoRow.holds Try.pinned (OpenSpec.upto fnExactItemsBytesSpec)

/-- 'laws.FnExactDeepOf', WHERE WHAT IT READS IS OF BULK AT MOST 1048576: true; the input reads as it did. -/
def fnExactDeepOfUptoRow : OpenClaim := { program := "ytkljbkminihlbaa", sum := "d64245991528b6ef39e97c799a66b07d6952bddbab9c8b522ce0b2c51b9961f6", func := "loop.example/g00315/laws.FnExactDeepOf", spec := "fnExactDeepOf", recurses := true, apart := false, narrowed := true }
def FnExactDeepOfUptoSaid : Prop := fnExactDeepOfUptoRow.holds Try.pinned (OpenSpec.upto fnExactDeepOfSpec)

/-- 'laws.FnExactReadItems', WHERE WHAT IT READS IS OF BULK AT MOST 1048576: true; the input reads as it did. -/
def fnExactReadItemsUptoRow : OpenClaim := { program := "ytkljbkminihlbaa", sum := "d64245991528b6ef39e97c799a66b07d6952bddbab9c8b522ce0b2c51b9961f6", func := "loop.example/g00315/laws.FnExactReadItems", spec := "fnExactReadItems", recurses := true, apart := false, narrowed := true }
def FnExactReadItemsUptoSaid : Prop := fnExactReadItemsUptoRow.holds Try.pinned (OpenSpec.upto fnExactReadItemsSpec)

/-- 'laws.FnItems', WHERE WHAT IT READS IS OF BULK AT MOST 1048576: true; the input reads as it did. -/
def fnItemsUptoRow : OpenClaim := { program := "ytkljbkminihlbaa", sum := "d64245991528b6ef39e97c799a66b07d6952bddbab9c8b522ce0b2c51b9961f6", func := "loop.example/g00315/laws.FnItems", spec := "fnItems", recurses := true, apart := false, narrowed := true }
def FnItemsUptoSaid : Prop := fnItemsUptoRow.holds Try.pinned (OpenSpec.upto fnItemsSpec)

end Rows
end Go.Proofs.Ytkljbkminihlbaa
