/-
  No cell of these rows narrows 'for every input' (looked for: loops, veiled, ifaces, maps, wideKeys, modest, calm, conditions, laid).
  DERIVED. THE GIVEN ROWS OF THIS SEAT. 3 by the template 'for every input the law returns true; each argument reads behind the call as it read before'; 0 by the template 'total and deterministic' (their statements: YtaffjcaohbkmoaaTotals.lean).
  GIVEN WITH THE SEED: the statements are not yours to turn. If you find one false, say at which input.
  Laid BY PROGRAM, IN A SANDBOX (cutbox-rows.mjs): the forced cells as the released guide's own fill.sh prints them over the translation 1408170673b03480… (all of the seat's roots in one cut). By AI agents, Wed Nov 11 2026. No macro, syntax, notation, axiom, sorry.
-/
import Derived.Test.YtaffjcaohbkmoaaChecked
import GoSem.Claim
import GoSem.ClaimJoined
import GoSem.ClaimMapViews
import Derived.JoinedTies
import Derived.KernelRfl
namespace Go.Proofs.Ytaffjcaohbkmoaa
/- THE CELL 'sum', in the pinned program and in every row, IS THE sha256 OF THE DUMP (.gsa) THAT YtaffjcaohbkmoaaProg.lean LOADS. Nothing in Lean hashes anything: it is a label: what it is worth is what the hold of that sum in a sandbox is worth. -/
noncomputable def Try.pinned : Pinned := { name := "ytaffjcaohbkmoaa", sum := "1408170673b03480c356fa1b4667141b2976dc7bb29b6124e737761d4d0f9100", checked := Try.checked }
namespace Rows
def none {H : Type} : Left H := { results := [], args := [] }

/-- 'laws.FnCrc': WHATEVER THE INPUT: true; the input reads as it did. -/
def fnCrcSpec : ChangeSpec := { name := "fnCrc", fn := fun _ => fun
  | [d1, d2] => { results := [.lit (.bool true)], args := [d1, d2] }
  | _ => none }
def fnCrcRow : OpenClaim := { program := "ytaffjcaohbkmoaa", sum := "1408170673b03480c356fa1b4667141b2976dc7bb29b6124e737761d4d0f9100", func := "loop.example/g00315/laws.FnCrc", spec := "fnCrc", apart := false }
def FnCrcSaid : Prop := fnCrcRow.holds Try.pinned (OpenSpec.ofChange fnCrcSpec)

/-- ITS FALSE NEIGHBOUR: 'it returns false'. Refute it at one input. -/
def fnCrcWrong : ChangeSpec := { name := "fnCrc", fn := fun _ => fun
  | [d1, d2] => { results := [.lit (.bool false)], args := [d1, d2] }
  | _ => none }
def FnCrcWrongFalsely : Prop := fnCrcRow.holds Try.pinned (OpenSpec.ofChange fnCrcWrong)

/-- 'laws.FnBundles': WHATEVER THE INPUT: true; the input reads as it did. -/
def fnBundlesSpec : ChangeSpec := { name := "fnBundles", fn := fun _ => fun
  | [d1, d2] => { results := [.lit (.bool true)], args := [d1, d2] }
  | _ => none }
def fnBundlesRow : OpenClaim := { program := "ytaffjcaohbkmoaa", sum := "1408170673b03480c356fa1b4667141b2976dc7bb29b6124e737761d4d0f9100", func := "loop.example/g00315/laws.FnBundles", spec := "fnBundles", recurses := true, apart := false }
def FnBundlesSaid : Prop := fnBundlesRow.holds Try.pinned (OpenSpec.ofChange fnBundlesSpec)

/-- ITS FALSE NEIGHBOUR: 'it returns false'. Refute it at one input. -/
def fnBundlesWrong : ChangeSpec := { name := "fnBundles", fn := fun _ => fun
  | [d1, d2] => { results := [.lit (.bool false)], args := [d1, d2] }
  | _ => none }
def FnBundlesWrongFalsely : Prop := fnBundlesRow.holds Try.pinned (OpenSpec.ofChange fnBundlesWrong)

/-- 'laws.FnExactSegmentsLeft': WHATEVER THE INPUT: true; the input reads as it did. -/
def fnExactSegmentsLeftSpec : ChangeSpec := { name := "fnExactSegmentsLeft", fn := fun _ => fun
  | [d] => { results := [.lit (.bool true)], args := [d] }
  | _ => none }
def fnExactSegmentsLeftRow : OpenClaim := { program := "ytaffjcaohbkmoaa", sum := "1408170673b03480c356fa1b4667141b2976dc7bb29b6124e737761d4d0f9100", func := "loop.example/g00315/laws.FnExactSegmentsLeft", spec := "fnExactSegmentsLeft", apart := false }
def FnExactSegmentsLeftSaid : Prop := fnExactSegmentsLeftRow.holds Try.pinned (OpenSpec.ofChange fnExactSegmentsLeftSpec)

/-- ITS FALSE NEIGHBOUR: 'it returns false'. Refute it at one input. -/
def fnExactSegmentsLeftWrong : ChangeSpec := { name := "fnExactSegmentsLeft", fn := fun _ => fun
  | [d] => { results := [.lit (.bool false)], args := [d] }
  | _ => none }
def FnExactSegmentsLeftWrongFalsely : Prop := fnExactSegmentsLeftRow.holds Try.pinned (OpenSpec.ofChange fnExactSegmentsLeftWrong)

/- THE SECOND FORM. 'bulk': how many values and letters a reading holds, each counted each time it is reached (what is shared counts as often as it is met; a slice's spare places count too). A statement '..UptoSaid' is the law's where the arguments, and the package variables that the reading takes, are together of bulk at most 1048576: NARROWER than '..Said'. Prove '..Said' where nothing that the law and all that it calls make is longer than what came in: it says more and counts as full. Else prove '..UptoSaid'. A law counts once. -/
mutual
def uptoBulk {H : Type} : DataW H → Nat
  | .lit (.string bytes) => bytes.length + 1
  | .lit _ => 1
  | .nil => 1
  | .ptr d => uptoBulk d + 1
  | .slice elems spare => uptoBulkAll elems + uptoBulkAll spare + 1
  | .agg parts => uptoBulkAll parts + 1
  | .iface _ d => uptoBulk d + 1
  | .map entries => uptoBulkEntries entries + 1
  | .held _ => 1
def uptoBulkAll {H : Type} : List (DataW H) → Nat
  | [] => 0
  | d :: r => uptoBulk d + uptoBulkAll r
def uptoBulkEntries {H : Type} : List (Lit × DataW H) → Nat
  | [] => 0
  | x :: r => uptoBulkEntry x + uptoBulkEntries r
def uptoBulkEntry {H : Type} : Lit × DataW H → Nat
  | (.string bytes, d) => bytes.length + uptoBulk d + 1
  | (_, d) => uptoBulk d + 1
 end
def uptoSmall : (H : Type) → List (DataW H) → Bool := fun _ ds => decide (uptoBulkAll ds ≤ 1048576)
def OpenSpec.upto (s : _root_.Go.ChangeSpec) : _root_.Go.OpenSpec := { _root_.Go.OpenSpec.ofChange s with cond := some uptoSmall }

/-- 'laws.FnCrc', WHERE WHAT IT READS IS OF BULK AT MOST 1048576: true; the input reads as it did. -/
def fnCrcUptoRow : OpenClaim := { program := "ytaffjcaohbkmoaa", sum := "1408170673b03480c356fa1b4667141b2976dc7bb29b6124e737761d4d0f9100", func := "loop.example/g00315/laws.FnCrc", spec := "fnCrc", apart := false, narrowed := true }
def FnCrcUptoSaid : Prop := fnCrcUptoRow.holds Try.pinned (OpenSpec.upto fnCrcSpec)

/-- 'laws.FnBundles', WHERE WHAT IT READS IS OF BULK AT MOST 1048576: true; the input reads as it did. -/
def fnBundlesUptoRow : OpenClaim := { program := "ytaffjcaohbkmoaa", sum := "1408170673b03480c356fa1b4667141b2976dc7bb29b6124e737761d4d0f9100", func := "loop.example/g00315/laws.FnBundles", spec := "fnBundles", recurses := true, apart := false, narrowed := true }
def FnBundlesUptoSaid : Prop := fnBundlesUptoRow.holds Try.pinned (OpenSpec.upto fnBundlesSpec)

/-- 'laws.FnExactSegmentsLeft', WHERE WHAT IT READS IS OF BULK AT MOST 1048576: true; the input reads as it did. -/
def fnExactSegmentsLeftUptoRow : OpenClaim := { program := "ytaffjcaohbkmoaa", sum := "1408170673b03480c356fa1b4667141b2976dc7bb29b6124e737761d4d0f9100", func := "loop.example/g00315/laws.FnExactSegmentsLeft", spec := "fnExactSegmentsLeft", apart := false, narrowed := true }
def FnExactSegmentsLeftUptoSaid : Prop := fnExactSegmentsLeftUptoRow.holds Try.pinned (OpenSpec.upto fnExactSegmentsLeftSpec)

end Rows
end Go.Proofs.Ytaffjcaohbkmoaa
