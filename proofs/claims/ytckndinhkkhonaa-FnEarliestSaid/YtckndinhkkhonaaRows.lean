/-
  No cell of these rows narrows 'for every input' (looked for: loops, veiled, ifaces, maps, wideKeys, modest, calm, conditions, laid).
  DERIVED. THE GIVEN ROWS OF THIS SEAT. 11 by the template 'for every input the law returns true; each argument reads behind the call as it read before'; 0 by the template 'total and deterministic' (their statements: YtckndinhkkhonaaTotals.lean).
  GIVEN WITH THE SEED: the statements are not yours to turn. If you find one false, say at which input.
  Laid BY PROGRAM, IN A SANDBOX (cutbox-rows.mjs): the forced cells as the released guide's own fill.sh prints them over the translation 94518cc6bee4d879… (all of the seat's roots in one cut). By AI agents, Wed Nov 11 2026. No macro, syntax, notation, axiom, sorry.
-/
import Derived.Test.YtckndinhkkhonaaChecked
import GoSem.Claim
import GoSem.ClaimJoined
import GoSem.ClaimMapViews
import Derived.JoinedTies
import Derived.KernelRfl
namespace Go.Proofs.Ytckndinhkkhonaa
/- THE CELL 'sum', in the pinned program and in every row, IS THE sha256 OF THE DUMP (.gsa) THAT YtckndinhkkhonaaProg.lean LOADS. Nothing in Lean hashes anything: it is a label: what it is worth is what the hold of that sum in a sandbox is worth. -/
noncomputable def Try.pinned : Pinned := { name := "ytckndinhkkhonaa", sum := "94518cc6bee4d879ecf72ddd961b4a523ceb618f67384b8ed880b95e40999bb5", checked := Try.checked }
namespace Rows
def none {H : Type} : Left H := { results := [], args := [] }

/-- 'laws.FnExactGoodPlan': WHATEVER THE INPUT: true; the input reads as it did. -/
def fnExactGoodPlanSpec : ChangeSpec := { name := "fnExactGoodPlan", fn := fun _ => fun
  | [d] => { results := [.lit (.bool true)], args := [d] }
  | _ => none }
def fnExactGoodPlanRow : OpenClaim := { program := "ytckndinhkkhonaa", sum := "94518cc6bee4d879ecf72ddd961b4a523ceb618f67384b8ed880b95e40999bb5", func := "loop.example/g00315/laws.FnExactGoodPlan", spec := "fnExactGoodPlan", unfollowed := true, recurses := true, apart := false }
def FnExactGoodPlanSaid : Prop := fnExactGoodPlanRow.holds Try.pinned (OpenSpec.ofChange fnExactGoodPlanSpec)

/-- ITS FALSE NEIGHBOUR: 'it returns false'. Refute it at one input. -/
def fnExactGoodPlanWrong : ChangeSpec := { name := "fnExactGoodPlan", fn := fun _ => fun
  | [d] => { results := [.lit (.bool false)], args := [d] }
  | _ => none }
def FnExactGoodPlanWrongFalsely : Prop := fnExactGoodPlanRow.holds Try.pinned (OpenSpec.ofChange fnExactGoodPlanWrong)

/-- 'laws.FnExactOpenAt': WHATEVER THE INPUT: true; the input reads as it did. -/
def fnExactOpenAtSpec : ChangeSpec := { name := "fnExactOpenAt", fn := fun _ => fun
  | [d1, d2] => { results := [.lit (.bool true)], args := [d1, d2] }
  | _ => none }
def fnExactOpenAtRow : OpenClaim := { program := "ytckndinhkkhonaa", sum := "94518cc6bee4d879ecf72ddd961b4a523ceb618f67384b8ed880b95e40999bb5", func := "loop.example/g00315/laws.FnExactOpenAt", spec := "fnExactOpenAt", unfollowed := true, recurses := true, apart := false }
def FnExactOpenAtSaid : Prop := fnExactOpenAtRow.holds Try.pinned (OpenSpec.ofChange fnExactOpenAtSpec)

/-- ITS FALSE NEIGHBOUR: 'it returns false'. Refute it at one input. -/
def fnExactOpenAtWrong : ChangeSpec := { name := "fnExactOpenAt", fn := fun _ => fun
  | [d1, d2] => { results := [.lit (.bool false)], args := [d1, d2] }
  | _ => none }
def FnExactOpenAtWrongFalsely : Prop := fnExactOpenAtRow.holds Try.pinned (OpenSpec.ofChange fnExactOpenAtWrong)

/-- 'laws.FnExactUsesOf': WHATEVER THE INPUT: true; the input reads as it did. -/
def fnExactUsesOfSpec : ChangeSpec := { name := "fnExactUsesOf", fn := fun _ => fun
  | [d1, d2] => { results := [.lit (.bool true)], args := [d1, d2] }
  | _ => none }
def fnExactUsesOfRow : OpenClaim := { program := "ytckndinhkkhonaa", sum := "94518cc6bee4d879ecf72ddd961b4a523ceb618f67384b8ed880b95e40999bb5", func := "loop.example/g00315/laws.FnExactUsesOf", spec := "fnExactUsesOf", unfollowed := true, recurses := true, apart := false }
def FnExactUsesOfSaid : Prop := fnExactUsesOfRow.holds Try.pinned (OpenSpec.ofChange fnExactUsesOfSpec)

/-- ITS FALSE NEIGHBOUR: 'it returns false'. Refute it at one input. -/
def fnExactUsesOfWrong : ChangeSpec := { name := "fnExactUsesOf", fn := fun _ => fun
  | [d1, d2] => { results := [.lit (.bool false)], args := [d1, d2] }
  | _ => none }
def FnExactUsesOfWrongFalsely : Prop := fnExactUsesOfRow.holds Try.pinned (OpenSpec.ofChange fnExactUsesOfWrong)

/-- 'laws.FnExactArriveBy': WHATEVER THE INPUT: true; the input reads as it did. -/
def fnExactArriveBySpec : ChangeSpec := { name := "fnExactArriveBy", fn := fun _ => fun
  | [d1, d2, d3, d4] => { results := [.lit (.bool true)], args := [d1, d2, d3, d4] }
  | _ => none }
def fnExactArriveByRow : OpenClaim := { program := "ytckndinhkkhonaa", sum := "94518cc6bee4d879ecf72ddd961b4a523ceb618f67384b8ed880b95e40999bb5", func := "loop.example/g00315/laws.FnExactArriveBy", spec := "fnExactArriveBy", unfollowed := true, recurses := true, apart := false }
def FnExactArriveBySaid : Prop := fnExactArriveByRow.holds Try.pinned (OpenSpec.ofChange fnExactArriveBySpec)

/-- ITS FALSE NEIGHBOUR: 'it returns false'. Refute it at one input. -/
def fnExactArriveByWrong : ChangeSpec := { name := "fnExactArriveBy", fn := fun _ => fun
  | [d1, d2, d3, d4] => { results := [.lit (.bool false)], args := [d1, d2, d3, d4] }
  | _ => none }
def FnExactArriveByWrongFalsely : Prop := fnExactArriveByRow.holds Try.pinned (OpenSpec.ofChange fnExactArriveByWrong)

/-- 'laws.FnExactEarliestFrom': WHATEVER THE INPUT: true; the input reads as it did. -/
def fnExactEarliestFromSpec : ChangeSpec := { name := "fnExactEarliestFrom", fn := fun _ => fun
  | [d1, d2, d3] => { results := [.lit (.bool true)], args := [d1, d2, d3] }
  | _ => none }
def fnExactEarliestFromRow : OpenClaim := { program := "ytckndinhkkhonaa", sum := "94518cc6bee4d879ecf72ddd961b4a523ceb618f67384b8ed880b95e40999bb5", func := "loop.example/g00315/laws.FnExactEarliestFrom", spec := "fnExactEarliestFrom", unfollowed := true, recurses := true, apart := false }
def FnExactEarliestFromSaid : Prop := fnExactEarliestFromRow.holds Try.pinned (OpenSpec.ofChange fnExactEarliestFromSpec)

/-- ITS FALSE NEIGHBOUR: 'it returns false'. Refute it at one input. -/
def fnExactEarliestFromWrong : ChangeSpec := { name := "fnExactEarliestFrom", fn := fun _ => fun
  | [d1, d2, d3] => { results := [.lit (.bool false)], args := [d1, d2, d3] }
  | _ => none }
def FnExactEarliestFromWrongFalsely : Prop := fnExactEarliestFromRow.holds Try.pinned (OpenSpec.ofChange fnExactEarliestFromWrong)

/-- 'laws.FnExactLatestFor': WHATEVER THE INPUT: true; the input reads as it did. -/
def fnExactLatestForSpec : ChangeSpec := { name := "fnExactLatestFor", fn := fun _ => fun
  | [d1, d2, d3, d4] => { results := [.lit (.bool true)], args := [d1, d2, d3, d4] }
  | _ => none }
def fnExactLatestForRow : OpenClaim := { program := "ytckndinhkkhonaa", sum := "94518cc6bee4d879ecf72ddd961b4a523ceb618f67384b8ed880b95e40999bb5", func := "loop.example/g00315/laws.FnExactLatestFor", spec := "fnExactLatestFor", unfollowed := true, recurses := true, apart := false }
def FnExactLatestForSaid : Prop := fnExactLatestForRow.holds Try.pinned (OpenSpec.ofChange fnExactLatestForSpec)

/-- ITS FALSE NEIGHBOUR: 'it returns false'. Refute it at one input. -/
def fnExactLatestForWrong : ChangeSpec := { name := "fnExactLatestFor", fn := fun _ => fun
  | [d1, d2, d3, d4] => { results := [.lit (.bool false)], args := [d1, d2, d3, d4] }
  | _ => none }
def FnExactLatestForWrongFalsely : Prop := fnExactLatestForRow.holds Try.pinned (OpenSpec.ofChange fnExactLatestForWrong)

/-- 'laws.FnExactRouteTo': WHATEVER THE INPUT: true; the input reads as it did. -/
def fnExactRouteToSpec : ChangeSpec := { name := "fnExactRouteTo", fn := fun _ => fun
  | [d1, d2, d3, d4] => { results := [.lit (.bool true)], args := [d1, d2, d3, d4] }
  | _ => none }
def fnExactRouteToRow : OpenClaim := { program := "ytckndinhkkhonaa", sum := "94518cc6bee4d879ecf72ddd961b4a523ceb618f67384b8ed880b95e40999bb5", func := "loop.example/g00315/laws.FnExactRouteTo", spec := "fnExactRouteTo", unfollowed := true, recurses := true, apart := false }
def FnExactRouteToSaid : Prop := fnExactRouteToRow.holds Try.pinned (OpenSpec.ofChange fnExactRouteToSpec)

/-- ITS FALSE NEIGHBOUR: 'it returns false'. Refute it at one input. -/
def fnExactRouteToWrong : ChangeSpec := { name := "fnExactRouteTo", fn := fun _ => fun
  | [d1, d2, d3, d4] => { results := [.lit (.bool false)], args := [d1, d2, d3, d4] }
  | _ => none }
def FnExactRouteToWrongFalsely : Prop := fnExactRouteToRow.holds Try.pinned (OpenSpec.ofChange fnExactRouteToWrong)

/-- 'laws.FnEarliest': WHATEVER THE INPUT: true; the input reads as it did. -/
def fnEarliestSpec : ChangeSpec := { name := "fnEarliest", fn := fun _ => fun
  | [d1, d2] => { results := [.lit (.bool true)], args := [d1, d2] }
  | _ => none }
def fnEarliestRow : OpenClaim := { program := "ytckndinhkkhonaa", sum := "94518cc6bee4d879ecf72ddd961b4a523ceb618f67384b8ed880b95e40999bb5", func := "loop.example/g00315/laws.FnEarliest", spec := "fnEarliest", unfollowed := true, recurses := true, apart := false }
def FnEarliestSaid : Prop := fnEarliestRow.holds Try.pinned (OpenSpec.ofChange fnEarliestSpec)

/-- ITS FALSE NEIGHBOUR: 'it returns false'. Refute it at one input. -/
def fnEarliestWrong : ChangeSpec := { name := "fnEarliest", fn := fun _ => fun
  | [d1, d2] => { results := [.lit (.bool false)], args := [d1, d2] }
  | _ => none }
def FnEarliestWrongFalsely : Prop := fnEarliestRow.holds Try.pinned (OpenSpec.ofChange fnEarliestWrong)

/-- 'laws.FnLatest': WHATEVER THE INPUT: true; the input reads as it did. -/
def fnLatestSpec : ChangeSpec := { name := "fnLatest", fn := fun _ => fun
  | [d1, d2] => { results := [.lit (.bool true)], args := [d1, d2] }
  | _ => none }
def fnLatestRow : OpenClaim := { program := "ytckndinhkkhonaa", sum := "94518cc6bee4d879ecf72ddd961b4a523ceb618f67384b8ed880b95e40999bb5", func := "loop.example/g00315/laws.FnLatest", spec := "fnLatest", unfollowed := true, recurses := true, apart := false }
def FnLatestSaid : Prop := fnLatestRow.holds Try.pinned (OpenSpec.ofChange fnLatestSpec)

/-- ITS FALSE NEIGHBOUR: 'it returns false'. Refute it at one input. -/
def fnLatestWrong : ChangeSpec := { name := "fnLatest", fn := fun _ => fun
  | [d1, d2] => { results := [.lit (.bool false)], args := [d1, d2] }
  | _ => none }
def FnLatestWrongFalsely : Prop := fnLatestRow.holds Try.pinned (OpenSpec.ofChange fnLatestWrong)

/-- 'laws.FnExactGoodEdges': WHATEVER THE INPUT: true; the input reads as it did. -/
def fnExactGoodEdgesSpec : ChangeSpec := { name := "fnExactGoodEdges", fn := fun _ => fun
  | [d] => { results := [.lit (.bool true)], args := [d] }
  | _ => none }
def fnExactGoodEdgesRow : OpenClaim := { program := "ytckndinhkkhonaa", sum := "94518cc6bee4d879ecf72ddd961b4a523ceb618f67384b8ed880b95e40999bb5", func := "loop.example/g00315/laws.FnExactGoodEdges", spec := "fnExactGoodEdges", unfollowed := true, recurses := true, apart := false }
def FnExactGoodEdgesSaid : Prop := fnExactGoodEdgesRow.holds Try.pinned (OpenSpec.ofChange fnExactGoodEdgesSpec)

/-- ITS FALSE NEIGHBOUR: 'it returns false'. Refute it at one input. -/
def fnExactGoodEdgesWrong : ChangeSpec := { name := "fnExactGoodEdges", fn := fun _ => fun
  | [d] => { results := [.lit (.bool false)], args := [d] }
  | _ => none }
def FnExactGoodEdgesWrongFalsely : Prop := fnExactGoodEdgesRow.holds Try.pinned (OpenSpec.ofChange fnExactGoodEdgesWrong)

/-- 'laws.FnExactIsForest': WHATEVER THE INPUT: true; the input reads as it did. -/
def fnExactIsForestSpec : ChangeSpec := { name := "fnExactIsForest", fn := fun _ => fun
  | [d1, d2] => { results := [.lit (.bool true)], args := [d1, d2] }
  | _ => none }
def fnExactIsForestRow : OpenClaim := { program := "ytckndinhkkhonaa", sum := "94518cc6bee4d879ecf72ddd961b4a523ceb618f67384b8ed880b95e40999bb5", func := "loop.example/g00315/laws.FnExactIsForest", spec := "fnExactIsForest", unfollowed := true, recurses := true, apart := false }
def FnExactIsForestSaid : Prop := fnExactIsForestRow.holds Try.pinned (OpenSpec.ofChange fnExactIsForestSpec)

/-- ITS FALSE NEIGHBOUR: 'it returns false'. Refute it at one input. -/
def fnExactIsForestWrong : ChangeSpec := { name := "fnExactIsForest", fn := fun _ => fun
  | [d1, d2] => { results := [.lit (.bool false)], args := [d1, d2] }
  | _ => none }
def FnExactIsForestWrongFalsely : Prop := fnExactIsForestRow.holds Try.pinned (OpenSpec.ofChange fnExactIsForestWrong)

/- THE SECOND FORM. 'bulk': how many values and letters a reading holds, each counted each time it is reached (what is shared counts as often as it is met; a slice's spare places count too). A statement '..UptoSaid' is the law's where the arguments, and the package variables that the reading takes, are together of bulk at most 1048576: NARROWER than '..Said'. Prove '..Said' where nothing that the law and all that it calls make is longer than what came in: it says more and counts as full. Else prove '..UptoSaid'. A law counts once. -/
mutual
def uptoBulk {H : Type} : DataW H → Nat
  | .lit (.string bytes) => bytes.length + 1
  | .lit _ => 1
  | .nil => 1
  | .ptr d => uptoBulk d + 1
  | .slice elems spare => uptoBulkAll elems + uptoBulkAll spare + 1
  | .agg parts => uptoBulkAll parts + 1
  | .iface _ d => uptoBulk d + 1
  | .map entries => uptoBulkEntries entries + 1
  | .held _ => 1
def uptoBulkAll {H : Type} : List (DataW H) → Nat
  | [] => 0
  | d :: r => uptoBulk d + uptoBulkAll r
def uptoBulkEntries {H : Type} : List (Lit × DataW H) → Nat
  | [] => 0
  | x :: r => uptoBulkEntry x + uptoBulkEntries r
def uptoBulkEntry {H : Type} : Lit × DataW H → Nat
  | (.string bytes, d) => bytes.length + uptoBulk d + 1
  | (_, d) => uptoBulk d + 1
 end
def uptoSmall : (H : Type) → List (DataW H) → Bool := fun _ ds => decide (uptoBulkAll ds ≤ 1048576)
def OpenSpec.upto (s : _root_.Go.ChangeSpec) : _root_.Go.OpenSpec := { _root_.Go.OpenSpec.ofChange s with cond := some uptoSmall }

/-- 'laws.FnExactGoodPlan', WHERE WHAT IT READS IS OF BULK AT MOST 1048576: true; the input reads as it did. -/
def fnExactGoodPlanUptoRow : OpenClaim := { program := "ytckndinhkkhonaa", sum := "94518cc6bee4d879ecf72ddd961b4a523ceb618f67384b8ed880b95e40999bb5", func := "loop.example/g00315/laws.FnExactGoodPlan", spec := "fnExactGoodPlan", unfollowed := true, recurses := true, apart := false, narrowed := true }
def FnExactGoodPlanUptoSaid : Prop := fnExactGoodPlanUptoRow.holds Try.pinned (OpenSpec.upto fnExactGoodPlanSpec)

/-- 'laws.FnExactOpenAt', WHERE WHAT IT READS IS OF BULK AT MOST 1048576: true; the input reads as it did. -/
def fnExactOpenAtUptoRow : OpenClaim := { program := "ytckndinhkkhonaa", sum := "94518cc6bee4d879ecf72ddd961b4a523ceb618f67384b8ed880b95e40999bb5", func := "loop.example/g00315/laws.FnExactOpenAt", spec := "fnExactOpenAt", unfollowed := true, recurses := true, apart := false, narrowed := true }
def FnExactOpenAtUptoSaid : Prop := fnExactOpenAtUptoRow.holds Try.pinned (OpenSpec.upto fnExactOpenAtSpec)

/-- 'laws.FnExactUsesOf', WHERE WHAT IT READS IS OF BULK AT MOST 1048576: true; the input reads as it did. -/
def fnExactUsesOfUptoRow : OpenClaim := { program := "ytckndinhkkhonaa", sum := "94518cc6bee4d879ecf72ddd961b4a523ceb618f67384b8ed880b95e40999bb5", func := "loop.example/g00315/laws.FnExactUsesOf", spec := "fnExactUsesOf", unfollowed := true, recurses := true, apart := false, narrowed := true }
def FnExactUsesOfUptoSaid : Prop := fnExactUsesOfUptoRow.holds Try.pinned (OpenSpec.upto fnExactUsesOfSpec)

/-- 'laws.FnExactArriveBy', WHERE WHAT IT READS IS OF BULK AT MOST 1048576: true; the input reads as it did. -/
def fnExactArriveByUptoRow : OpenClaim := { program := "ytckndinhkkhonaa", sum := "94518cc6bee4d879ecf72ddd961b4a523ceb618f67384b8ed880b95e40999bb5", func := "loop.example/g00315/laws.FnExactArriveBy", spec := "fnExactArriveBy", unfollowed := true, recurses := true, apart := false, narrowed := true }
def FnExactArriveByUptoSaid : Prop := fnExactArriveByUptoRow.holds Try.pinned (OpenSpec.upto fnExactArriveBySpec)

/-- 'laws.FnExactEarliestFrom', WHERE WHAT IT READS IS OF BULK AT MOST 1048576: true; the input reads as it did. -/
def fnExactEarliestFromUptoRow : OpenClaim := { program := "ytckndinhkkhonaa", sum := "94518cc6bee4d879ecf72ddd961b4a523ceb618f67384b8ed880b95e40999bb5", func := "loop.example/g00315/laws.FnExactEarliestFrom", spec := "fnExactEarliestFrom", unfollowed := true, recurses := true, apart := false, narrowed := true }
def FnExactEarliestFromUptoSaid : Prop := fnExactEarliestFromUptoRow.holds Try.pinned (OpenSpec.upto fnExactEarliestFromSpec)

/-- 'laws.FnExactLatestFor', WHERE WHAT IT READS IS OF BULK AT MOST 1048576: true; the input reads as it did. -/
def fnExactLatestForUptoRow : OpenClaim := { program := "ytckndinhkkhonaa", sum := "94518cc6bee4d879ecf72ddd961b4a523ceb618f67384b8ed880b95e40999bb5", func := "loop.example/g00315/laws.FnExactLatestFor", spec := "fnExactLatestFor", unfollowed := true, recurses := true, apart := false, narrowed := true }
def FnExactLatestForUptoSaid : Prop := fnExactLatestForUptoRow.holds Try.pinned (OpenSpec.upto fnExactLatestForSpec)

/-- 'laws.FnExactRouteTo', WHERE WHAT IT READS IS OF BULK AT MOST 1048576: true; the input reads as it did. -/
def fnExactRouteToUptoRow : OpenClaim := { program := "ytckndinhkkhonaa", sum := "94518cc6bee4d879ecf72ddd961b4a523ceb618f67384b8ed880b95e40999bb5", func := "loop.example/g00315/laws.FnExactRouteTo", spec := "fnExactRouteTo", unfollowed := true, recurses := true, apart := false, narrowed := true }
def FnExactRouteToUptoSaid : Prop := fnExactRouteToUptoRow.holds Try.pinned (OpenSpec.upto fnExactRouteToSpec)

/-- 'laws.FnEarliest', WHERE WHAT IT READS IS OF BULK AT MOST 1048576: true; the input reads as it did. -/
def fnEarliestUptoRow : OpenClaim := { program := "ytckndinhkkhonaa", sum := "94518cc6bee4d879ecf72ddd961b4a523ceb618f67384b8ed880b95e40999bb5", func := "loop.example/g00315/laws.FnEarliest", spec := "fnEarliest", unfollowed := true, recurses := true, apart := false, narrowed := true }
def FnEarliestUptoSaid : Prop := fnEarliestUptoRow.holds Try.pinned (OpenSpec.upto fnEarliestSpec)

/-- 'laws.FnLatest', WHERE WHAT IT READS IS OF BULK AT MOST 1048576: true; the input reads as it did. -/
def fnLatestUptoRow : OpenClaim := { program := "ytckndinhkkhonaa", sum := "94518cc6bee4d879ecf72ddd961b4a523ceb618f67384b8ed880b95e40999bb5", func := "loop.example/g00315/laws.FnLatest", spec := "fnLatest", unfollowed := true, recurses := true, apart := false, narrowed := true }
def FnLatestUptoSaid : Prop := fnLatestUptoRow.holds Try.pinned (OpenSpec.upto fnLatestSpec)

/-- 'laws.FnExactGoodEdges', WHERE WHAT IT READS IS OF BULK AT MOST 1048576: true; the input reads as it did. -/
def fnExactGoodEdgesUptoRow : OpenClaim := { program := "ytckndinhkkhonaa", sum := "94518cc6bee4d879ecf72ddd961b4a523ceb618f67384b8ed880b95e40999bb5", func := "loop.example/g00315/laws.FnExactGoodEdges", spec := "fnExactGoodEdges", unfollowed := true, recurses := true, apart := false, narrowed := true }
def FnExactGoodEdgesUptoSaid : Prop := fnExactGoodEdgesUptoRow.holds Try.pinned (OpenSpec.upto fnExactGoodEdgesSpec)

/-- 'laws.FnExactIsForest', WHERE WHAT IT READS IS OF BULK AT MOST 1048576: true; the input reads as it did. -/
def fnExactIsForestUptoRow : OpenClaim := { program := "ytckndinhkkhonaa", sum := "94518cc6bee4d879ecf72ddd961b4a523ceb618f67384b8ed880b95e40999bb5", func := "loop.example/g00315/laws.FnExactIsForest", spec := "fnExactIsForest", unfollowed := true, recurses := true, apart := false, narrowed := true }
def FnExactIsForestUptoSaid : Prop := fnExactIsForestUptoRow.holds Try.pinned (OpenSpec.upto fnExactIsForestSpec)

end Rows
end Go.Proofs.Ytckndinhkkhonaa
