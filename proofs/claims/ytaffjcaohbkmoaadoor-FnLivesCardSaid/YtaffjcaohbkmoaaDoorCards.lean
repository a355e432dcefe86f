/-
  DERIVED. GIVEN WITH THE SEED: THE CARDS: each row of YtaffjcaohbkmoaaDoorRows.lean that lists a variable, with what it lists TIED to the program's text (the seventh form; the later family's looks); each row that meets fmt, with fmt's text TOLD by the authors' own Lean function (tested against real Go, not proved from fmt's source: count such statements apart). THE CARD IS WHAT COUNTS. Prove the row's statement (the work); the ties are given (YtaffjcaohbkmoaaDoorTie.lean); close each card by the builder's one call (the guide's Derived/Test/ToyasCard.lean, 'card_holds'). Laid BY PROGRAM, IN A SANDBOX (cutbox-door.mjs). By AI agents, Wed Nov 11 2026. No macro, syntax, notation, axiom, sorry.
-/
import Derived.Test.YtaffjcaohbkmoaaDoorRows
import GoSem.ClaimSeven
namespace Go.Proofs.YtaffjcaohbkmoaaDoor
namespace Rows

/-- THE TIED CARD OF 'laws.FnExactIdOf'. -/
def fnExactIdOfCard : Claim7 := { stood := { row := fnExactIdOfRow, standIns := [], harness := (true, "81200063ac122a9c51da7c2ad451b9b9669c3e38c59dddba6d23c8ef01dd3a35"), looks := false }, kinds := [], alts := [], laidByText := true, laidKinds := [.data, .data, .data], laidTests := true, laidLooks := .later }
def FnExactIdOfCardSaid : Prop := Claim7.holds Tryd.pinned (.plain (OpenSpec.ofChange fnExactIdOfSpec)) fnExactIdOfCard

/-- THE TIED CARD OF 'laws.FnExactSameBundle'. -/
def fnExactSameBundleCard : Claim7 := { stood := { row := fnExactSameBundleRow, standIns := [], harness := (true, "81200063ac122a9c51da7c2ad451b9b9669c3e38c59dddba6d23c8ef01dd3a35"), looks := false }, kinds := [], alts := [], laidByText := true, laidKinds := [.data, .data, .data], laidTests := true, laidLooks := .later }
def FnExactSameBundleCardSaid : Prop := Claim7.holds Tryd.pinned (.plain (OpenSpec.ofChange fnExactSameBundleSpec)) fnExactSameBundleCard

/-- THE TIED CARD OF 'laws.FnLives'. -/
def fnLivesCard : Claim7 := { stood := { row := fnLivesRow, standIns := [], harness := (true, "81200063ac122a9c51da7c2ad451b9b9669c3e38c59dddba6d23c8ef01dd3a35"), looks := false }, kinds := [], alts := [], laidByText := true, laidKinds := [.data, .data, .data], laidTests := true, laidLooks := .later }
def FnLivesCardSaid : Prop := Claim7.holds Tryd.pinned (.plain (OpenSpec.ofChange fnLivesSpec)) fnLivesCard

/-- THE SECOND FORM's CARD OF 'laws.FnExactIdOf'. -/
def fnExactIdOfUptoCard : Claim7 := { stood := { row := fnExactIdOfUptoRow, standIns := [], harness := (true, "81200063ac122a9c51da7c2ad451b9b9669c3e38c59dddba6d23c8ef01dd3a35"), looks := false }, kinds := [], alts := [], laidByText := true, laidKinds := [.data, .data, .data], laidTests := true, laidLooks := .later }
def FnExactIdOfUptoCardSaid : Prop := Claim7.holds Tryd.pinned (.plain (OpenSpec.upto fnExactIdOfSpec)) fnExactIdOfUptoCard

/-- THE SECOND FORM's CARD OF 'laws.FnExactSameBundle'. -/
def fnExactSameBundleUptoCard : Claim7 := { stood := { row := fnExactSameBundleUptoRow, standIns := [], harness := (true, "81200063ac122a9c51da7c2ad451b9b9669c3e38c59dddba6d23c8ef01dd3a35"), looks := false }, kinds := [], alts := [], laidByText := true, laidKinds := [.data, .data, .data], laidTests := true, laidLooks := .later }
def FnExactSameBundleUptoCardSaid : Prop := Claim7.holds Tryd.pinned (.plain (OpenSpec.upto fnExactSameBundleSpec)) fnExactSameBundleUptoCard

/-- THE SECOND FORM's CARD OF 'laws.FnLives'. -/
def fnLivesUptoCard : Claim7 := { stood := { row := fnLivesUptoRow, standIns := [], harness := (true, "81200063ac122a9c51da7c2ad451b9b9669c3e38c59dddba6d23c8ef01dd3a35"), looks := false }, kinds := [], alts := [], laidByText := true, laidKinds := [.data, .data, .data], laidTests := true, laidLooks := .later }
def FnLivesUptoCardSaid : Prop := Claim7.holds Tryd.pinned (.plain (OpenSpec.upto fnLivesSpec)) fnLivesUptoCard
end Rows
end Go.Proofs.YtaffjcaohbkmoaaDoor
