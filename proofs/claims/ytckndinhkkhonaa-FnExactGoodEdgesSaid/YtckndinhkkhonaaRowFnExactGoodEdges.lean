/- The law FnExactGoodEdges answers true for every argument, and leaves each argument as it was: the row. Conditions: the row's own (none beside). -/
import Derived.Test.YtckndinhkkhonaaRows
import Derived.Test.YtckndinhkkhonaaQFnExactGoodEdgesx2
import Derived.Test.YtckndinhkkhonaaOpens
import Derived.Test.YtckndinhkkhonaaPureFnExactGoodEdges
import Derived.WalkKit
import Derived.ProofKit
import Derived.OpenShut
import Derived.ShutString
import Derived.ChangeOld
import Derived.Below
import Derived.SizedLaws
set_option linter.unusedVariables false
set_option linter.unusedSimpArgs false
namespace Go.Proofs.Ytckndinhkkhonaa.fnExactGoodEdges
open Go.ChangeShapes Go.WideShapes Go.ChangeAt Go.RowKit
open Go.Proofs.Ytckndinhkkhonaa.QFnExactGoodEdges Go.Proofs.YtckndinhkkhonaaW.PrintWords Go.Proofs.Ytckndinhkkhonaa.Opens Go.Proofs.Ytckndinhkkhonaa.GoalFnExactGoodEdges
open Go.ChangeMaps (open_string shut_string)
theorem own : ownKnob Try.prog.godebug = none := by kernel_rfl
theorem laidOut : laidOutB Try.prog = true := by kernel_rfl
theorem op99 : Opens Try.prog 99 k99 ok99 :=
  opens_struct Try.underlying99 (by kernel_rfl) (opens_cons rfl (opens_int (k := .i64) Try.underlying3 (by kernel_rfl)) (opens_cons rfl (opens_int (k := .i64) Try.underlying3 (by kernel_rfl)) (opens_last rfl (opens_int (k := .i64) Try.underlying3 (by kernel_rfl))))) _ (fun y => ⟨y.1, y.2.1, y.2.2⟩) (fun _ => rfl)
set_option maxRecDepth 100000 in
theorem lifted (os : Os) (started : os.Started) (H : Type) (enc : TypeId × Value → H) :
    ReturnsInHanded {} Try.checked os 12 .any (Rows.fnExactGoodEdgesSpec.pre6 enc Try.prog Try.f12 Rows.fnExactGoodEdgesRow.domain false) (Rows.fnExactGoodEdgesSpec.post enc Try.prog Try.f12 false true false false) := by
  refine returnsInHanded_of_change_sized (C := Try.checked) own started (by kernel_rfl) Try.func12
    (ChangeSpec.witness6 (enc := enc) (C := Try.checked) false ⟨#[], #[.slice none 0 0], []⟩ 8 (by kernel_rfl) (by kernel_rfl) (by kernel_rfl) (by kernel_rfl)) ?_
  intro W base args ds gs before hval0 hW hcnd hsz0 _
  have hsz : (DataW.weightsEach Try.prog (Try.f12.params.toList ++ Rows.fnExactGoodEdgesSpec.plain.varTypes Try.prog) (ds ++ gs)).all (· ≤ reachBytes) = true := hsz0
  have hval : ∀ (j : Nat) t v, Try.f12.params[j]? = some t → args[j]? = some v → Value.okWide Try.prog W .any base t v := hval0
  have hW' := hW
  obtain ⟨p, q, hA0, hV, rfl, hfz, hnd⟩ := hW
  have hA : DataW.TrodAll enc Try.prog W 0 (fun _ => true) true Try.f12.params.toList args.toList ds p := hA0
  rw [Try.params12] at hA hval hsz
  obtain ⟨v0, vs0, d0, ds0, p0, q0, hargs, rfl, rfl, h0, r0⟩ := trodAll_cons hA
  obtain ⟨rfl, rfl, rfl⟩ := trodAll_nil r0
  obtain rfl : args = #[v0] := by cases args; simp_all
  obtain ⟨rfl, rfl⟩ := trodVars_none hV
  have k0 := h0
  have lt0 := trod_places h0
  obtain ⟨a0, len0, cap0, rfl⟩ := okWide_slice Try.underlying63 (hval 0 63 v0 rfl rfl)
  have y0 : len0 * 24 ≤ 140737488351232 := sized_row hsz (j := 0) (t := 63) rfl rfl Try.underlying63 (by kernel_rfl) h0
  obtain ⟨l0, ⟨A0, c0, e0, hc0, hr0⟩, ok0⟩ := (opens_slice Try.underlying63 (by kernel_rfl) op99).arg h0
  simp only [Value.cells, List.cons.injEq, and_true, Value.slice.injEq] at e0
  obtain ⟨rfl, rfl, rfl⟩ := e0
  clear hA0 hval0 hsz0 hsz
  obtain ⟨k, hk⟩ := Pure.FnExactGoodEdges l0 ok0.1 y0 ok0.2
  refine (laws_FnExactGoodEdges.calls k _ _ l0 true W hr0 hc0 hk).mono fun e W' ⟨he, bel⟩ => ?_
  subst he
  exact ⟨_, rfl, _, _, _, [], _, [], hW', trodAll_mk1 (shut_bool Try.underlying4 _), (trodAll_cons_mk (Below.trod laidOut (by kernel_rfl) (of_decide_eq_true (by kernel_rfl)) k0 bel lt0) trodAll_mk0), rfl, bel.frame _, fun h => by cases h⟩
theorem over : Rows.fnExactGoodEdgesRow.holds Try.pinned (OpenSpec.ofChange Rows.fnExactGoodEdgesSpec) :=
  OpenClaim.holds_of_wide 12 Try.f12 rfl rfl rfl rfl rfl rfl rfl ⟨rfl, rfl, rfl, rfl, rfl⟩ rfl rfl rfl rfl rfl (by kernel_rfl) Try.func12 (by kernel_rfl)
    (of_decide_eq_true (by kernel_rfl)) (by unfold Func.isWrapper; first | (rw [if_pos (by decide +kernel)]; kernel_rfl) | (rw [if_neg (by decide +kernel)]; exact ⟨rfl, rfl⟩))
    (fun os started H enc _ => lifted os started H enc)
theorem proved : Rows.FnExactGoodEdgesSaid := over
#print axioms proved
end Go.Proofs.Ytckndinhkkhonaa.fnExactGoodEdges
namespace Go.Proofs.Ytckndinhkkhonaa
/-- The row, under a short name, for the claim. -/
theorem fnExactGoodEdges_holds : Rows.FnExactGoodEdgesSaid := fnExactGoodEdges.proved
end Go.Proofs.Ytckndinhkkhonaa
