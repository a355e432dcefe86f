/- The law FnExactMissingIn answers true for every argument, and leaves each argument as it was: the row. Conditions: the row's own (none beside). -/
import Derived.Test.YtlkbbolkadkedaaRows
import Derived.Test.YtlkbbolkadkedaaQFnExactWholeOfx14
import Derived.Test.YtlkbbolkadkedaaOpens
import Derived.Test.YtlkbbolkadkedaaPureFnExactMissingIn
import Derived.WalkKit
import Derived.ProofKit
import Derived.OpenShut
import Derived.ShutString
import Derived.ChangeOld
import Derived.Below
import Derived.SizedLaws
set_option linter.unusedVariables false
set_option linter.unusedSimpArgs false
namespace Go.Proofs.Ytlkbbolkadkedaa.fnExactMissingIn
open Go.ChangeShapes Go.WideShapes Go.ChangeAt Go.RowKit
open Go.Proofs.Ytlkbbolkadkedaa.QFnExactWholeOf Go.Proofs.YtlkbbolkadkedaaW.PrintWords Go.Proofs.Ytlkbbolkadkedaa.Opens Go.Proofs.Ytlkbbolkadkedaa.GoalFnExactMissingIn
open Go.ChangeMaps (open_string shut_string)
theorem own : ownKnob Try.prog.godebug = none := by kernel_rfl
theorem laidOut : laidOutB Try.prog = true := by kernel_rfl
theorem op42 : Opens Try.prog 42 k42 ok42 :=
  opens_struct Try.underlying42 (by kernel_rfl) (opens_cons rfl (opens_int (k := .i64) Try.underlying3 (by kernel_rfl)) (opens_cons rfl (opens_int (k := .i64) Try.underlying3 (by kernel_rfl)) (opens_cons rfl (opens_bool Try.underlying4 (by kernel_rfl)) (opens_cons rfl (opens_int (k := .i64) Try.underlying3 (by kernel_rfl)) (opens_cons rfl (opens_int (k := .i64) Try.underlying3 (by kernel_rfl)) (opens_cons rfl (opens_int (k := .i64) Try.underlying3 (by kernel_rfl)) (opens_cons rfl (opens_int (k := .i64) Try.underlying3 (by kernel_rfl)) (opens_cons rfl (opens_int (k := .i64) Try.underlying3 (by kernel_rfl)) (opens_cons rfl (opens_int (k := .i64) Try.underlying3 (by kernel_rfl)) (opens_last rfl (opens_string Try.underlying9 (by kernel_rfl)))))))))))) _ (fun y => ⟨y.1, y.2.1, y.2.2.1, y.2.2.2.1, y.2.2.2.2.1, y.2.2.2.2.2.1, y.2.2.2.2.2.2.1, y.2.2.2.2.2.2.2.1, y.2.2.2.2.2.2.2.2.1, y.2.2.2.2.2.2.2.2.2⟩) (fun _ => rfl)
theorem pa24 : Opens Try.prog 24 (Kd.iso (Kd.slice 42 k42) (fun y : (List S42) => y)) (fun y => (y.length ≤ maxLen ∧ ∀ z ∈ y, ok42 z)) :=
  opens_struct Try.underlying24 (by kernel_rfl) (opens_last rfl (opens_slice Try.underlying22 (by kernel_rfl) op42)) _ (fun y => y) (fun _ => rfl)
theorem pv24 {w : World} {y : (List S42)} {cs : List Value} (h : (Kd.slice 42 k42).K w y cs) : ∃ (A0 : Option Addr) (c0 : Nat), cs = [.slice A0 y.length c0] ∧ y.length ≤ c0 ∧ Kd.C k42 w A0 y.length y := by
  obtain ⟨A0, c0, rfl, hl0, hr0⟩ := h
  exact ⟨A0, c0, rfl, hl0, hr0⟩
set_option maxRecDepth 100000 in
theorem lifted (os : Os) (started : os.Started) (H : Type) (enc : TypeId × Value → H) :
    ReturnsInHanded {} Try.checked os 5 .any (Rows.fnExactMissingInSpec.pre6 enc Try.prog Try.f5 Rows.fnExactMissingInRow.domain false) (Rows.fnExactMissingInSpec.post enc Try.prog Try.f5 false true false false) := by
  refine returnsInHanded_of_change_sized (C := Try.checked) own started (by kernel_rfl) Try.func5
    (ChangeSpec.witness6 (enc := enc) (C := Try.checked) false ⟨#[], #[.agg #[.slice none 0 0]], []⟩ 8 (by kernel_rfl) (by kernel_rfl) (by kernel_rfl) (by kernel_rfl)) ?_
  intro W base args ds gs before hval0 hW hcnd hsz0 _
  have hsz : (DataW.weightsEach Try.prog (Try.f5.params.toList ++ Rows.fnExactMissingInSpec.plain.varTypes Try.prog) (ds ++ gs)).all (· ≤ reachBytes) = true := hsz0
  have hval : ∀ (j : Nat) t v, Try.f5.params[j]? = some t → args[j]? = some v → Value.okWide Try.prog W .any base t v := hval0
  have hW' := hW
  obtain ⟨p, q, hA0, hV, rfl, hfz, hnd⟩ := hW
  have hA : DataW.TrodAll enc Try.prog W 0 (fun _ => true) true Try.f5.params.toList args.toList ds p := hA0
  rw [Try.params5] at hA hval hsz
  obtain ⟨v0, vs0, d0, ds0, p0, q0, hargs, rfl, rfl, h0, r0⟩ := trodAll_cons hA
  obtain ⟨rfl, rfl, rfl⟩ := trodAll_nil r0
  obtain rfl : args = #[v0] := by cases args; simp_all
  obtain ⟨rfl, rfl⟩ := trodVars_none hV
  have k0 := h0
  have lt0 := trod_places h0
  obtain ⟨cs0, rfl, _⟩ := okWide_struct Try.underlying24 (hval 0 24 v0 rfl rfl)
  obtain ⟨y0, hy0, ok0⟩ := pa24.arg h0
  obtain ⟨A0_0, c0_0, e0, hc0_0, hr0_0⟩ := pv24 hy0
  obtain rfl : cs0 = #[.slice A0_0 y0.length c0_0] := Array.toList_inj.mp e0
  have w0_0 := ok0
  clear hA0 hval0 hsz0 hsz
  obtain ⟨k, hk⟩ := Pure.FnExactMissingIn y0 w0_0
  refine (laws_FnExactMissingIn.calls k _ _ y0 true W hr0_0 hc0_0 hk).mono fun e W' ⟨he, bel⟩ => ?_
  subst he
  exact ⟨_, rfl, _, _, _, [], _, [], hW', trodAll_mk1 (shut_bool Try.underlying4 _), (trodAll_cons_mk (Below.trod laidOut (by kernel_rfl) (of_decide_eq_true (by kernel_rfl)) k0 bel lt0) trodAll_mk0), rfl, bel.frame _, fun h => by cases h⟩
theorem over : Rows.fnExactMissingInRow.holds Try.pinned (OpenSpec.ofChange Rows.fnExactMissingInSpec) :=
  OpenClaim.holds_of_wide 5 Try.f5 rfl rfl rfl rfl rfl rfl rfl ⟨rfl, rfl, rfl, rfl, rfl⟩ rfl rfl rfl rfl rfl (by kernel_rfl) Try.func5 (by kernel_rfl)
    (of_decide_eq_true (by kernel_rfl)) (by unfold Func.isWrapper; first | (rw [if_pos (by decide +kernel)]; kernel_rfl) | (rw [if_neg (by decide +kernel)]; exact ⟨rfl, rfl⟩))
    (fun os started H enc _ => lifted os started H enc)
theorem proved : Rows.FnExactMissingInSaid := over
#print axioms proved
end Go.Proofs.Ytlkbbolkadkedaa.fnExactMissingIn
namespace Go.Proofs.Ytlkbbolkadkedaa
theorem fnExactMissingIn_holds : Rows.FnExactMissingInSaid := fnExactMissingIn.proved
end Go.Proofs.Ytlkbbolkadkedaa
