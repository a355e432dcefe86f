/- The law FnExactAddPiece answers true for every argument, and leaves each argument as it was: the row. Conditions: the row's own (none beside). -/
import Derived.Test.YtlkbbolkadkedaaRows
import Derived.Test.YtlkbbolkadkedaaQFnExactAddPiecex14
import Derived.Test.YtlkbbolkadkedaaOpens
import Derived.Test.YtlkbbolkadkedaaPureFnExactAddPiece
import Derived.WalkKit
import Derived.ProofKit
import Derived.OpenShut
import Derived.ShutString
import Derived.ChangeOld
import Derived.Below
import Derived.SizedLaws
set_option linter.unusedVariables false
set_option linter.unusedSimpArgs false
namespace Go.Proofs.Ytlkbbolkadkedaa.fnExactAddPiece
open Go.ChangeShapes Go.WideShapes Go.ChangeAt Go.RowKit
open Go.Proofs.Ytlkbbolkadkedaa.QFnExactAddPiece Go.Proofs.YtlkbbolkadkedaaW.PrintWords Go.Proofs.Ytlkbbolkadkedaa.Opens Go.Proofs.Ytlkbbolkadkedaa.GoalFnExactAddPiece
open Go.ChangeMaps (open_string shut_string)
theorem own : ownKnob Try.prog.godebug = none := by kernel_rfl
theorem laidOut : laidOutB Try.prog = true := by kernel_rfl
theorem op42 : Opens Try.prog 42 k42 ok42 :=
  opens_struct Try.underlying42 (by kernel_rfl) (opens_cons rfl (opens_int (k := .i64) Try.underlying3 (by kernel_rfl)) (opens_cons rfl (opens_int (k := .i64) Try.underlying3 (by kernel_rfl)) (opens_cons rfl (opens_bool Try.underlying4 (by kernel_rfl)) (opens_cons rfl (opens_int (k := .i64) Try.underlying3 (by kernel_rfl)) (opens_cons rfl (opens_int (k := .i64) Try.underlying3 (by kernel_rfl)) (opens_cons rfl (opens_int (k := .i64) Try.underlying3 (by kernel_rfl)) (opens_cons rfl (opens_int (k := .i64) Try.underlying3 (by kernel_rfl)) (opens_cons rfl (opens_int (k := .i64) Try.underlying3 (by kernel_rfl)) (opens_cons rfl (opens_int (k := .i64) Try.underlying3 (by kernel_rfl)) (opens_last rfl (opens_string Try.underlying9 (by kernel_rfl)))))))))))) _ (fun y => ⟨y.1, y.2.1, y.2.2.1, y.2.2.2.1, y.2.2.2.2.1, y.2.2.2.2.2.1, y.2.2.2.2.2.2.1, y.2.2.2.2.2.2.2.1, y.2.2.2.2.2.2.2.2.1, y.2.2.2.2.2.2.2.2.2⟩) (fun _ => rfl)
theorem pa24 : Opens Try.prog 24 (Kd.iso (Kd.slice 42 k42) (fun y : (List S42) => y)) (fun y => (y.length ≤ maxLen ∧ ∀ z ∈ y, ok42 z)) :=
  opens_struct Try.underlying24 (by kernel_rfl) (opens_last rfl (opens_slice Try.underlying22 (by kernel_rfl) op42)) _ (fun y => y) (fun _ => rfl)
theorem pv24 {w : World} {y : (List S42)} {cs : List Value} (h : (Kd.slice 42 k42).K w y cs) : ∃ (A0 : Option Addr) (c0 : Nat), cs = [.slice A0 y.length c0] ∧ y.length ≤ c0 ∧ Kd.C k42 w A0 y.length y := by
  obtain ⟨A0, c0, rfl, hl0, hr0⟩ := h
  exact ⟨A0, c0, rfl, hl0, hr0⟩
theorem pa42 : Opens Try.prog 42 (Kd.iso (Kd.pair (Kd.int .i64) (Kd.pair (Kd.int .i64) (Kd.pair Kd.bool (Kd.pair (Kd.int .i64) (Kd.pair (Kd.int .i64) (Kd.pair (Kd.int .i64) (Kd.pair (Kd.int .i64) (Kd.pair (Kd.int .i64) (Kd.pair (Kd.int .i64) Kd.string))))))))) (fun y : Int × Int × Bool × Int × Int × Int × Int × Int × Int × ByteArray => y)) (fun y => (Lit.int .i64 y.1).wf = true ∧ (Lit.int .i64 y.2.1).wf = true ∧ True ∧ (Lit.int .i64 y.2.2.2.1).wf = true ∧ (Lit.int .i64 y.2.2.2.2.1).wf = true ∧ (Lit.int .i64 y.2.2.2.2.2.1).wf = true ∧ (Lit.int .i64 y.2.2.2.2.2.2.1).wf = true ∧ (Lit.int .i64 y.2.2.2.2.2.2.2.1).wf = true ∧ (Lit.int .i64 y.2.2.2.2.2.2.2.2.1).wf = true ∧ y.2.2.2.2.2.2.2.2.2.size ≤ maxLen) :=
  opens_struct Try.underlying42 (by kernel_rfl) (opens_cons rfl (opens_int (k := .i64) Try.underlying3 (by kernel_rfl)) (opens_cons rfl (opens_int (k := .i64) Try.underlying3 (by kernel_rfl)) (opens_cons rfl (opens_bool Try.underlying4 (by kernel_rfl)) (opens_cons rfl (opens_int (k := .i64) Try.underlying3 (by kernel_rfl)) (opens_cons rfl (opens_int (k := .i64) Try.underlying3 (by kernel_rfl)) (opens_cons rfl (opens_int (k := .i64) Try.underlying3 (by kernel_rfl)) (opens_cons rfl (opens_int (k := .i64) Try.underlying3 (by kernel_rfl)) (opens_cons rfl (opens_int (k := .i64) Try.underlying3 (by kernel_rfl)) (opens_cons rfl (opens_int (k := .i64) Try.underlying3 (by kernel_rfl)) (opens_last rfl (opens_string Try.underlying9 (by kernel_rfl)))))))))))) _ (fun y => y) (fun _ => rfl)
theorem pv42 {w : World} {y : Int × Int × Bool × Int × Int × Int × Int × Int × Int × ByteArray} {cs : List Value} (h : (Kd.pair (Kd.int .i64) (Kd.pair (Kd.int .i64) (Kd.pair Kd.bool (Kd.pair (Kd.int .i64) (Kd.pair (Kd.int .i64) (Kd.pair (Kd.int .i64) (Kd.pair (Kd.int .i64) (Kd.pair (Kd.int .i64) (Kd.pair (Kd.int .i64) Kd.string))))))))).K w y cs) : cs = [.int .i64 y.1, .int .i64 y.2.1, .bool y.2.2.1, .int .i64 y.2.2.2.1, .int .i64 y.2.2.2.2.1, .int .i64 y.2.2.2.2.2.1, .int .i64 y.2.2.2.2.2.2.1, .int .i64 y.2.2.2.2.2.2.2.1, .int .i64 y.2.2.2.2.2.2.2.2.1, .string y.2.2.2.2.2.2.2.2.2] := by
  obtain ⟨_, _, rfl, rfl, ⟨_, _, rfl, rfl, ⟨_, _, rfl, rfl, ⟨_, _, rfl, rfl, ⟨_, _, rfl, rfl, ⟨_, _, rfl, rfl, ⟨_, _, rfl, rfl, ⟨_, _, rfl, rfl, ⟨_, _, rfl, rfl, rfl⟩⟩⟩⟩⟩⟩⟩⟩⟩ := h
  exact rfl
set_option maxRecDepth 100000 in
theorem lifted (os : Os) (started : os.Started) (H : Type) (enc : TypeId × Value → H) :
    ReturnsInHanded {} Try.checked os 6 .any (Rows.fnExactAddPieceSpec.pre6 enc Try.prog Try.f6 Rows.fnExactAddPieceRow.domain false) (Rows.fnExactAddPieceSpec.post enc Try.prog Try.f6 false true false false) := by
  refine returnsInHanded_of_change_sized (C := Try.checked) own started (by kernel_rfl) Try.func6
    (ChangeSpec.witness6 (enc := enc) (C := Try.checked) false ⟨#[], #[.agg #[.slice none 0 0], .agg #[.int .i64 0, .int .i64 0, .bool false, .int .i64 0, .int .i64 0, .int .i64 0, .int .i64 0, .int .i64 0, .int .i64 0, .string ByteArray.empty]], []⟩ 8 (by kernel_rfl) (by kernel_rfl) (by kernel_rfl) (by kernel_rfl)) ?_
  intro W base args ds gs before hval0 hW hcnd hsz0 _
  have hsz : (DataW.weightsEach Try.prog (Try.f6.params.toList ++ Rows.fnExactAddPieceSpec.plain.varTypes Try.prog) (ds ++ gs)).all (· ≤ reachBytes) = true := hsz0
  have hval : ∀ (j : Nat) t v, Try.f6.params[j]? = some t → args[j]? = some v → Value.okWide Try.prog W .any base t v := hval0
  have hW' := hW
  obtain ⟨p, q, hA0, hV, rfl, hfz, hnd⟩ := hW
  have hA : DataW.TrodAll enc Try.prog W 0 (fun _ => true) true Try.f6.params.toList args.toList ds p := hA0
  rw [Try.params6] at hA hval hsz
  obtain ⟨v0, vs0, d0, ds0, p0, q0, hargs, rfl, rfl, h0, r0⟩ := trodAll_cons hA
  obtain ⟨v1, vs1, d1, ds1, p1, q1, rfl, rfl, rfl, h1, r1⟩ := trodAll_cons r0
  obtain ⟨rfl, rfl, rfl⟩ := trodAll_nil r1
  obtain rfl : args = #[v0, v1] := by cases args; simp_all
  obtain ⟨rfl, rfl⟩ := trodVars_none hV
  have k0 := h0
  have lt0 := trod_places h0
  obtain ⟨cs0, rfl, _⟩ := okWide_struct Try.underlying24 (hval 0 24 v0 rfl rfl)
  obtain ⟨y0, hy0, ok0⟩ := pa24.arg h0
  obtain ⟨A0_0, c0_0, e0, hc0_0, hr0_0⟩ := pv24 hy0
  obtain rfl : cs0 = #[.slice A0_0 y0.length c0_0] := Array.toList_inj.mp e0
  have w0_0 := ok0
  have k1 := h1
  have lt1 := trod_places h1
  obtain ⟨cs1, rfl, _⟩ := okWide_struct Try.underlying42 (hval 1 42 v1 rfl rfl)
  obtain ⟨y1, hy1, ok1⟩ := pa42.arg h1
  have e1 := pv42 hy1
  obtain rfl : cs1 = #[.int .i64 y1.1, .int .i64 y1.2.1, .bool y1.2.2.1, .int .i64 y1.2.2.2.1, .int .i64 y1.2.2.2.2.1, .int .i64 y1.2.2.2.2.2.1, .int .i64 y1.2.2.2.2.2.2.1, .int .i64 y1.2.2.2.2.2.2.2.1, .int .i64 y1.2.2.2.2.2.2.2.2.1, .string y1.2.2.2.2.2.2.2.2.2] := Array.toList_inj.mp e1
  obtain ⟨w1_0, w1_1, w1_2, w1_3, w1_4, w1_5, w1_6, w1_7, w1_8, w1_9⟩ := ok1
  clear hA0 hval0 hsz0 hsz
  obtain ⟨k, hk⟩ := Pure.FnExactAddPiece y0 y1.1 y1.2.1 y1.2.2.1 y1.2.2.2.1 y1.2.2.2.2.1 y1.2.2.2.2.2.1 y1.2.2.2.2.2.2.1 y1.2.2.2.2.2.2.2.1 y1.2.2.2.2.2.2.2.2.1 y1.2.2.2.2.2.2.2.2.2 w0_0 w1_0 w1_1 w1_3 w1_4 w1_5 w1_6 w1_7 w1_8 w1_9
  refine (laws_FnExactAddPiece.calls k _ _ y0 y1.1 y1.2.1 y1.2.2.1 y1.2.2.2.1 y1.2.2.2.2.1 y1.2.2.2.2.2.1 y1.2.2.2.2.2.2.1 y1.2.2.2.2.2.2.2.1 y1.2.2.2.2.2.2.2.2.1 y1.2.2.2.2.2.2.2.2.2 true W hr0_0 hc0_0 hk).mono fun e W' ⟨he, bel⟩ => ?_
  subst he
  exact ⟨_, rfl, _, _, _, [], _, [], hW', trodAll_mk1 (shut_bool Try.underlying4 _), (trodAll_cons_mk (Below.trod laidOut (by kernel_rfl) (of_decide_eq_true (by kernel_rfl)) k0 bel lt0) (trodAll_cons_mk (Below.trod laidOut (by kernel_rfl) (of_decide_eq_true (by kernel_rfl)) k1 bel lt1) trodAll_mk0)), rfl, bel.frame _, fun h => by cases h⟩
theorem over : Rows.fnExactAddPieceRow.holds Try.pinned (OpenSpec.ofChange Rows.fnExactAddPieceSpec) :=
  OpenClaim.holds_of_wide 6 Try.f6 rfl rfl rfl rfl rfl rfl rfl ⟨rfl, rfl, rfl, rfl, rfl⟩ rfl rfl rfl rfl rfl (by kernel_rfl) Try.func6 (by kernel_rfl)
    (of_decide_eq_true (by kernel_rfl)) (by unfold Func.isWrapper; first | (rw [if_pos (by decide +kernel)]; kernel_rfl) | (rw [if_neg (by decide +kernel)]; exact ⟨rfl, rfl⟩))
    (fun os started H enc _ => lifted os started H enc)
theorem proved : Rows.FnExactAddPieceSaid := over
#print axioms proved
end Go.Proofs.Ytlkbbolkadkedaa.fnExactAddPiece
namespace Go.Proofs.Ytlkbbolkadkedaa
theorem fnExactAddPiece_holds : Rows.FnExactAddPieceSaid := fnExactAddPiece.proved
end Go.Proofs.Ytlkbbolkadkedaa
