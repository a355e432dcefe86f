/- The law FnExactSegmentsLeft answers true for every argument, and leaves each argument as it was: the row. Conditions: the row's own (none beside). -/
import Derived.Test.YtaffjcaohbkmoaaRows
import Derived.Test.YtaffjcaohbkmoaaQFnExactSegmentsLeftx11
import Derived.Test.YtaffjcaohbkmoaaOpens
import Derived.Test.YtaffjcaohbkmoaaPureFnExactSegmentsLeft
import Derived.WalkKit
import Derived.ProofKit
import Derived.OpenShut
import Derived.ShutString
import Derived.ChangeOld
import Derived.Below
import Derived.SizedLaws
set_option linter.unusedVariables false
set_option linter.unusedSimpArgs false
namespace Go.Proofs.Ytaffjcaohbkmoaa.fnExactSegmentsLeft
open Go.ChangeShapes Go.WideShapes Go.ChangeAt Go.RowKit
open Go.Proofs.Ytaffjcaohbkmoaa.QFnExactSegmentsLeft Go.Proofs.YtaffjcaohbkmoaaW.PrintWords Go.Proofs.Ytaffjcaohbkmoaa.Opens Go.Proofs.Ytaffjcaohbkmoaa.GoalFnExactSegmentsLeft
open Go.ChangeMaps (open_string shut_string)
theorem own : ownKnob Try.prog.godebug = none := by kernel_rfl
theorem laidOut : laidOutB Try.prog = true := by kernel_rfl
theorem op96 : Opens Try.prog 96 k96 ok96 :=
  opens_struct Try.underlying96 (by kernel_rfl) (opens_cons rfl (opens_int (k := .i64) Try.underlying3 (by kernel_rfl)) (opens_cons rfl (opens_int (k := .i64) Try.underlying3 (by kernel_rfl)) (opens_cons rfl (opens_string Try.underlying9 (by kernel_rfl)) (opens_cons rfl (opens_bool Try.underlying4 (by kernel_rfl)) (opens_last rfl (opens_slice Try.underlying38 (by kernel_rfl) (opens_bool Try.underlying4 (by kernel_rfl)))))))) _ (fun y => ⟨y.1, y.2.1, y.2.2.1, y.2.2.2.1, y.2.2.2.2⟩) (fun _ => rfl)
theorem pa41 : Opens Try.prog 41 (Kd.iso (Kd.pair Kd.string (Kd.pair (Kd.slice 4 Kd.bool) (Kd.pair (Kd.slice 4 Kd.bool) (Kd.pair Kd.string (Kd.pair Kd.bool (Kd.pair (Kd.slice 96 k96) (Kd.slice 96 k96))))))) (fun y : ByteArray × (List Bool) × (List Bool) × ByteArray × Bool × (List S96) × (List S96) => y)) (fun y => y.1.size ≤ maxLen ∧ (y.2.1.length ≤ maxLen ∧ ∀ z ∈ y.2.1, True) ∧ (y.2.2.1.length ≤ maxLen ∧ ∀ z ∈ y.2.2.1, True) ∧ y.2.2.2.1.size ≤ maxLen ∧ True ∧ (y.2.2.2.2.2.1.length ≤ maxLen ∧ ∀ z ∈ y.2.2.2.2.2.1, ok96 z) ∧ (y.2.2.2.2.2.2.length ≤ maxLen ∧ ∀ z ∈ y.2.2.2.2.2.2, ok96 z)) :=
  opens_struct Try.underlying41 (by kernel_rfl) (opens_cons rfl (opens_string Try.underlying9 (by kernel_rfl)) (opens_cons rfl (opens_slice Try.underlying38 (by kernel_rfl) (opens_bool Try.underlying4 (by kernel_rfl))) (opens_cons rfl (opens_slice Try.underlying38 (by kernel_rfl) (opens_bool Try.underlying4 (by kernel_rfl))) (opens_cons rfl (opens_string Try.underlying9 (by kernel_rfl)) (opens_cons rfl (opens_bool Try.underlying4 (by kernel_rfl)) (opens_cons rfl (opens_slice Try.underlying39 (by kernel_rfl) op96) (opens_last rfl (opens_slice Try.underlying39 (by kernel_rfl) op96)))))))) _ (fun y => y) (fun _ => rfl)
theorem pv41 {w : World} {y : ByteArray × (List Bool) × (List Bool) × ByteArray × Bool × (List S96) × (List S96)} {cs : List Value} (h : (Kd.pair Kd.string (Kd.pair (Kd.slice 4 Kd.bool) (Kd.pair (Kd.slice 4 Kd.bool) (Kd.pair Kd.string (Kd.pair Kd.bool (Kd.pair (Kd.slice 96 k96) (Kd.slice 96 k96))))))).K w y cs) : ∃ (A1 : Option Addr) (c1 : Nat) (A2 : Option Addr) (c2 : Nat) (A5 : Option Addr) (c5 : Nat) (A6 : Option Addr) (c6 : Nat), cs = [.string y.1, .slice A1 y.2.1.length c1, .slice A2 y.2.2.1.length c2, .string y.2.2.2.1, .bool y.2.2.2.2.1, .slice A5 y.2.2.2.2.2.1.length c5, .slice A6 y.2.2.2.2.2.2.length c6] ∧ y.2.1.length ≤ c1 ∧ Kd.C Kd.bool w A1 y.2.1.length y.2.1 ∧ y.2.2.1.length ≤ c2 ∧ Kd.C Kd.bool w A2 y.2.2.1.length y.2.2.1 ∧ y.2.2.2.2.2.1.length ≤ c5 ∧ Kd.C k96 w A5 y.2.2.2.2.2.1.length y.2.2.2.2.2.1 ∧ y.2.2.2.2.2.2.length ≤ c6 ∧ Kd.C k96 w A6 y.2.2.2.2.2.2.length y.2.2.2.2.2.2 := by
  obtain ⟨_, _, rfl, rfl, ⟨_, _, rfl, ⟨A1, c1, rfl, hl1, hr1⟩, ⟨_, _, rfl, ⟨A2, c2, rfl, hl2, hr2⟩, ⟨_, _, rfl, rfl, ⟨_, _, rfl, rfl, ⟨_, _, rfl, ⟨A5, c5, rfl, hl5, hr5⟩, ⟨A6, c6, rfl, hl6, hr6⟩⟩⟩⟩⟩⟩⟩ := h
  exact ⟨A1, c1, A2, c2, A5, c5, A6, c6, rfl, hl1, hr1, hl2, hr2, hl5, hr5, hl6, hr6⟩
set_option maxRecDepth 100000 in
theorem lifted (os : Os) (started : os.Started) (H : Type) (enc : TypeId × Value → H) :
    ReturnsInHanded {} Try.checked os 5 .any (Rows.fnExactSegmentsLeftSpec.pre6 enc Try.prog Try.f5 Rows.fnExactSegmentsLeftRow.domain false) (Rows.fnExactSegmentsLeftSpec.post enc Try.prog Try.f5 false true false false) := by
  refine returnsInHanded_of_change_sized (C := Try.checked) own started (by kernel_rfl) Try.func5
    (ChangeSpec.witness6 (enc := enc) (C := Try.checked) false ⟨#[], #[.agg #[.string ByteArray.empty, .slice none 0 0, .slice none 0 0, .string ByteArray.empty, .bool false, .slice none 0 0, .slice none 0 0]], []⟩ 8 (by kernel_rfl) (by kernel_rfl) (by kernel_rfl) (by kernel_rfl)) ?_
  intro W base args ds gs before hval0 hW hcnd hsz0 _
  have hsz : (DataW.weightsEach Try.prog (Try.f5.params.toList ++ Rows.fnExactSegmentsLeftSpec.plain.varTypes Try.prog) (ds ++ gs)).all (· ≤ reachBytes) = true := hsz0
  have hval : ∀ (j : Nat) t v, Try.f5.params[j]? = some t → args[j]? = some v → Value.okWide Try.prog W .any base t v := hval0
  have hW' := hW
  obtain ⟨p, q, hA0, hV, rfl, hfz, hnd⟩ := hW
  have hA : DataW.TrodAll enc Try.prog W 0 (fun _ => true) true Try.f5.params.toList args.toList ds p := hA0
  rw [Try.params5] at hA hval hsz
  obtain ⟨v0, vs0, d0, ds0, p0, q0, hargs, rfl, rfl, h0, r0⟩ := trodAll_cons hA
  obtain ⟨rfl, rfl, rfl⟩ := trodAll_nil r0
  obtain rfl : args = #[v0] := by cases args; simp_all
  obtain ⟨rfl, rfl⟩ := trodVars_none hV
  have k0 := h0
  have lt0 := trod_places h0
  obtain ⟨cs0, rfl, _⟩ := okWide_struct Try.underlying41 (hval 0 41 v0 rfl rfl)
  obtain ⟨y0, hy0, ok0⟩ := pa41.arg h0
  obtain ⟨A0_1, c0_1, A0_2, c0_2, A0_5, c0_5, A0_6, c0_6, e0, hc0_1, hr0_1, hc0_2, hr0_2, hc0_5, hr0_5, hc0_6, hr0_6⟩ := pv41 hy0
  obtain rfl : cs0 = #[.string y0.1, .slice A0_1 y0.2.1.length c0_1, .slice A0_2 y0.2.2.1.length c0_2, .string y0.2.2.2.1, .bool y0.2.2.2.2.1, .slice A0_5 y0.2.2.2.2.2.1.length c0_5, .slice A0_6 y0.2.2.2.2.2.2.length c0_6] := Array.toList_inj.mp e0
  obtain ⟨w0_0, w0_1, w0_2, w0_3, w0_4, w0_5, w0_6⟩ := ok0
  clear hA0 hval0 hsz0 hsz
  obtain ⟨k, hk⟩ := Pure.FnExactSegmentsLeft y0.1 y0.2.1 y0.2.2.1 y0.2.2.2.1 y0.2.2.2.2.1 y0.2.2.2.2.2.1 y0.2.2.2.2.2.2 w0_0 w0_1 w0_2 w0_3 w0_5 w0_6
  refine (laws_FnExactSegmentsLeft.calls k y0.1 _ _ y0.2.1 _ _ y0.2.2.1 y0.2.2.2.1 y0.2.2.2.2.1 _ _ y0.2.2.2.2.2.1 _ _ y0.2.2.2.2.2.2 true W hr0_1 hc0_1 hr0_2 hc0_2 hr0_5 hc0_5 hr0_6 hc0_6 hk).mono fun e W' ⟨he, bel⟩ => ?_
  subst he
  exact ⟨_, rfl, _, _, _, [], _, [], hW', trodAll_mk1 (shut_bool Try.underlying4 _), (trodAll_cons_mk (Below.trod laidOut (by kernel_rfl) (of_decide_eq_true (by kernel_rfl)) k0 bel lt0) trodAll_mk0), rfl, bel.frame _, fun h => by cases h⟩
theorem over : Rows.fnExactSegmentsLeftRow.holds Try.pinned (OpenSpec.ofChange Rows.fnExactSegmentsLeftSpec) :=
  OpenClaim.holds_of_wide 5 Try.f5 rfl rfl rfl rfl rfl rfl rfl ⟨rfl, rfl, rfl, rfl, rfl⟩ rfl rfl rfl rfl rfl (by kernel_rfl) Try.func5 (by kernel_rfl)
    (of_decide_eq_true (by kernel_rfl)) (by unfold Func.isWrapper; first | (rw [if_pos (by decide +kernel)]; kernel_rfl) | (rw [if_neg (by decide +kernel)]; exact ⟨rfl, rfl⟩))
    (fun os started H enc _ => lifted os started H enc)
theorem proved : Rows.FnExactSegmentsLeftSaid := over
#print axioms proved
end Go.Proofs.Ytaffjcaohbkmoaa.fnExactSegmentsLeft
namespace Go.Proofs.Ytaffjcaohbkmoaa
theorem fnExactSegmentsLeft_holds : Rows.FnExactSegmentsLeftSaid := fnExactSegmentsLeft.proved
end Go.Proofs.Ytaffjcaohbkmoaa
