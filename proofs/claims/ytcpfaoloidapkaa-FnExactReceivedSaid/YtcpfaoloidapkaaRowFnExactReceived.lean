/- The law FnExactReceived answers true for every argument, and leaves each argument as it was: the row. Conditions: the row's own (none beside). -/
import Derived.Test.YtcpfaoloidapkaaRows
import Derived.Test.YtcpfaoloidapkaaQFnExactSegmentsLeftx12
import Derived.Test.YtcpfaoloidapkaaOpens
import Derived.Test.YtcpfaoloidapkaaPureFnExactReceived
import Derived.WalkKit
import Derived.ProofKit
import Derived.OpenShut
import Derived.ShutString
import Derived.ChangeOld
import Derived.Below
import Derived.SizedLaws
set_option linter.unusedVariables false
set_option linter.unusedSimpArgs false
namespace Go.Proofs.Ytcpfaoloidapkaa.fnExactReceived
open Go.ChangeShapes Go.WideShapes Go.ChangeAt Go.RowKit
open Go.Proofs.Ytcpfaoloidapkaa.QFnExactSegmentsLeft Go.Proofs.YtcpfaoloidapkaaW.PrintWords Go.Proofs.Ytcpfaoloidapkaa.Opens Go.Proofs.Ytcpfaoloidapkaa.GoalFnExactReceived
open Go.ChangeMaps (open_string shut_string)
theorem own : ownKnob Try.prog.godebug = none := by kernel_rfl
theorem laidOut : laidOutB Try.prog = true := by kernel_rfl
theorem op106 : Opens Try.prog 106 k106 ok106 :=
  opens_struct Try.underlying106 (by kernel_rfl) (opens_cons rfl (opens_int (k := .i64) Try.underlying3 (by kernel_rfl)) (opens_cons rfl (opens_int (k := .i64) Try.underlying3 (by kernel_rfl)) (opens_cons rfl (opens_string Try.underlying9 (by kernel_rfl)) (opens_cons rfl (opens_bool Try.underlying4 (by kernel_rfl)) (opens_last rfl (opens_slice Try.underlying40 (by kernel_rfl) (opens_bool Try.underlying4 (by kernel_rfl)))))))) _ (fun y => ⟨y.1, y.2.1, y.2.2.1, y.2.2.2.1, y.2.2.2.2⟩) (fun _ => rfl)
theorem pa43 : Opens Try.prog 43 (Kd.iso (Kd.pair Kd.string (Kd.pair (Kd.slice 4 Kd.bool) (Kd.pair (Kd.slice 4 Kd.bool) (Kd.pair Kd.string (Kd.pair Kd.bool (Kd.pair (Kd.slice 106 k106) (Kd.slice 106 k106))))))) (fun y : ByteArray × (List Bool) × (List Bool) × ByteArray × Bool × (List S106) × (List S106) => y)) (fun y => y.1.size ≤ maxLen ∧ (y.2.1.length ≤ maxLen ∧ ∀ z ∈ y.2.1, True) ∧ (y.2.2.1.length ≤ maxLen ∧ ∀ z ∈ y.2.2.1, True) ∧ y.2.2.2.1.size ≤ maxLen ∧ True ∧ (y.2.2.2.2.2.1.length ≤ maxLen ∧ ∀ z ∈ y.2.2.2.2.2.1, ok106 z) ∧ (y.2.2.2.2.2.2.length ≤ maxLen ∧ ∀ z ∈ y.2.2.2.2.2.2, ok106 z)) :=
  opens_struct Try.underlying43 (by kernel_rfl) (opens_cons rfl (opens_string Try.underlying9 (by kernel_rfl)) (opens_cons rfl (opens_slice Try.underlying40 (by kernel_rfl) (opens_bool Try.underlying4 (by kernel_rfl))) (opens_cons rfl (opens_slice Try.underlying40 (by kernel_rfl) (opens_bool Try.underlying4 (by kernel_rfl))) (opens_cons rfl (opens_string Try.underlying9 (by kernel_rfl)) (opens_cons rfl (opens_bool Try.underlying4 (by kernel_rfl)) (opens_cons rfl (opens_slice Try.underlying41 (by kernel_rfl) op106) (opens_last rfl (opens_slice Try.underlying41 (by kernel_rfl) op106)))))))) _ (fun y => y) (fun _ => rfl)
theorem pv43 {w : World} {y : ByteArray × (List Bool) × (List Bool) × ByteArray × Bool × (List S106) × (List S106)} {cs : List Value} (h : (Kd.pair Kd.string (Kd.pair (Kd.slice 4 Kd.bool) (Kd.pair (Kd.slice 4 Kd.bool) (Kd.pair Kd.string (Kd.pair Kd.bool (Kd.pair (Kd.slice 106 k106) (Kd.slice 106 k106))))))).K w y cs) : ∃ (A1 : Option Addr) (c1 : Nat) (A2 : Option Addr) (c2 : Nat) (A5 : Option Addr) (c5 : Nat) (A6 : Option Addr) (c6 : Nat), cs = [.string y.1, .slice A1 y.2.1.length c1, .slice A2 y.2.2.1.length c2, .string y.2.2.2.1, .bool y.2.2.2.2.1, .slice A5 y.2.2.2.2.2.1.length c5, .slice A6 y.2.2.2.2.2.2.length c6] ∧ y.2.1.length ≤ c1 ∧ Kd.C Kd.bool w A1 y.2.1.length y.2.1 ∧ y.2.2.1.length ≤ c2 ∧ Kd.C Kd.bool w A2 y.2.2.1.length y.2.2.1 ∧ y.2.2.2.2.2.1.length ≤ c5 ∧ Kd.C k106 w A5 y.2.2.2.2.2.1.length y.2.2.2.2.2.1 ∧ y.2.2.2.2.2.2.length ≤ c6 ∧ Kd.C k106 w A6 y.2.2.2.2.2.2.length y.2.2.2.2.2.2 := by
  obtain ⟨_, _, rfl, rfl, ⟨_, _, rfl, ⟨A1, c1, rfl, hl1, hr1⟩, ⟨_, _, rfl, ⟨A2, c2, rfl, hl2, hr2⟩, ⟨_, _, rfl, rfl, ⟨_, _, rfl, rfl, ⟨_, _, rfl, ⟨A5, c5, rfl, hl5, hr5⟩, ⟨A6, c6, rfl, hl6, hr6⟩⟩⟩⟩⟩⟩⟩ := h
  exact ⟨A1, c1, A2, c2, A5, c5, A6, c6, rfl, hl1, hr1, hl2, hr2, hl5, hr5, hl6, hr6⟩
set_option maxRecDepth 100000 in
theorem lifted (os : Os) (started : os.Started) (H : Type) (enc : TypeId × Value → H) :
    ReturnsInHanded {} Try.checked os 8 .any (Rows.fnExactReceivedSpec.pre6 enc Try.prog Try.f8 Rows.fnExactReceivedRow.domain false) (Rows.fnExactReceivedSpec.post enc Try.prog Try.f8 false true false false) := by
  refine returnsInHanded_of_change_sized (C := Try.checked) own started (by kernel_rfl) Try.func8
    (ChangeSpec.witness6 (enc := enc) (C := Try.checked) false ⟨#[], #[.agg #[.string ByteArray.empty, .slice none 0 0, .slice none 0 0, .string ByteArray.empty, .bool false, .slice none 0 0, .slice none 0 0]], []⟩ 8 (by kernel_rfl) (by kernel_rfl) (by kernel_rfl) (by kernel_rfl)) ?_
  intro W base args ds gs before hval0 hW hcnd hsz0 _
  have hsz : (DataW.weightsEach Try.prog (Try.f8.params.toList ++ Rows.fnExactReceivedSpec.plain.varTypes Try.prog) (ds ++ gs)).all (· ≤ reachBytes) = true := hsz0
  have hval : ∀ (j : Nat) t v, Try.f8.params[j]? = some t → args[j]? = some v → Value.okWide Try.prog W .any base t v := hval0
  have hW' := hW
  obtain ⟨p, q, hA0, hV, rfl, hfz, hnd⟩ := hW
  have hA : DataW.TrodAll enc Try.prog W 0 (fun _ => true) true Try.f8.params.toList args.toList ds p := hA0
  rw [Try.params8] at hA hval hsz
  obtain ⟨v0, vs0, d0, ds0, p0, q0, hargs, rfl, rfl, h0, r0⟩ := trodAll_cons hA
  obtain ⟨rfl, rfl, rfl⟩ := trodAll_nil r0
  obtain rfl : args = #[v0] := by cases args; simp_all
  obtain ⟨rfl, rfl⟩ := trodVars_none hV
  have k0 := h0
  have lt0 := trod_places h0
  obtain ⟨cs0, rfl, _⟩ := okWide_struct Try.underlying43 (hval 0 43 v0 rfl rfl)
  obtain ⟨y0, hy0, ok0⟩ := pa43.arg h0
  obtain ⟨A0_1, c0_1, A0_2, c0_2, A0_5, c0_5, A0_6, c0_6, e0, hc0_1, hr0_1, hc0_2, hr0_2, hc0_5, hr0_5, hc0_6, hr0_6⟩ := pv43 hy0
  obtain rfl : cs0 = #[.string y0.1, .slice A0_1 y0.2.1.length c0_1, .slice A0_2 y0.2.2.1.length c0_2, .string y0.2.2.2.1, .bool y0.2.2.2.2.1, .slice A0_5 y0.2.2.2.2.2.1.length c0_5, .slice A0_6 y0.2.2.2.2.2.2.length c0_6] := Array.toList_inj.mp e0
  obtain ⟨w0_0, w0_1, w0_2, w0_3, w0_4, w0_5, w0_6⟩ := ok0
  clear hA0 hval0 hsz0 hsz
  obtain ⟨k, hk⟩ := Pure.FnExactReceived y0.1 y0.2.1 y0.2.2.1 y0.2.2.2.1 y0.2.2.2.2.1 y0.2.2.2.2.2.1 y0.2.2.2.2.2.2 w0_0 w0_1 w0_2 w0_3 w0_5 w0_6
  refine (laws_FnExactReceived.calls k y0.1 _ _ y0.2.1 _ _ y0.2.2.1 y0.2.2.2.1 y0.2.2.2.2.1 _ _ y0.2.2.2.2.2.1 _ _ y0.2.2.2.2.2.2 true W hr0_1 hc0_1 hr0_2 hc0_2 hr0_5 hc0_5 hr0_6 hc0_6 hk).mono fun e W' ⟨he, bel⟩ => ?_
  subst he
  exact ⟨_, rfl, _, _, _, [], _, [], hW', trodAll_mk1 (shut_bool Try.underlying4 _), (trodAll_cons_mk (Below.trod laidOut (by kernel_rfl) (of_decide_eq_true (by kernel_rfl)) k0 bel lt0) trodAll_mk0), rfl, bel.frame _, fun h => by cases h⟩
theorem over : Rows.fnExactReceivedRow.holds Try.pinned (OpenSpec.ofChange Rows.fnExactReceivedSpec) :=
  OpenClaim.holds_of_wide 8 Try.f8 rfl rfl rfl rfl rfl rfl rfl ⟨rfl, rfl, rfl, rfl, rfl⟩ rfl rfl rfl rfl rfl (by kernel_rfl) Try.func8 (by kernel_rfl)
    (of_decide_eq_true (by kernel_rfl)) (by unfold Func.isWrapper; first | (rw [if_pos (by decide +kernel)]; kernel_rfl) | (rw [if_neg (by decide +kernel)]; exact ⟨rfl, rfl⟩))
    (fun os started H enc _ => lifted os started H enc)
theorem proved : Rows.FnExactReceivedSaid := over
#print axioms proved
end Go.Proofs.Ytcpfaoloidapkaa.fnExactReceived
namespace Go.Proofs.Ytcpfaoloidapkaa
theorem fnExactReceived_holds : Rows.FnExactReceivedSaid := fnExactReceived.proved
end Go.Proofs.Ytcpfaoloidapkaa
