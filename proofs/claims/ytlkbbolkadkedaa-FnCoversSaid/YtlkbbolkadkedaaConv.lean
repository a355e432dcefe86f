import Derived.Test.YtlkbbolkadkedaaWMore
import Derived.Lib.ConvBytes
set_option linter.unusedVariables false
namespace Go.Proofs.YtlkbbolkadkedaaW.PrintWords
open Go.RowKit
abbrev tt : Bool := true
abbrev ff : Bool := false
namespace Kd
section
variable {P : Program} {ops : Array Oper} {rest : List Oper} {o : Oper} {a : Act} {Q : Exit → Act → World → Prop}
theorem V_bytes (W : World) (base e : Nat) (y : ByteArray) (hl : y.size ≤ 9223372036854775807) (ok : Nat → Prop) (hfresh : ok W.heap.size) :
    V (Kd.int .u8) e (Lib.bytesWorld W e y) base ok (.slice (some ⟨W.heap.size, 0, none⟩) y.size (grownCap W y.size 0 e)) (bytesOf y) := by
  refine ⟨some ⟨W.heap.size, 0, none⟩, grownCap W y.size 0 e, by rw [bytesOf_length], by rw [bytesOf_length]; exact grownCap_ge W _ 0 e, fun W' hW => ?_⟩
  have hr := bytes_reads W e y hl
  have h1 : W'.heap[W.heap.size]? = (Lib.bytesWorld W e y).heap[W.heap.size]? := hW _ hfresh (by rw [Lib.bytesWorld_size]; exact Nat.lt_succ_self _)
  refine C_of_reads (d := 0) (h1 := fun _ => rfl) ?_
  refine ⟨rfl, by rw [bytesOf_length]; exact hl, fun hp => ⟨_, rfl, fun j hj => ?_⟩⟩
  obtain ⟨ad, he, hc⟩ := hr.2.2 (by rw [bytesOf_length] at hp; exact hp)
  injection he with he
  subst he
  rw [bytesOf_length] at hj
  have h2 := hc j hj
  rw [add_plain] at h2 ⊢
  rw [World.cell?, h1]
  exact h2
theorem V_conv {w0 W : World} (base e : Nat) (hgd : o.guard = none) {N' : Tmp} (hd : o.dst = some N') (src dst : TypeId) (x : Operand) (ho : o.op = .convert src dst x) (y : ByteArray) (hx : a.eval x = .string y)
    {u : TypeDesc} (hs : P.underlying src = some u) (ht : P.underlying dst = some (.slice e)) (he : P.underlying e = some (.int .u8)) (hl : y.size ≤ 9223372036854775807) {ok : Nat → Prop} (hfresh : ok W.heap.size) (HB : Below base w0 W) (hbase : base ≤ W.heap.size)
    (h : ∀ v1 w1, V (Kd.int .u8) e w1 base ok v1 (bytesOf y) → Below base w0 w1 → W.grownBy w1 none → wpList P ops Q rest (a.put o.dst v1) w1) : wpList P ops Q (o :: rest) a W := by
  refine event_run hgd (w1 := Lib.bytesWorld W e y) (v := .slice (some ⟨W.heap.size, 0, none⟩) y.size (grownCap W y.size 0 e)) ?_ (h _ _ (V_bytes W base e y hl ok hfresh) (bytes_below HB hbase e y) ⟨rfl, rfl, rfl, by rw [Lib.bytesWorld_size]; omega, fun k hk _ => Lib.bytesWorld_at_old W e y k hk⟩)
  simp [execOp, ho, hx, print_bytes src dst e hs ht he y W]
end
end Kd
end Go.Proofs.YtlkbbolkadkedaaW.PrintWords
