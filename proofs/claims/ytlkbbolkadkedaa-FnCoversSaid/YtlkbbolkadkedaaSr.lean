/- Tellings of what stands in memory, in short. No law and no Go text in it. -/
import Derived.Test.YtlkbbolkadkedaaWMore
set_option linter.unusedVariables false
namespace Go.Proofs.YtlkbbolkadkedaaW.PrintWords
open Go.RowKit
section
variable {W0 W W1 w : World} {g g' n : Nat} {o : Obj} {row : Option Nat}
theorem ba_ (BK_ : Aside0 (W0.heap[g]? = some o)) (hb : Below W.heap.size W W1) (h : W.heap[g]? = some o := by (with_reducible repeat (first | refine blk_drewN ?_ _ | refine blk_drew ?_ | refine blk_alloc ?_ _)); exact (Aside0.out (by first | (with_reducible assumption) | assumption))) : Aside0 (W1.heap[g]? = some o) := ⟨(hb.block g (blk_lt h)).trans h⟩
theorem bg_ (BK_ : Aside0 (W0.heap[g]? = some o)) (hg : W.grownBy W1 row) (hne : some g ≠ row) (h : W.heap[g]? = some o := by (with_reducible repeat (first | refine blk_drewN ?_ _ | refine blk_drew ?_ | refine blk_alloc ?_ _)); exact (Aside0.out (by first | (with_reducible assumption) | assumption))) : Aside0 (W1.heap[g]? = some o) := ⟨blk_grown h hg hne⟩
theorem nl_ (BK_ : Aside0 (W0.heap[g]? = some o)) (hg : g' = W.heap.size) (h : W.heap[g]? = some o := by (with_reducible repeat (first | refine blk_drewN ?_ _ | refine blk_drew ?_ | refine blk_alloc ?_ _)); exact (Aside0.out (by first | (with_reducible assumption) | assumption))) : Aside0 (g ≠ g') := ⟨by rw [hg]; exact Nat.ne_of_lt (blk_lt h)⟩
theorem ng_ (BK_ : Aside0 (W0.heap[g]? = some o)) (hg : g' = W.heap.size) (h : W.heap[g]? = some o := by (with_reducible repeat (first | refine blk_drewN ?_ _ | refine blk_drew ?_ | refine blk_alloc ?_ _)); exact (Aside0.out (by first | (with_reducible assumption) | assumption))) : Aside0 (g' ≠ g) := ⟨by rw [hg]; exact Nat.ne_of_gt (blk_lt h)⟩
theorem ge_ (HB_ : Aside0 (Below w.heap.size w W0)) (hg : g = W.heap.size) (h : Below w.heap.size w W := by repeat (first | (with_reducible first | exact HB.out | apply below_alloc | apply pw_below_drewN | apply below_drew1 | refine below_set ?_ (Aside0.out (by first | (with_reducible assumption) | assumption))) | exact HB.out | (with_reducible exact Below.refl _ _))) : Aside0 (w.heap.size ≤ g) := ⟨by rw [hg]; exact below_size h⟩
theorem hb_ (HB_ : Aside0 (Below w.heap.size w W0)) (hb : Below W.heap.size W W1) (h : Below w.heap.size w W := by repeat (first | (with_reducible first | exact HB.out | apply below_alloc | apply pw_below_drewN | apply below_drew1 | refine below_set ?_ (Aside0.out (by first | (with_reducible assumption) | assumption))) | exact HB.out | (with_reducible exact Below.refl _ _))) : Aside0 (Below w.heap.size w W1) := ⟨below_step h hb⟩
theorem ra_ {α : Type} {d : Kd α} {e base : Nat} {ok : Nat → Prop} {v : Value} {xs : List α} (HO_ : Aside0 (d.R e W0 base ok v xs)) (hb : Below W.heap.size W W1) (h : d.R e W base ok v xs := by (with_reducible repeat (first | apply Kd.R_alloc | apply Kd.R_drewN | apply Kd.R_drew)); exact (Aside0.out (by first | (with_reducible assumption) | assumption))) : Aside0 (d.R e W1 base ok v xs) := ⟨Kd.R_below h hb⟩
theorem rq_ {p : Prop} (h : p := by (with_reducible repeat (first | apply Kd.R_alloc | apply Kd.R_drewN | apply Kd.R_drew)); exact (Aside0.out (by first | (with_reducible assumption) | assumption))) : p := h
end
end Go.Proofs.YtlkbbolkadkedaaW.PrintWords
