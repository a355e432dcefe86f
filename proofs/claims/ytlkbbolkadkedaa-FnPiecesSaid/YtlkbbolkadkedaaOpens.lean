import Derived.Test.YtlkbbolkadkedaaWWords
import Derived.ChangeArms
import Derived.ChangeSlices
import Derived.ChangeOld
import Derived.SizedLaws
import Derived.WideShapes
import Derived.ProofKit
set_option linter.unusedVariables false
set_option linter.unusedSimpArgs false
namespace Go.Proofs.Ytlkbbolkadkedaa.Opens
open Go.RowKit Go.Proofs.YtlkbbolkadkedaaW.PrintWords Go.ChangeShapes Go.WideShapes
structure Opens {α : Type} (P : Program) (t : TypeId) (d : Kd α) (ok : α → Prop) : Prop where
  mk ::
  cells : P.cellsOf t = d.sz
  go : ∀ {H : Type} {enc : TypeId × Value → H} {w : World} {base : Nat} {spare : Nat → Bool} {held : Bool} {fuel : Nat} {cs : List Value} {x : DataW H × List MemPlace},
    DataW.trod enc P w base spare held fuel t cs = some x → ∃ y : α, d.K w y cs ∧ ok y
theorem opens_int {P : Program} {t : TypeId} {k : IntKind} (ht : P.underlying t = some (.int k)) (hc : P.cellsOf t = 1) : Opens P t (Kd.int k) (fun n => (Lit.int k n).wf = true) :=
  ⟨hc, fun h => by
    obtain ⟨n, rfl, _, hw⟩ := DataW.trod_int ht h
    exact ⟨n, rfl, hw⟩⟩
theorem cells?_get {w : World} {base : Nat} {a : Addr} {n : Nat} {cs : List Value} (h : w.cells? base a n = some cs) : cs.length = n ∧ ∀ i u, cs[i]? = some u → w.cell? (a.add i) = some u := by
  have h3 := World.cells?_some h
  refine ⟨h3.2.1, fun i u hu => ?_⟩
  have hi : i < n := by
    have := (List.getElem?_eq_some_iff.1 hu).1
    have := h3.2.1
    omega
  rw [h3.2.2 i hi, hu]
theorem add_add (a : Addr) (i j : Nat) : (a.add i).add j = a.add (i + j) := by
  unfold Addr.add
  split <;> split <;> simp_all [Nat.add_assoc]
theorem opens_slice {α : Type} {P : Program} {t e : TypeId} {d : Kd α} {ok : α → Prop} (ht : P.underlying t = some (.slice e)) (hc : P.cellsOf t = 1) (h : Opens P e d ok) :
    Opens P t (Kd.slice e d) (fun l => l.length ≤ maxLen ∧ ∀ x ∈ l, ok x) :=
  ⟨hc, fun {H enc w base spare held fuel cs x} hx => by
    rcases DataW.trod_slice ht hx with ⟨rfl, _⟩ | ⟨a, len, cap, elems, rest, n, _, rfl, _, _, hl, hm, hlen, hel, _, _⟩
    · exact ⟨[], ⟨none, 0, rfl, Nat.le_refl _, rfl, by simp, fun h0 => absurd h0 (by simp)⟩, by simp, by simp⟩
    · have each : ∀ i, i < len → ∃ (c : List Value) (y : α), c.length = d.sz ∧ d.K w y c ∧ ok y ∧ ∀ j u, c[j]? = some u → w.cell? (a.add (i * d.sz + j)) = some u := by
        intro i hi
        have hi' : i < elems.length := by omega
        have he := hel i hi
        rw [List.getElem?_eq_getElem hi', Option.bind_eq_some_iff] at he
        obtain ⟨c, hcs, hy⟩ := he
        obtain ⟨y, hk, ho⟩ := h.go hy
        rw [h.cells] at hcs
        obtain ⟨hcl, hcg⟩ := cells?_get hcs
        exact ⟨c, y, hcl, hk, ho, fun j u hu => by rw [← add_add]; exact hcg j u hu⟩
      have row : ∃ ys : List α, ys.length = len ∧ ∀ (i : Nat) (y : α), ys[i]? = some y → ∃ c : List Value, c.length = d.sz ∧ d.K w y c ∧ ok y ∧ ∀ j u, c[j]? = some u → w.cell? (a.add (i * d.sz + j)) = some u := by
        clear hel hlen hx hl hm
        have : ∀ m, m ≤ len → ∃ ys : List α, ys.length = m ∧ ∀ (i : Nat) (y : α), ys[i]? = some y → ∃ c : List Value, c.length = d.sz ∧ d.K w y c ∧ ok y ∧ ∀ j u, c[j]? = some u → w.cell? (a.add (i * d.sz + j)) = some u := by
          intro m
          induction m with
          | zero => intro _; exact ⟨[], rfl, fun i y hy => by simp at hy⟩
          | succ m ih =>
            intro hm
            obtain ⟨ys, hl, hys⟩ := ih (by omega)
            obtain ⟨c, y, hcl, hk, ho, hg⟩ := each m (by omega)
            refine ⟨ys ++ [y], by simp [hl], fun i z hz => ?_⟩
            by_cases hi : i < ys.length
            · rw [List.getElem?_append_left hi] at hz
              exact hys i z hz
            · rw [List.getElem?_append_right (by omega)] at hz
              have e : i - ys.length = 0 := by
                have := (List.getElem?_eq_some_iff.1 hz).1
                simp at this
                omega
              rw [e] at hz
              simp at hz
              subst hz
              have e2 : i = m := by omega
              subst e2
              exact ⟨c, hcl, hk, ho, hg⟩
        exact this len (Nat.le_refl _)
      obtain ⟨ys, hyl, hys⟩ := row
      have hmx : len ≤ 9223372036854775807 := by simp only [maxLen] at hm; omega
      refine ⟨ys, ⟨some a, cap, by rw [hyl], by omega, rfl, by omega, fun _ => ⟨a, rfl, fun j p hp => ?_⟩⟩, by simp only [maxLen]; omega, fun y hy => ?_⟩
      · obtain ⟨c, h1, h2, _, h4⟩ := hys j p hp
        exact ⟨c, h1, h2, h4⟩
      · obtain ⟨i, hi⟩ := List.getElem?_of_mem hy
        obtain ⟨c, _, _, h3, _⟩ := hys i y hi
        exact h3⟩
structure OpensAt {α : Type} (P : Program) (fs : List Field) (off : Nat) (d : Kd α) (ok : α → Prop) : Prop where
  go : ∀ {H : Type} {enc : TypeId × Value → H} {w : World} {base : Nat} {spare : Nat → Bool} {held : Bool} {fuel : Nat} {cs : List Value}, cs.length = off + d.sz →
    (∀ f ∈ fs, ∃ y, DataW.trod enc P w base spare held fuel f.type ((cs.drop f.offset).take (P.cellsOf f.type)) = some y) → ∃ y : α, d.K w y (cs.drop off) ∧ ok y
section
variable {H : Type} {enc : TypeId × Value → H} {P : Program} {W : World} {base : Nat} {spare : Nat → Bool} {held : Bool} {t : TypeId}
theorem Opens.arg {α : Type} {d : Kd α} {ok : α → Prop} (h : Opens P t d ok) {v : Value} {x : DataW H} {ps : List MemPlace} (hv : DataW.Trod enc P W base spare held t v x ps) : ∃ y : α, d.K W y v.cells.toList ∧ ok y := by
  obtain ⟨fuel, hf⟩ := hv
  exact h.go hf
theorem trod_places {v : Value} {x : DataW H} {ps : List MemPlace} (hv : DataW.Trod enc P W base spare held t v x ps) : ∀ p ∈ ps, p.block < W.heap.size := by
  obtain ⟨fuel, hf⟩ := hv
  exact DataW.trod_lt fuel _ _ _ hf
theorem sized_row {ts : List TypeId} {ds : List (DataW H)} {j : Nat} {e : TypeId} {a : Option Addr} {len cap : Nat} {d : DataW H} {ps : List MemPlace}
    (hsz : (DataW.weightsEach P ts ds).all (· ≤ reachBytes) = true) (ht : ts[j]? = some t) (hd : ds[j]? = some d) (hu : P.underlying t = some (.slice e)) {B : Nat} (hB : P.bytesOf e = B)
    (h : DataW.Trod enc P W base spare held t (.slice a len cap) d ps) : len * B ≤ 140737488351232 := by
  obtain ⟨fuel, hf⟩ := h
  rcases DataW.trod_slice hu hf with ⟨hcs, _⟩ | ⟨x, l, c, elems, rest, n, _, hcs, hx, _, _, _, hlen, _, _, _⟩
  · simp [Value.cells] at hcs
    obtain ⟨rfl, rfl, rfl⟩ := hcs
    simp
  · simp [Value.cells] at hcs
    obtain ⟨rfl, rfl, rfl⟩ := hcs
    obtain ⟨hx, _⟩ := Prod.mk.inj hx
    subst hx
    have z := sized_slice hsz ht hd hu
    rw [hB] at z
    simp only [List.length_map] at z
    exact Nat.le_trans (Nat.mul_le_mul_right _ (by omega)) z
end
end Go.Proofs.Ytlkbbolkadkedaa.Opens
