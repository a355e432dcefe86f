/- What the printed program answers at this law is true, for every argument. -/
import Derived.Test.YtckndinhkkhonaaQFnExactIsForestx5
import Derived.Test.YtckndinhkkhonaaPlain
import Derived.Test.YtckndinhkkhonaaGoalFnExactIsForest
set_option linter.unusedVariables false
set_option linter.unusedSimpArgs false
namespace Go.Proofs.Ytckndinhkkhonaa.Pure
open Go.RowKit Go.Proofs.Ytckndinhkkhonaa.QFnExactIsForest Go.Proofs.YtckndinhkkhonaaW.PrintWords Go.Proofs.YtckndinhkkhonaaW.PrintLast Go.Proofs.Ytckndinhkkhonaa.Plain Go.Proofs.Ytckndinhkkhonaa.GoalFnExactIsForest

theorem rdEdge_eq (l : List S97) (i : Nat) (h : i < l.length) : rd_T97 l (i : Int) = l[i] := by
  simp [rd_T97, List.getD_eq_getElem?_getD, List.getElem?_eq_getElem h]
theorem rdEdgeL_eq (l : List S99) (i : Nat) (h : i < l.length) : rd_T99 l (i : Int) = l[i] := by
  simp [rd_T99, List.getD_eq_getElem?_getD, List.getElem?_eq_getElem h]
def edgeOf (x : S99) : S97 := ⟨x.f0, x.f1, x.f2⟩
theorem szEdgeS_val (l : List S99) (hl : l.length ≤ maxLen) : ∃ r, laws_szEdgeS.f l 1048576 = some r ∧ (0 ≤ r → l.length ≤ 1048576) := by
  unfold maxLen at hl
  have hw : wrap64 (1048576 - (l.length : Int)) = 1048576 - (l.length : Int) := w64 (by omega) (by omega)
  unfold laws_szEdgeS.f
  rw [hw]
  by_cases h : 1048576 - (l.length : Int) < 0
  · rw [if_pos h]; exact ⟨_, rfl, fun h => by omega⟩
  · rw [if_neg h]; exact ⟨_, rfl, fun h => by omega⟩
theorem toEdgeS_go (l : List S99) (hl : l.length ≤ 1048576) (d : Nat) : ∀ i : Nat, i ≤ l.length → l.length - i = d → Ev (fun k => laws_toEdgeS.l0 k l ((l.map edgeOf).take i ++ List.replicate ((l.map edgeOf).length - i) z97) (i : Int)) (l.map edgeOf) := by
  induction d with
  | zero =>
    intro i h0 hd
    obtain rfl : i = l.length := by omega
    refine Ev.step (fun k => by rw [laws_toEdgeS.l0]) ?_
    exact Ev.ite_neg (by omega) (Ev.now' (by rw [List.length_map, Nat.sub_self, List.replicate_zero, List.append_nil, List.take_of_length_le (by simp)]))
  | succ d ih =>
    intro i h0 hd
    have hlt : i < l.length := by omega
    have hlt2 : i < (l.map edgeOf).length := by simpa using hlt
    have hw : wrap64 ((i : Int) + 1) = ((i + 1 : Nat) : Int) := by rw [w64 (by omega) (by omega)]; omega
    have hlen : ((l.map edgeOf).take i ++ List.replicate ((l.map edgeOf).length - i) z97).length = l.length := by simp; omega
    have a := ih (i + 1) (by omega) (by omega)
    rw [← fill_step (l.map edgeOf) z97 i hlt2] at a
    refine Ev.step (fun k => by rw [laws_toEdgeS.l0]) ?_
    refine Ev.ite_pos (by omega) (Ev.ite_pos (by omega) ?_)
    simp only [laws_toEdge.f, Option.bind_some, hw, Int.toNat_natCast, rdEdgeL_eq l i hlt]
    refine Ev.ite_pos (by rw [hlen]; omega) ?_
    have e : (l.map edgeOf)[i] = (⟨l[i].f0, l[i].f1, l[i].f2⟩ : S97) := by simp [edgeOf]
    rw [e] at a
    exact a
theorem toEdgeS_val (l : List S99) (hl : l.length ≤ 1048576) : Ev (fun k => laws_toEdgeS.f k l) (l.map edgeOf) := by
  have := toEdgeS_go l hl l.length 0 (by omega) (by omega)
  simp only [laws_toEdgeS.f, Int.toNat_natCast]
  refine Ev.ite_pos (by omega) (Ev.ite_pos (by omega) ?_)
  simpa using this
theorem eqEdgeS_go (l : List S97) (hl : l.length ≤ 1048576) (d : Nat) : ∀ i : Nat, l.length - i = d → Ev (fun k => laws_eqEdgeS.l0 k l l (i : Int)) true := by
  induction d with
  | zero =>
    intro i hd
    refine Ev.step (fun k => by rw [laws_eqEdgeS.l0]) ?_
    exact Ev.ite_neg (by omega) (Ev.now _)
  | succ d ih =>
    intro i hd
    have hw : wrap64 ((i : Int) + 1) = ((i + 1 : Nat) : Int) := by rw [w64 (by omega) (by omega)]; omega
    refine Ev.step (fun k => by rw [laws_eqEdgeS.l0]) ?_
    refine Ev.ite_pos (by omega) (Ev.ite_pos (by omega) (Ev.ite_pos (by omega) ?_))
    simp only [laws_eqEdge.f, if_true, Option.bind_some]
    rw [hw]
    exact ih (i + 1) (by omega)
theorem eqEdgeS_self (l : List S97) (hl : l.length ≤ 1048576) : Ev (fun k => laws_eqEdgeS.f k l l) true := by
  simp only [laws_eqEdgeS.f, if_true]
  exact eqEdgeS_go l hl l.length 0 (by omega)
def edgesB (l : List S97) : Bool := decide ((l.length : Int) ≤ 24) && !l.any badE
theorem e6Node_val (n : Int) : spec_l6Node.f n = some (inE n 0 7) := by
  unfold spec_l6Node.f inE
  by_cases h : n ≥ 0
  · rw [if_pos h]; simp only [show (0 : Int) ≤ n from h, decide_true, Bool.true_and]; congr 1; exact decide_eq_decide.mpr (by omega)
  · rw [if_neg h]; simp only [show ¬ (0 : Int) ≤ n from h, decide_false, Bool.false_and]
theorem e1In_val (n a b : Int) : spec_l1In.f n a b = some (inE n a b) := by
  unfold spec_l1In.f inE
  by_cases h : n ≥ a
  · rw [if_pos h]; simp only [show a ≤ n from h, decide_true, Bool.true_and]
  · rw [if_neg h]; simp only [show ¬ a ≤ n from h, decide_false, Bool.false_and]
theorem badE_iff (x : S97) : badE x = false ↔ inE x.f0 0 7 = true ∧ inE x.f1 0 7 = true ∧ x.f0 ≠ x.f1 ∧ inE x.f2 0 1000 = true := by
  simp only [badE, unlikeE, inE, Bool.or_eq_false_iff, Bool.not_eq_false', Bool.and_eq_true, decide_eq_true_eq, ne_eq]
  omega
theorem goodEdges_go (l : List S97) (hl : l.length ≤ 1048576) (d : Nat) : ∀ i : Nat, i ≤ l.length → l.length - i = d → (l.take i).any badE = false → Ev (fun k => spec_GoodEdges.l0 k l l (l.length : Int) (i : Int)) (edgesB l) := by
  induction d with
  | zero =>
    intro i h0 hd hb
    refine Ev.step (fun k => by rw [spec_GoodEdges.l0]) ?_
    obtain rfl : i = l.length := by omega
    rw [List.take_length] at hb
    exact Ev.ite_neg (by omega) (Ev.now' (by rw [edgesB, hb]; simp))
  | succ d ih =>
    intro i h0 hd hb
    have hi : i < l.length := by omega
    have hw : wrap64 ((i : Int) + 1) = ((i + 1 : Nat) : Int) := by rw [w64 (by omega) (by omega)]; omega
    refine Ev.step (fun k => by rw [spec_GoodEdges.l0]) ?_
    refine Ev.ite_pos (by omega) (Ev.ite_pos (by omega) (Ev.ite_pos (by omega) ?_))
    simp only [rdEdge_eq l i hi, e6Node_val, e1In_val, Option.bind_some, hw]
    have hm : l[i] ∈ l := List.getElem_mem hi
    have bad : badE l[i] = true → edgesB l = false := fun h => by
      rw [edgesB, List.any_eq_true.mpr ⟨_, hm, h⟩]; simp
    have ht : badE l[i] = false → (l.take (i + 1)).any badE = false := fun h => by
      rw [List.take_succ_eq_append_getElem hi, List.any_append, hb]; simp [h]
    have next := fun h => ih (i + 1) (by omega) (by omega) (ht h)
    have key := badE_iff l[i]
    generalize l[i] = x at bad next key
    cases hq : badE x with
    | true =>
      rw [bad hq]
      have hk : ¬ (inE x.f0 0 7 = true ∧ inE x.f1 0 7 = true ∧ x.f0 ≠ x.f1 ∧ inE x.f2 0 1000 = true) := fun h => by rw [key.mpr h] at hq; cases hq
      refine Ev.ite (fun a1 => Ev.ite (fun a2 => Ev.ite (fun a3 => Ev.now _) fun a3 => Ev.ite (fun a7 => absurd ⟨a1, a2, a3, a7⟩ hk) fun a7 => Ev.now _) fun a2 => Ev.now _) fun a1 => Ev.now _
    | false =>
      obtain ⟨a1, a2, a3, a7⟩ := key.mp hq
      exact Ev.ite_pos a1 (Ev.ite_pos a2 (Ev.ite_neg a3 (Ev.ite_pos a7 (next hq))))
theorem specEdges_val (l : List S97) (hl : l.length ≤ 1048576) : Ev (fun k => spec_GoodEdges.f k l) (edgesB l) := by
  simp only [spec_GoodEdges.f]
  exact goodEdges_go l hl l.length 0 (by omega) (by omega) (by simp)
theorem implEdges_val (l : List S97) : impl_GoodEdges.f l = some (edgesB l) := rfl
theorem edgesB_at {l : List S97} (h : edgesB l = true) : l.length ≤ 24 ∧ ∀ i : Nat, i < l.length → (0 ≤ (rd_T97 l (i : Int)).f0 ∧ (rd_T97 l (i : Int)).f0 < 8) ∧ (0 ≤ (rd_T97 l (i : Int)).f1 ∧ (rd_T97 l (i : Int)).f1 < 8) := by
  unfold edgesB at h
  rw [Bool.and_eq_true] at h
  obtain ⟨h0, h1⟩ := h
  have h0 := of_decide_eq_true h0
  refine ⟨by omega, fun i hi => ?_⟩
  rw [rdEdge_eq l i hi]
  have hb : badE l[i] = false := by
    cases hq : badE l[i] with
    | false => rfl
    | true => rw [List.any_eq_true.mpr ⟨_, List.getElem_mem hi, hq⟩] at h1; exact absurd h1 (by decide)
  obtain ⟨a1, a2, _, _⟩ := (badE_iff _).mp hb
  simp only [inE, Bool.and_eq_true, decide_eq_true_eq] at a1 a2
  omega
/-- Every number is a place of a list. -/
def AllIn (n : Nat) (o : List Int) : Prop := ∀ k ∈ o, 0 ≤ k ∧ k < (n : Int)
/-- The parts that edges link. -/
def partsOf (l : List S97) (o : List Int) : List Int := o.foldl (fun ps k => fLink ps (rd ps (rd_T97 l k).f0) (rd ps (rd_T97 l k).f1)) (alRow 8)
theorem fLink_len (ps : List Int) (x y : Int) : (fLink ps x y).length = ps.length := by simp [fLink]
theorem partsOf_len (l : List S97) (o : List Int) : (partsOf l o).length = 8 := by
  unfold partsOf
  have : ∀ (o : List Int) (ps : List Int), ps.length = 8 → (o.foldl (fun ps k => fLink ps (rd ps (rd_T97 l k).f0) (rd ps (rd_T97 l k).f1)) ps).length = 8 := by
    intro o
    induction o with
    | nil => exact fun ps h => h
    | cons k o ih => exact fun ps h => ih _ (by rw [fLink_len]; exact h)
  exact this o _ (alRow_len 8)
theorem link_go (l : List S97) (a b : Int) (o : List Int) (n i : Int) (ps : List Int) (hlen : ps.length = 8) (d : Nat) : ∀ (m : Nat), m ≤ 8 → 8 - m = d → ∀ r, Ev (fun k => spec_l7Parts.l1 k l (ps.map fun z => if z = b then a else z) o n (wrap64 (i + 1))) r →
    Ev (fun k => spec_l7Parts.l2 k l (fLinkTo m ps a b) a b o n i 8 (m : Int)) r := by
  induction d with
  | zero =>
    intro m h0 hd r h
    obtain rfl : m = 8 := by omega
    have e : fLinkTo 8 ps a b = ps.map fun z => if z = b then a else z := by
      unfold fLinkTo
      rw [List.take_of_length_le (by omega), List.drop_of_length_le (by omega), List.append_nil]
    rw [e]
    exact Ev.step (fun k => by rw [spec_l7Parts.l2]) (Ev.ite_neg (by omega) h)
  | succ d ih =>
    intro m h0 hd r h
    have hw : wrap64 ((m : Int) + 1) = ((m + 1 : Nat) : Int) := by rw [w64 (by omega) (by omega)]; omega
    have hl2 : (fLinkTo m ps a b).length = 8 := by rw [fLinkTo_len]; exact hlen
    have c1 : (m : Int) < 8 := by omega
    have c2 : (0 : Int) ≤ (m : Int) := by omega
    have c3 : (m : Int) < ((fLinkTo m ps a b).length : Int) := by omega
    have next := ih (m + 1) (by omega) (by omega) r h
    rw [← hw] at next
    have hst := fLinkTo_step m ps a b (by omega)
    have hrd := fLinkTo_rd m ps a b (by omega)
    by_cases hz : rd ps (m : Int) = b
    · rw [← hst.1 hz] at next
      refine Ev.step (fun k => by rw [spec_l7Parts.l2]) ?_
      exact Ev.ite_pos c1 (Ev.ite_pos c2 (Ev.ite_pos c3 (Ev.ite_pos (hrd.trans hz) next)))
    · rw [← hst.2 hz] at next
      refine Ev.step (fun k => by rw [spec_l7Parts.l2]) ?_
      exact Ev.ite_pos c1 (Ev.ite_pos c2 (Ev.ite_pos c3 (Ev.ite_neg (fun e => hz (hrd.symm.trans e)) next)))
theorem parts_go (l : List S97) (o : List Int) (ho : o.length ≤ 1048576) (hb : ∀ i : Nat, i < l.length → (0 ≤ (rd_T97 l (i : Int)).f0 ∧ (rd_T97 l (i : Int)).f0 < 8) ∧ (0 ≤ (rd_T97 l (i : Int)).f1 ∧ (rd_T97 l (i : Int)).f1 < 8)) (hin : ∀ j : Nat, j < o.length → 0 ≤ rd o (j : Int) ∧ rd o (j : Int) < (l.length : Int)) (d : Nat) :
    ∀ (i : Nat) (ps : List Int), i ≤ o.length → o.length - i = d → ps.length = 8 → Ev (fun k => spec_l7Parts.l1 k l ps o (o.length : Int) (i : Int)) ((o.drop i).foldl (fun ps k => fLink ps (rd ps (rd_T97 l k).f0) (rd ps (rd_T97 l k).f1)) ps) := by
  induction d with
  | zero =>
    intro i ps h0 hd hl
    rw [List.drop_of_length_le (by omega)]
    refine Ev.step (fun k => by rw [spec_l7Parts.l1]) ?_
    exact Ev.ite_neg (by omega) (Ev.now _)
  | succ d ih =>
    intro i ps h0 hd hl
    have hi : i < o.length := by omega
    have c1 : (i : Int) < (o.length : Int) := by omega
    have c2 : (0 : Int) ≤ (i : Int) := by omega
    have hw : wrap64 ((i : Int) + 1) = ((i + 1 : Nat) : Int) := by rw [w64 (by omega) (by omega)]; omega
    obtain ⟨q0, q1⟩ := hin i hi
    have hx := hb (rd o (i : Int)).toNat (by omega)
    rw [Int.toNat_of_nonneg q0] at hx
    obtain ⟨⟨a0, a1⟩, b0, b1⟩ := hx
    have hd2 : o.drop i = rd o (i : Int) :: o.drop (i + 1) := by rw [rd_eq o i hi]; exact List.drop_eq_getElem_cons hi
    have next := ih (i + 1) (fLink ps (rd ps (rd_T97 l (rd o (i : Int))).f0) (rd ps (rd_T97 l (rd o (i : Int))).f1)) (by omega) (by omega) (by rw [fLink_len]; exact hl)
    rw [hd2, List.foldl_cons]
    rw [← hw] at next
    clear ih hd2 hw hd
    have c3 : (rd_T97 l (rd o (i : Int))).f0 < (ps.length : Int) := by rw [hl]; exact a1
    have c4 : (rd_T97 l (rd o (i : Int))).f1 < (ps.length : Int) := by rw [hl]; exact b1
    have link : ∀ (a b : Int), (fLink ps (rd ps (rd_T97 l (rd o (i : Int))).f0) (rd ps (rd_T97 l (rd o (i : Int))).f1)) = (ps.map fun z => if z = b then a else z) → Ev (fun k => spec_l7Parts.j2 k l ps a b o (o.length : Int) (i : Int)) ((o.drop (i + 1)).foldl (fun ps k => fLink ps (rd ps (rd_T97 l k).f0) (rd ps (rd_T97 l k).f1)) (fLink ps (rd ps (rd_T97 l (rd o (i : Int))).f0) (rd ps (rd_T97 l (rd o (i : Int))).f1))) := fun a b e => by
      have n2 := next
      rw [e] at n2
      have := link_go l a b o (o.length : Int) (i : Int) ps hl 8 0 (by omega) (by omega) _ n2
      rw [e]
      refine Ev.step (fun k => by rw [spec_l7Parts.j2]) ?_
      rw [hl]
      exact this
    refine Ev.step (fun k => by rw [spec_l7Parts.l1]) ?_
    refine Ev.ite_pos c1 (Ev.ite_pos c2 (Ev.ite_pos c1 (Ev.ite_pos q0 (Ev.ite_pos q1 (Ev.ite_pos a0 (Ev.ite_pos c3 (Ev.ite_pos b0 (Ev.ite_pos c4 ?_))))))))
    refine Ev.ite (fun c => link _ _ ?_) (fun c => link _ _ ?_)
    · unfold fLink
      rw [if_neg (show ¬ rd ps (rd_T97 l (rd o (i : Int))).f0 < rd ps (rd_T97 l (rd o (i : Int))).f1 by omega), if_pos (show rd ps (rd_T97 l (rd o (i : Int))).f1 < rd ps (rd_T97 l (rd o (i : Int))).f0 by omega)]
    · unfold fLink
      rw [if_neg (show ¬ rd ps (rd_T97 l (rd o (i : Int))).f1 < rd ps (rd_T97 l (rd o (i : Int))).f0 by omega)]
      by_cases e : rd ps (rd_T97 l (rd o (i : Int))).f0 < rd ps (rd_T97 l (rd o (i : Int))).f1
      · rw [if_pos e]
      · rw [if_neg e]
        have : rd ps (rd_T97 l (rd o (i : Int))).f0 = rd ps (rd_T97 l (rd o (i : Int))).f1 := by omega
        rw [this]
theorem alone_go (l : List S97) (o : List Int) (r : List Int) (h : Ev (fun k => spec_l7Parts.l1 k l (alRow 8) o (o.length : Int) 0) r) (d : Nat) : ∀ i : Nat, i ≤ 8 → 8 - i = d → Ev (fun k => spec_l7Parts.l0 k l o ((List.range i).map fun j : Nat => (j : Int)) (i : Int)) r := by
  induction d with
  | zero =>
    intro i h0 hd
    obtain rfl : i = 8 := by omega
    refine Ev.step (fun k => by rw [spec_l7Parts.l0]) ?_
    exact Ev.ite_neg (by decide) h
  | succ d ih =>
    intro i h0 hd
    have hw : wrap64 ((i : Int) + 1) = ((i + 1 : Nat) : Int) := by rw [w64 (by omega) (by omega)]; omega
    have next := ih (i + 1) (by omega) (by omega)
    rw [List.range_succ, List.map_append, ← hw] at next
    have c1 : (i : Int) < 8 := by omega
    have c2 : ((List.range i).map fun j : Nat => (j : Int)).length < 17592186044416 := by rw [List.length_map, List.length_range]; omega
    refine Ev.step (fun k => by rw [spec_l7Parts.l0]) ?_
    exact Ev.ite_pos c1 (Ev.ite_pos c2 next)
theorem partsS_val (l : List S97) (o : List Int) (ho : o.length ≤ 1048576) (hb : ∀ i : Nat, i < l.length → (0 ≤ (rd_T97 l (i : Int)).f0 ∧ (rd_T97 l (i : Int)).f0 < 8) ∧ (0 ≤ (rd_T97 l (i : Int)).f1 ∧ (rd_T97 l (i : Int)).f1 < 8)) (hin : ∀ j : Nat, j < o.length → 0 ≤ rd o (j : Int) ∧ rd o (j : Int) < (l.length : Int)) :
    Ev (fun k => spec_l7Parts.f k l o) (partsOf l o) := by
  simp only [spec_l7Parts.f]
  have := parts_go l o ho hb hin o.length 0 (alRow 8) (by omega) (by omega) (alRow_len 8)
  exact alone_go l o _ this 8 0 (by omega) (by omega)
theorem forest_go (l : List S97) (o : List Int) (ho : o.length ≤ 1048576) (hb : ∀ i : Nat, i < l.length → (0 ≤ (rd_T97 l (i : Int)).f0 ∧ (rd_T97 l (i : Int)).f0 < 8) ∧ (0 ≤ (rd_T97 l (i : Int)).f1 ∧ (rd_T97 l (i : Int)).f1 < 8)) (hin : ∀ j : Nat, j < o.length → 0 ≤ rd o (j : Int) ∧ rd o (j : Int) < (l.length : Int)) (d : Nat) :
    ∀ i : Nat, i ≤ o.length → o.length - i = d → ∃ b : Bool, Ev (fun k => spec_l7Forest.l0 k l (o.take i) o (o.length : Int) (i : Int)) b ∧ foGo l (partsOf l (o.take i)) (o.drop i) = some b := by
  induction d with
  | zero =>
    intro i h0 hd
    rw [List.drop_of_length_le (by omega)]
    exact ⟨true, Ev.step (fun k => by rw [spec_l7Forest.l0]) (Ev.ite_neg (by omega) (Ev.now _)), rfl⟩
  | succ d ih =>
    intro i h0 hd
    have hi : i < o.length := by omega
    have c1 : (i : Int) < (o.length : Int) := by omega
    have c2 : (0 : Int) ≤ (i : Int) := by omega
    have room : (o.take i).length < 17592186044416 := by rw [List.length_take]; omega
    have hw : wrap64 ((i : Int) + 1) = ((i + 1 : Nat) : Int) := by rw [w64 (by omega) (by omega)]; omega
    obtain ⟨q0, q1⟩ := hin i hi
    have hx := hb (rd o (i : Int)).toNat (by omega)
    rw [Int.toNat_of_nonneg q0] at hx
    obtain ⟨⟨a0, a1⟩, b0, b1⟩ := hx
    have hd2 : o.drop i = rd o (i : Int) :: o.drop (i + 1) := by rw [rd_eq o i hi]; exact List.drop_eq_getElem_cons hi
    have ht : o.take (i + 1) = o.take i ++ [rd o (i : Int)] := by rw [rd_eq o i hi]; exact List.take_succ_eq_append_getElem hi
    have hp : partsOf l (o.take (i + 1)) = fLink (partsOf l (o.take i)) (rd (partsOf l (o.take i)) (rd_T97 l (rd o (i : Int))).f0) (rd (partsOf l (o.take i)) (rd_T97 l (rd o (i : Int))).f1) := by
      rw [ht]; unfold partsOf; rw [List.foldl_append]; rfl
    obtain ⟨b, x, y⟩ := ih (i + 1) (by omega) (by omega)
    have pv := partsS_val l (o.take i) (by rw [List.length_take]; omega) hb (fun j hj => by
      rw [List.length_take] at hj
      have := hin j (by omega)
      rw [rd_eq o j (by omega)] at this
      rw [rd_eq _ j (by rw [List.length_take]; omega), List.getElem_take]
      exact this)
    have pl := partsOf_len l (o.take i)
    rw [hp] at y
    rw [ht, ← hw] at x
    rw [hd2]
    clear ih hd2 ht hp hw hd
    generalize partsOf l (o.take i) = ps at pv pl y ⊢
    have c3 : (rd_T97 l (rd o (i : Int))).f0 < (ps.length : Int) := by rw [pl]; exact a1
    have c4 : (rd_T97 l (rd o (i : Int))).f1 < (ps.length : Int) := by rw [pl]; exact b1
    by_cases e : rd ps (rd_T97 l (rd o (i : Int))).f0 = rd ps (rd_T97 l (rd o (i : Int))).f1
    · refine ⟨false, Ev.step (fun k => by rw [spec_l7Forest.l0]) ?_, ?_⟩
      · exact Ev.ite_pos c1 (Ev.ite_pos c2 (Ev.ite_pos c1 (Ev.bind pv (Ev.ite_pos q0 (Ev.ite_pos q1 (Ev.ite_pos a0 (Ev.ite_pos c3 (Ev.ite_pos b0 (Ev.ite_pos c4 (Ev.ite_pos e (Ev.now _)))))))))))
      · simp only [foGo]
        rw [if_pos q0, if_pos q1, if_pos ⟨a0, a1, b0, b1⟩, if_neg (fun h => h e)]
    · refine ⟨b, Ev.step (fun k => by rw [spec_l7Forest.l0]) ?_, ?_⟩
      · exact Ev.ite_pos c1 (Ev.ite_pos c2 (Ev.ite_pos c1 (Ev.bind pv (Ev.ite_pos q0 (Ev.ite_pos q1 (Ev.ite_pos a0 (Ev.ite_pos c3 (Ev.ite_pos b0 (Ev.ite_pos c4 (Ev.ite_neg e (Ev.ite_pos room x)))))))))))
      · simp only [foGo]
        rw [if_pos q0, if_pos q1, if_pos ⟨a0, a1, b0, b1⟩, if_pos e]
        exact y
theorem rise_go (o : List Int) (n : Nat) (ho : o.length ≤ 1048576) (d : Nat) : ∀ i : Nat, i ≤ o.length → o.length - i = d → (∀ j : Nat, j < i → 0 ≤ rd o (j : Int) ∧ rd o (j : Int) < (n : Int)) →
    ∃ b : Bool, Ev (fun k => spec_l1Some.l0 k o (n : Int) o (o.length : Int) (i : Int)) b ∧ Ev (fun k => impl_rise.l0 k o (n : Int) o (o.length : Int) (i : Int)) b ∧ (b = true → ∀ j : Nat, j < o.length → 0 ≤ rd o (j : Int) ∧ rd o (j : Int) < (n : Int)) := by
  induction d with
  | zero =>
    intro i h0 hd hp
    obtain rfl : i = o.length := by omega
    exact ⟨true, Ev.step (fun k => by rw [spec_l1Some.l0]) (Ev.ite_neg (by omega) (Ev.now _)), Ev.step (fun k => by rw [impl_rise.l0]) (Ev.ite_neg (by omega) (Ev.now _)), fun _ => hp⟩
  | succ d ih =>
    intro i h0 hd hp
    have hi : i < o.length := by omega
    have c1 : (i : Int) < (o.length : Int) := by omega
    have c2 : (0 : Int) ≤ (i : Int) := by omega
    have hw : wrap64 ((i : Int) + 1) = ((i + 1 : Nat) : Int) := by rw [w64 (by omega) (by omega)]; omega
    by_cases d0 : rd o (i : Int) < 0
    · refine ⟨false, Ev.step (fun k => by rw [spec_l1Some.l0]) ?_, Ev.step (fun k => by rw [impl_rise.l0]) ?_, fun h => absurd h (by decide)⟩
      · exact Ev.ite_pos c1 (Ev.ite_pos c2 (Ev.ite_pos c1 (Ev.ite_pos d0 (Ev.now _))))
      · exact Ev.ite_pos c1 (Ev.ite_pos c2 (Ev.ite_pos c1 (Ev.ite_pos d0 (Ev.now _))))
    by_cases d1 : rd o (i : Int) ≥ (n : Int)
    · refine ⟨false, Ev.step (fun k => by rw [spec_l1Some.l0]) ?_, Ev.step (fun k => by rw [impl_rise.l0]) ?_, fun h => absurd h (by decide)⟩
      · exact Ev.ite_pos c1 (Ev.ite_pos c2 (Ev.ite_pos c1 (Ev.ite_neg d0 (Ev.ite_pos d1 (Ev.now _)))))
      · exact Ev.ite_pos c1 (Ev.ite_pos c2 (Ev.ite_pos c1 (Ev.ite_neg d0 (Ev.ite_pos d1 (Ev.now _)))))
    obtain ⟨b, x, y, z⟩ := ih (i + 1) (by omega) (by omega) (fun j hj => by
      rcases Nat.lt_or_ge j i with h | h
      · exact hp j h
      · obtain rfl : j = i := by omega
        exact ⟨by omega, by omega⟩)
    rw [← hw] at x y
    clear ih hw hd
    by_cases c3 : (i : Int) > 0
    case neg =>
      refine ⟨b, Ev.step (fun k => by rw [spec_l1Some.l0]) ?_, Ev.step (fun k => by rw [impl_rise.l0]) ?_, z⟩
      · exact Ev.ite_pos c1 (Ev.ite_pos c2 (Ev.ite_pos c1 (Ev.ite_neg d0 (Ev.ite_neg d1 (Ev.ite_neg c3 x)))))
      · exact Ev.ite_pos c1 (Ev.ite_pos c2 (Ev.ite_pos c1 (Ev.ite_neg d0 (Ev.ite_neg d1 (Ev.ite_neg c3 y)))))
    have hw2 : wrap64 ((i : Int) - 1) = (i : Int) - 1 := w64 (by omega) (by omega)
    have c4 : 0 ≤ wrap64 ((i : Int) - 1) := by rw [hw2]; omega
    have c5 : wrap64 ((i : Int) - 1) < (o.length : Int) := by rw [hw2]; omega
    by_cases e : rd o (wrap64 ((i : Int) - 1)) ≥ rd o (i : Int)
    · refine ⟨false, Ev.step (fun k => by rw [spec_l1Some.l0]) ?_, Ev.step (fun k => by rw [impl_rise.l0]) ?_, fun h => absurd h (by decide)⟩
      · exact Ev.ite_pos c1 (Ev.ite_pos c2 (Ev.ite_pos c1 (Ev.ite_neg d0 (Ev.ite_neg d1 (Ev.ite_pos c3 (Ev.ite_pos c4 (Ev.ite_pos c5 (Ev.ite_pos e (Ev.now _)))))))))
      · exact Ev.ite_pos c1 (Ev.ite_pos c2 (Ev.ite_pos c1 (Ev.ite_neg d0 (Ev.ite_neg d1 (Ev.ite_pos c3 (Ev.ite_pos c4 (Ev.ite_pos c5 (Ev.ite_pos e (Ev.now _)))))))))
    · refine ⟨b, Ev.step (fun k => by rw [spec_l1Some.l0]) ?_, Ev.step (fun k => by rw [impl_rise.l0]) ?_, z⟩
      · exact Ev.ite_pos c1 (Ev.ite_pos c2 (Ev.ite_pos c1 (Ev.ite_neg d0 (Ev.ite_neg d1 (Ev.ite_pos c3 (Ev.ite_pos c4 (Ev.ite_pos c5 (Ev.ite_neg e x))))))))
      · exact Ev.ite_pos c1 (Ev.ite_pos c2 (Ev.ite_pos c1 (Ev.ite_neg d0 (Ev.ite_neg d1 (Ev.ite_pos c3 (Ev.ite_pos c4 (Ev.ite_pos c5 (Ev.ite_neg e y))))))))
theorem isForest_val (l : List S97) (hl : l.length ≤ 1048576) (o : List Int) (ho : o.length ≤ 1048576) : ∃ u : Bool × Bool, Ev (fun k => spec_IsForest.f k l o) u ∧ Ev (fun k => impl_IsForest.f k l o) u := by
  have hs := specEdges_val l hl
  have hi := implEdges_val l
  simp only [spec_IsForest.f, impl_IsForest.f]
  by_cases hp : edgesB l = true
  case neg => exact ⟨(false, false), Ev.bind hs (Ev.ite_neg hp (Ev.now _)), Ev.opt_bind hi (Ev.ite_neg hp (Ev.now _))⟩
  obtain ⟨h24, hb⟩ := edgesB_at hp
  obtain ⟨b, x, y, z⟩ := rise_go o l.length ho o.length 0 (by omega) (by omega) (fun j hj => by omega)
  have x' : Ev (fun k => spec_l1Some.f k o (l.length : Int)) b := by simp only [spec_l1Some.f]; exact x
  have y' : Ev (fun k => impl_rise.f k o (l.length : Int)) b := by simp only [impl_rise.f]; exact y
  cases b with
  | false => exact ⟨(false, false), Ev.bind hs (Ev.ite_pos hp (Ev.bind x' (Ev.ite_neg (by decide) (Ev.now _)))), Ev.opt_bind hi (Ev.ite_pos hp (Ev.bind y' (Ev.ite_neg (by decide) (Ev.now _))))⟩
  | true =>
    obtain ⟨q, p, r⟩ := forest_go l o ho hb (z rfl) o.length 0 (by omega) (by omega)
    have p' : Ev (fun k => spec_l7Forest.f k l o) q := by simp only [spec_l7Forest.f]; exact p
    have r' : impl_isForest.f l o = some q := r
    exact ⟨(q, true), Ev.bind hs (Ev.ite_pos hp (Ev.bind x' (Ev.ite_pos rfl (Ev.bind p' (Ev.now _))))), Ev.opt_bind hi (Ev.ite_pos hp (Ev.bind y' (Ev.ite_pos rfl (Ev.opt_bind r' (Ev.now _)))))⟩
theorem toIntS_go (l : List Int) (hl : l.length ≤ 35184372088832) (d : Nat) : ∀ i : Nat, i ≤ l.length → l.length - i = d → Ev (fun k => laws_toIntS.l0 k l (l.take i ++ List.replicate (l.length - i) 0) (i : Int)) l := by
  induction d with
  | zero =>
    intro i h0 hd
    obtain rfl : i = l.length := by omega
    refine Ev.step (fun k => by rw [laws_toIntS.l0]) ?_
    simp only [if_neg (show ¬ (l.length : Int) < (l.length : Int) by omega)]
    exact Ev.now' (by simp)
  | succ d ih =>
    intro i h0 hd
    have hlt : i < l.length := by omega
    refine Ev.step (fun k => by rw [laws_toIntS.l0]) ?_
    have hlen : (l.take i ++ List.replicate (l.length - i) (0 : Int)).length = l.length := by simp; omega
    simp only [if_pos (show (i : Int) < (l.length : Int) by omega), if_pos (show (0 : Int) ≤ (i : Int) by omega), hlen, w64 (show -9223372036854775808 ≤ (i : Int) + 1 by omega) (show (i : Int) + 1 ≤ 9223372036854775807 by omega), rd_eq l i hlt, Int.toNat_natCast, fill_step l 0 i hlt]
    exact ih (i + 1) (by omega) (by omega)
theorem toIntS_self (l : List Int) (hl : l.length ≤ 35184372088832) : Ev (fun k => laws_toIntS.f k l) l := by
  have := toIntS_go l hl l.length 0 (by omega) (by omega)
  simp only [laws_toIntS.f, if_pos (show (0 : Int) ≤ (l.length : Int) by omega), Int.toNat_natCast, if_pos hl]
  simpa using this
theorem eqIntS_go (l : List Int) (hl : l.length ≤ 4611686018427387904) (d : Nat) : ∀ i : Int, 0 ≤ i → (l.length : Int) - i = d → Ev (fun k => laws_eqIntS.l0 k l l i) true := by
  induction d with
  | zero =>
    intro i h0 hd
    refine Ev.step (fun k => by rw [laws_eqIntS.l0]) ?_
    simp only [if_neg (show ¬ i < (l.length : Int) by omega)]
    exact Ev.now _
  | succ d ih =>
    intro i h0 hd
    refine Ev.step (fun k => by rw [laws_eqIntS.l0]) ?_
    simp only [if_pos (show i < (l.length : Int) by omega), if_pos h0, if_true, w64 (show -9223372036854775808 ≤ i + 1 by omega) (show i + 1 ≤ 9223372036854775807 by omega)]
    exact ih (i + 1) (by omega) (by omega)
theorem eqIntS_self (l : List Int) (hl : l.length ≤ 4611686018427387904) : Ev (fun k => laws_eqIntS.f k l l) true := by
  simp only [laws_eqIntS.f, if_true]
  exact eqIntS_go l hl l.length 0 (by omega) (by omega)
theorem FnExactIsForest : Go.Proofs.Ytckndinhkkhonaa.GoalFnExactIsForest.Goal := by
  intro l o h0 _ h1 h2 _ _
  refine Ev.rounds ?_
  obtain ⟨r, hr, hr2⟩ := szEdgeS_val l h0
  simp only [laws_FnExactIsForest.f]
  refine Ev.ite (fun _ => Ev.now _) fun ho => Ev.opt_bind hr (Ev.ite (fun _ => Ev.now _) fun hn => ?_)
  have hl := hr2 (by omega)
  have hl2 : (l.map edgeOf).length ≤ 1048576 := by simpa using hl
  obtain ⟨u, x, y⟩ := isForest_val (l.map edgeOf) hl2 o (by omega)
  have t := toEdgeS_val l hl
  have ti := toIntS_self o (by omega)
  refine Ev.bind t (Ev.bind ti (Ev.bind x (Ev.bind t (Ev.bind ti (Ev.bind y (Ev.ite_neg (by simp) ?_))))))
  refine Ev.step (fun k => by rw [laws_FnExactIsForest.j0]) ?_
  exact Ev.ite_neg (by simp) (Ev.bind t (Ev.bind (eqEdgeS_self _ hl2) (Ev.ite_pos rfl (Ev.bind ti (Ev.bind (eqIntS_self o (by omega)) (Ev.ite_pos rfl (Ev.now _)))))))

end Go.Proofs.Ytckndinhkkhonaa.Pure
