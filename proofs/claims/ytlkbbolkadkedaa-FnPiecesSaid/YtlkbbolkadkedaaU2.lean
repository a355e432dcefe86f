import Derived.Test.YtlkbbolkadkedaaU1
import Derived.Test.YtlkbbolkadkedaaPlain
set_option linter.unusedVariables false
set_option linter.unusedSimpArgs false
namespace Go.Proofs.Ytlkbbolkadkedaa.Pure
open Go.RowKit Go.Proofs.Ytlkbbolkadkedaa.QFnPieces Go.Proofs.YtlkbbolkadkedaaW.PrintWords Go.Proofs.YtlkbbolkadkedaaW.PrintLast Go.Proofs.Ytlkbbolkadkedaa.Plain
theorem addAt (l : List PcT) (b : PcT) : ∀ d i : Nat, i + d = l.length → ∃ m, i ≤ m ∧ m ≤ l.length ∧ (∀ j, i ≤ j → j < m → BeforeP (pc l j) b) ∧ (m < l.length → ¬ BeforeP (pc l m) b) := by
  intro d
  induction d with
  | zero => exact fun i h => ⟨i, Nat.le_refl _, by omega, fun j h1 h2 => by omega, fun h3 => by omega⟩
  | succ d ih =>
    intro i h
    by_cases hb : BeforeP (pc l i) b
    · obtain ⟨m, h1, h2, h3, h4⟩ := ih (i + 1) (by omega)
      refine ⟨m, by omega, h2, fun j h5 h6 => ?_, h4⟩
      by_cases e : j = i
      · subst e; exact hb
      · exact h3 j (by omega) h6
    · exact ⟨i, Nat.le_refl _, by omega, fun j h1 h2 => by omega, fun _ => hb⟩
def addIn (l : List PcT) (m : Nat) (b : PcT) : List PcT := l.take m ++ [b] ++ l.drop m
theorem addIn_len (l : List PcT) (m : Nat) (b : PcT) (h : m ≤ l.length) : (addIn l m b).length = l.length + 1 := by simp [addIn]; omega
theorem addIn_mem {l : List PcT} {m : Nat} {b x : PcT} (h : x ∈ addIn l m b) : x ∈ l ∨ x = b := by
  simp only [addIn, List.mem_append, List.mem_singleton] at h
  rcases h with (h | h) | h
  · exact .inl (List.mem_of_mem_take h)
  · exact .inr h
  · exact .inl (List.mem_of_mem_drop h)
theorem pc_get (l : List PcT) (j : Nat) (h : j < l.length) : pc l j = l[j] := by
  simp [pc, rd_T46, List.getD_eq_getElem?_getD, h]
theorem addIn_at (l : List PcT) (m : Nat) (b : PcT) (h : m ≤ l.length) : pc (addIn l m b) m = b := by
  rw [pc_get _ _ (by rw [addIn_len l m b h]; omega)]
  simp only [addIn]
  rw [List.getElem_append_left (by simp; omega), List.getElem_append_right (by simp; omega)]
  simp
def Twin (x b : PcT) : Prop := SameP x b ∧ x.f7 = b.f7 ∧ x.f9 = b.f9
theorem str_toList (s t : ByteArray) : s.toList = t.toList ↔ s = t :=
  ⟨fun h => ByteArray.ext (Array.toList_inj.mp (by rwa [ByteArray.toList_eq, ByteArray.toList_eq] at h)), fun h => by rw [h]⟩
theorem addIn_mem_iff (l : List PcT) (m : Nat) (x y : PcT) : y ∈ addIn l m x ↔ y ∈ l ∨ y = x := by
  refine ⟨addIn_mem, fun h => ?_⟩
  simp only [addIn, List.mem_append, List.mem_singleton]
  rcases h with h | h
  · rw [← List.take_append_drop m l, List.mem_append] at h
    rcases h with h | h
    · exact .inl (.inl h)
    · exact .inr h
  · exact .inl (.inr h)
theorem pc_mem {l : List PcT} {j : Nat} (h : j < l.length) : pc l j ∈ l := by
  rw [pc_get _ _ h]
  exact List.getElem_mem h
theorem mem_pc {l : List PcT} {x : PcT} (h : x ∈ l) : ∃ j, j < l.length ∧ pc l j = x := by
  obtain ⟨j, hj, e⟩ := List.getElem_of_mem h
  exact ⟨j, hj, (pc_get _ _ hj).trans e⟩
theorem implAt_go (l : List PcT) (b : PcT) (hp : ∀ j, j < l.length → PieceP (pc l j)) (hx : PieceP b) (m : Nat) (hl : l.length ≤ 60) (hm : m ≤ l.length) (hb : ∀ j, j < m → BeforeP (pc l j) b) (hn : m < l.length → ¬ BeforeP (pc l m) b) (r : List PcT × Bool) (h : Ev (fun k => impl_AddPiece.j4 k false (m : Int) b.f0 b.f1 b.f2 b.f3 b.f4 b.f5 b.f6 b.f7 b.f8 b.f9 l) r) (d : Nat) :
    ∀ i, i + d = m → Ev (fun k => impl_AddPiece.l1 k false (i : Int) b.f0 b.f1 b.f2 b.f3 b.f4 b.f5 b.f6 b.f7 b.f8 b.f9 l) r := by
  induction d with
  | zero =>
    intro i hi
    obtain rfl : i = m := by omega
    refine Ev.step (fun k => by rw [impl_AddPiece.l1]) ?_
    refine Ev.ite (fun hlt => ?_) (fun _ => h)
    obtain ⟨n, en, hn'⟩ := order_val (pc l i) b (hp i (by omega)) hx
    have := hn'.2 (hn (by omega))
    refine Ev.ite_pos (by omega) (Ev.opt_bind en (Ev.ite_neg (by omega) h))
  | succ d ih =>
    intro i hi
    have hw : wrap64 ((i : Int) + 1) = ((i + 1 : Nat) : Int) := by rw [w64 (by omega) (by omega)]; omega
    obtain ⟨n, en, hn'⟩ := order_val (pc l i) b (hp i (by omega)) hx
    have hlt : n < 0 := Classical.byContradiction fun hge => hn'.1 (by omega) (hb i (by omega))
    refine Ev.step (fun k => by rw [impl_AddPiece.l1]) ?_
    refine Ev.ite_pos (by omega) (Ev.ite_pos (by omega) (Ev.opt_bind en (Ev.ite_pos hlt ?_)))
    rw [hw]
    exact ih (i + 1) (by omega)
theorem implFind_go (l : List PcT) (b : PcT) (hl : l.length ≤ 60) (d : Nat) : ∀ i, i + d = l.length →
    ((∃ j, i ≤ j ∧ j < l.length ∧ Twin (pc l j) b) → Ev (fun k => impl_AddPiece.l0 k false l (l.length : Int) (i : Int) b.f0 b.f1 b.f2 b.f3 b.f4 b.f5 b.f6 b.f7 b.f8 b.f9 l) (l, true)) ∧
    ((¬ ∃ j, i ≤ j ∧ j < l.length ∧ Twin (pc l j) b) → ∀ r, Ev (fun k => impl_AddPiece.l1 k false 0 b.f0 b.f1 b.f2 b.f3 b.f4 b.f5 b.f6 b.f7 b.f8 b.f9 l) r → Ev (fun k => impl_AddPiece.l0 k false l (l.length : Int) (i : Int) b.f0 b.f1 b.f2 b.f3 b.f4 b.f5 b.f6 b.f7 b.f8 b.f9 l) r) := by
  induction d with
  | zero =>
    intro i hi
    refine ⟨fun ⟨j, h1, h2, _⟩ => by omega, fun _ r h => Ev.step (fun k => by rw [impl_AddPiece.l0]) (Ev.ite_neg (by omega) h)⟩
  | succ d ih =>
    intro i hi
    have hw : wrap64 ((i : Int) + 1) = ((i + 1 : Nat) : Int) := by rw [w64 (by omega) (by omega)]; omega
    obtain ⟨ih1, ih2⟩ := ih (i + 1) (by omega)
    have hsame : ((pc l i).f0 == b.f0 && ((pc l i).f1 == b.f1 && ((pc l i).f2 == b.f2 && ((pc l i).f3 == b.f3 && ((pc l i).f4 == b.f4 && ((pc l i).f5 == b.f5 && ((0 : Int) == 0 && ((0 : Int) == 0 && ((pc l i).f8 == b.f8 && ((⟨#[]⟩ : ByteArray).toList == (⟨#[]⟩ : ByteArray).toList)))))))))) = decide (SameP (pc l i) b) := by
      unfold SameP
      by_cases h0 : (pc l i).f0 = b.f0 <;> by_cases h1 : (pc l i).f1 = b.f1 <;> by_cases h2 : (pc l i).f2 = b.f2 <;> by_cases h3 : (pc l i).f3 = b.f3 <;> by_cases h4 : (pc l i).f4 = b.f4 <;> by_cases h5 : (pc l i).f5 = b.f5 <;> by_cases h6 : (pc l i).f8 = b.f8 <;> simp [h0, h1, h2, h3, h4, h5, h6]
    have start : ∀ r, Ev (fun k => if decide (SameP (pc l i) b) = true then (if (pc l i).f7 = b.f7 then impl_AddPiece.j2 k false l (l.length : Int) (i : Int) ((pc l i).f9.toList == b.f9.toList) b.f0 b.f1 b.f2 b.f3 b.f4 b.f5 b.f6 b.f7 b.f8 b.f9 l else impl_AddPiece.j2 k false l (l.length : Int) (i : Int) false b.f0 b.f1 b.f2 b.f3 b.f4 b.f5 b.f6 b.f7 b.f8 b.f9 l) else impl_AddPiece.j2 k false l (l.length : Int) (i : Int) false b.f0 b.f1 b.f2 b.f3 b.f4 b.f5 b.f6 b.f7 b.f8 b.f9 l) r → Ev (fun k => impl_AddPiece.l0 k false l (l.length : Int) (i : Int) b.f0 b.f1 b.f2 b.f3 b.f4 b.f5 b.f6 b.f7 b.f8 b.f9 l) r := by
      intro r h
      refine Ev.step (fun k => by rw [impl_AddPiece.l0]) (Ev.ite_pos (by omega) (Ev.ite_pos (by omega) (Ev.ite_pos (by omega) ?_)))
      simp only [impl_of.f, Option.bind_some]
      rw [← hsame] at h
      exact h
    have go : ∀ r, Ev (fun k => impl_AddPiece.l0 k false l (l.length : Int) ((i + 1 : Nat) : Int) b.f0 b.f1 b.f2 b.f3 b.f4 b.f5 b.f6 b.f7 b.f8 b.f9 l) r → Ev (fun k => impl_AddPiece.j2 k false l (l.length : Int) (i : Int) false b.f0 b.f1 b.f2 b.f3 b.f4 b.f5 b.f6 b.f7 b.f8 b.f9 l) r := fun r h =>
      Ev.step (fun k => by rw [impl_AddPiece.j2]) (Ev.ite_neg (by decide) (by rw [hw]; exact h))
    have other : ¬ Twin (pc l i) b → ∀ r, Ev (fun k => impl_AddPiece.l0 k false l (l.length : Int) ((i + 1 : Nat) : Int) b.f0 b.f1 b.f2 b.f3 b.f4 b.f5 b.f6 b.f7 b.f8 b.f9 l) r → Ev (fun k => impl_AddPiece.l0 k false l (l.length : Int) (i : Int) b.f0 b.f1 b.f2 b.f3 b.f4 b.f5 b.f6 b.f7 b.f8 b.f9 l) r := by
      intro ht r h
      refine start r ?_
      by_cases hs : SameP (pc l i) b
      · rw [decide_eq_true hs]
        refine Ev.ite_pos rfl (Ev.ite (fun h7 => ?_) (fun _ => go r h))
        have h9 : ((pc l i).f9.toList == b.f9.toList) = false := beq_eq_false_iff_ne.2 fun e => ht ⟨hs, h7, (str_toList _ _).1 e⟩
        rw [h9]
        exact go r h
      · rw [decide_eq_false hs]
        exact Ev.ite_neg (by decide) (go r h)
    constructor
    · rintro ⟨j, h1, h2, ht⟩
      by_cases hi' : Twin (pc l i) b
      · refine start _ ?_
        rw [decide_eq_true hi'.1]
        refine Ev.ite_pos rfl (Ev.ite_pos hi'.2.1 ?_)
        rw [beq_iff_eq.2 ((str_toList _ _).2 hi'.2.2)]
        exact Ev.step (fun k => by rw [impl_AddPiece.j2]) (Ev.ite_pos rfl (Ev.now _))
      · refine other hi' _ (ih1 ⟨j, ?_, h2, ht⟩)
        rcases Nat.lt_or_ge i j with h | h
        · exact h
        · obtain rfl : j = i := by omega
          exact absurd ht hi'
    · intro hno r h
      exact other (fun ht => hno ⟨i, Nat.le_refl _, by omega, ht⟩) r (ih2 (fun ⟨j, h1, h2, ht⟩ => hno ⟨j, by omega, h2, ht⟩) r h)
def PileOf (b : PcT) (l : List PcT) : Prop := (∀ y ∈ l, PartOf b y) ∧ PileFrom l 0 ∧ l.length ≤ 60
theorem addIn_lt (l : List PcT) (m : Nat) (x : PcT) (h : m ≤ l.length) (j : Nat) (hj : j < m) : pc (addIn l m x) j = pc l j := by
  rw [pc_get _ _ (by rw [addIn_len l m x h]; omega), pc_get _ _ (by omega)]
  simp only [addIn]
  rw [List.getElem_append_left (by simp; omega), List.getElem_append_left (by simp; omega), List.getElem_take]
theorem addIn_gt (l : List PcT) (m : Nat) (x : PcT) (h : m ≤ l.length) (j : Nat) (hj : m < j) (hl : j ≤ l.length) : pc (addIn l m x) j = pc l (j - 1) := by
  rw [pc_get _ _ (by rw [addIn_len l m x h]; omega), pc_get _ _ (by omega)]
  simp only [addIn]
  rw [List.getElem_append_right (by simp; omega), List.getElem_drop]
  congr 1
  simp
  omega
theorem pileFrom_parts {b : PcT} (hb : WholeP b) {l : List PcT} (hp : ∀ y ∈ l, PartOf b y) (ho : ∀ j, 0 < j → j < l.length → BeforeP (pc l (j - 1)) (pc l j)) : PileFrom l 0 := by
  intro j _ hj
  have pj := hp _ (pc_mem hj)
  exact ⟨⟨pj.piece hb, pj.same (hp _ (pc_mem (by omega))), fun h => ho j h hj⟩, fun i hi => pj.agree (hp _ (pc_mem (by omega)))⟩
theorem part_range {b x : PcT} (hb : WholeP b) (h : PartOf b x) : -9223372036854775808 ≤ x.f8 ∧ x.f8 ≤ 9223372036854775807 := by
  have := (h.piece hb).told
  omega
theorem pile_range {b : PcT} {l : List PcT} (hb : WholeP b) (h : ∀ y ∈ l, PartOf b y) : ∀ j : Nat, j < l.length → -9223372036854775808 ≤ (pc l j).f8 ∧ (pc l j).f8 ≤ 9223372036854775807 := fun j hj => part_range hb (h _ (pc_mem hj))
theorem add_part (b : PcT) (hb : WholeP b) (l : List PcT) (hl : PileOf b l) (x : PcT) (hx : PartOf b x) :
    ∃ (v : List PcT) (c : Bool), Ev (fun k => impl_AddPiece.f k l x.f0 x.f1 x.f2 x.f3 x.f4 x.f5 x.f6 x.f7 x.f8 x.f9) (v, c) ∧ (c = true → PileOf b v ∧ (∀ y, y ∈ v ↔ y ∈ l ∨ y = x)) ∧ (c = false → l.length = 60) ∧ (x ∈ l → v = l ∧ c = true) := by
  obtain ⟨hp, hf, h60⟩ := hl
  obtain ⟨g, f, hg⟩ := implPile l (pile_range hb hp)
  obtain rfl : g = true := hg.2 ⟨hf, h60⟩
  obtain ⟨c, ec, hc⟩ := piece_val x (part_range hb hx)
  have hxp := hx.piece hb
  obtain rfl : c = true := hc.2 hxp
  have hps : ∀ j, j < l.length → PieceP (pc l j) := fun j hj => (hp _ (pc_mem hj)).piece hb
  have toI : ∀ r, Ev (fun k => impl_AddPiece.l0 k false l (l.length : Int) 0 x.f0 x.f1 x.f2 x.f3 x.f4 x.f5 x.f6 x.f7 x.f8 x.f9 l) r → Ev (fun k => impl_AddPiece.f k l x.f0 x.f1 x.f2 x.f3 x.f4 x.f5 x.f6 x.f7 x.f8 x.f9) r := by
    intro r h
    simp only [impl_AddPiece.f]
    refine Ev.bind f (Ev.ite_pos rfl (Ev.bind ec ?_))
    have hcl : impl_Bundle_56.f l = some l := if_pos (by omega)
    refine Ev.step (fun k => by rw [Bool.not_true, impl_AddPiece.j0]) ?_
    refine Ev.ite_neg (by decide) ?_
    exact Ev.opt_bind hcl h
  by_cases ht : ∃ j, 0 ≤ j ∧ j < l.length ∧ Twin (pc l j) x
  · refine ⟨l, true, toI _ ((implFind_go l x h60 l.length 0 (by omega)).1 ht), fun _ => ⟨⟨hp, hf, h60⟩, fun y => ⟨.inl, fun h => ?_⟩⟩, fun h => absurd h (by decide), fun _ => ⟨rfl, rfl⟩⟩
    rcases h with h | h
    · exact h
    · obtain ⟨j, _, hj, _, h7, h9⟩ := ht
      rw [h, ← (hp _ (pc_mem hj)).eq hx h7 (by rw [h9])]
      exact pc_mem hj
  have hnx : ¬ x ∈ l := fun h => by
    obtain ⟨j, hj, e⟩ := mem_pc h
    exact ht ⟨j, Nat.zero_le _, hj, by rw [e]; exact ⟨hx.same hx, rfl, rfl⟩⟩
  obtain ⟨m, _, hm, hbm, hn⟩ := addAt l x l.length 0 (by omega)
  replace hbm : ∀ j, j < m → BeforeP (pc l j) x := fun j hj => hbm j (Nat.zero_le _) hj
  have hil := addIn_len l m x hm
  have hpi : ∀ y ∈ addIn l m x, PartOf b y := fun y hy => by
    rcases addIn_mem hy with h | h
    · exact hp y h
    · rw [h]; exact hx
  have hpf : PileFrom (addIn l m x) 0 := by
    refine pileFrom_parts hb hpi fun j h0 hj => ?_
    rcases Nat.lt_trichotomy j m with h | h | h
    · rw [addIn_lt l m x hm j h, addIn_lt l m x hm (j - 1) (by omega)]
      exact (hf j (Nat.zero_le _) (by omega)).1.2.2 h0
    · subst h
      rw [addIn_at l j x hm, addIn_lt l j x hm (j - 1) (by omega)]
      exact hbm (j - 1) (by omega)
    · rw [addIn_gt l m x hm j h (by omega)]
      by_cases e : j = m + 1
      · subst e
        rw [Nat.add_sub_cancel, addIn_at l m x hm]
        have h1 := hn (by omega)
        have h2 : ¬ ((pc l m).f7 = x.f7 ∧ (pc l m).f9.size = x.f9.size) := fun h => hnx (by
          rw [← (hp _ (pc_mem (by omega))).eq hx h.1 h.2]
          exact pc_mem (by omega))
        unfold BeforeP at h1 ⊢
        omega
      · rw [addIn_gt l m x hm (j - 1) (by omega) (by omega)]
        exact (hf (j - 1) (Nat.zero_le _) (by omega)).1.2.2 (by omega)
  obtain ⟨g2, f2, hg2⟩ := implPile (addIn l m x) (pile_range hb hpi)
  have d4 : Ev (fun k => impl_AddPiece.j4 k false (m : Int) x.f0 x.f1 x.f2 x.f3 x.f4 x.f5 x.f6 x.f7 x.f8 x.f9 l) (if g2 = true then addIn l m x else [], g2) := by
    refine Ev.step (fun k => by rw [impl_AddPiece.j4]) ?_
    refine Ev.ite_neg (by omega) ?_
    refine Ev.ite_pos (And.intro (by omega) (by omega)) ?_
    simp only [Option.bind_some, Int.toNat_natCast]
    refine Ev.bind f2 ?_
    cases g2 with
    | true => exact Ev.ite_pos rfl (Ev.now _)
    | false => exact Ev.ite_neg (by decide) (Ev.now _)
  have run := toI _ ((implFind_go l x h60 l.length 0 (by omega)).2 ht _ (implAt_go l x hps hxp m h60 hm hbm hn _ d4 m 0 (by omega)))
  refine ⟨_, g2, run, fun h => ?_, fun h => ?_, fun h => absurd h hnx⟩
  · subst h
    rw [if_pos rfl]
    exact ⟨⟨hpi, hpf, (hg2.1 rfl).2⟩, addIn_mem_iff l m x⟩
  · subst h
    refine Classical.byContradiction fun hne => ?_
    have := hg2.2 ⟨hpf, by omega⟩
    exact absurd this (by decide)
theorem cutPiece_told (a0 a1 : Int) (a2 : Bool) (a3 a4 a5 a6 a7 a8 : Int) (a9 : ByteArray) (at_ : Int) (h8 : -9223372036854775808 ≤ a8 ∧ a8 ≤ 9223372036854775807) :
    ∃ r, Ev (fun k => spec_CutPiece.f k a0 a1 a2 a3 a4 a5 a6 a7 a8 a9 at_) r ∧ Ev (fun k => impl_CutPiece.f k a0 a1 a2 a3 a4 a5 a6 a7 a8 a9 at_) r ∧
      (r = (0, 0, false, 0, 0, 0, 0, 0, 0, (⟨#[]⟩ : ByteArray), 0, 0, false, 0, 0, 0, 0, 0, 0, (⟨#[]⟩ : ByteArray), false) ∧ ¬ (GoodP a0 a1 a3 a4 a5 a6 a7 a8 a9.size ∧ a8 ≠ 0 ∧ 1 ≤ at_ ∧ at_ ≤ (a9.size : Int) - 1) ∨
        ∃ n : Nat, at_ = n ∧ 1 ≤ n ∧ n < a9.size ∧ GoodP a0 a1 a3 a4 a5 a6 a7 a8 a9.size ∧ a8 ≠ 0 ∧ r = (a0, a1, a2, a3, a4, a5, a6, a7, a8, a9.extract 0 n, a0, a1, a2, a3, a4, a5, a6, a7 + (n : Int), a8, a9.extract n a9.size, true)) := by
  have hi := implGood a0 a1 a2 a3 a4 a5 a6 a7 a8 a9 h8
  have hs := specGoodH a0 a1 a2 a3 a4 a5 a6 a7 a8 a9
  simp only [spec_CutPiece.f, impl_CutPiece.f, impl_isPiece.f, specIn, implWithin, Option.bind_some]
  have noS : Ev (fun k => spec_CutPiece.j0 k at_ true a0 a1 a2 a3 a4 a5 a6 a7 a8 a9) (0, 0, false, 0, 0, 0, 0, 0, 0, (⟨#[]⟩ : ByteArray), 0, 0, false, 0, 0, 0, 0, 0, 0, (⟨#[]⟩ : ByteArray), false) := Ev.step (fun k => by rw [spec_CutPiece.j0]) (Ev.ite_pos rfl (Ev.now _))
  have noI : Ev (fun k => impl_CutPiece.j0 k at_ true a0 a1 a2 a3 a4 a5 a6 a7 a8 a9) (0, 0, false, 0, 0, 0, 0, 0, 0, (⟨#[]⟩ : ByteArray), 0, 0, false, 0, 0, 0, 0, 0, 0, (⟨#[]⟩ : ByteArray), false) := Ev.step (fun k => by rw [impl_CutPiece.j0]) (Ev.ite_pos rfl (Ev.now _))
  by_cases hg : GoodP a0 a1 a3 a4 a5 a6 a7 a8 a9.size
  case neg =>
    rw [decide_eq_false hg] at hi hs
    exact ⟨_, Ev.bind hs (Ev.ite_neg (by decide) noS), Ev.bind (Ev.bind hi (Ev.ite_neg (by decide) (Ev.now _))) (Ev.ite_neg (by decide) noI), .inl ⟨rfl, fun h => hg h.1⟩⟩
  rw [decide_eq_true hg] at hi hs
  have hg' := hg
  unfold GoodP at hg'
  by_cases h0 : a8 = 0
  · have h01 : ¬ a8 > 0 := by omega
    refine ⟨_, Ev.bind hs (Ev.ite_pos rfl (Ev.ite_pos h0 noS)), Ev.bind (Ev.bind hi (Ev.ite_pos rfl (Ev.now _))) ?_, .inl ⟨rfl, fun h => h.2.1 h0⟩⟩
    rw [decide_eq_false h01]
    exact Ev.ite_neg (by decide) noI
  have h01 : a8 > 0 := by omega
  have hp : Ev (fun k => (impl_GoodBundle.f k a0 a1 a2 a3 a4 a5 a6 a7 a8 a9).bind fun t => if t = true then some (decide (a8 > 0)) else some false) true := by
    refine Ev.bind hi (Ev.ite_pos rfl ?_)
    rw [decide_eq_true h01]
    exact Ev.now _
  have hw : wrap64 ((a9.size : Int) - 1) = (a9.size : Int) - 1 := w64 (by omega) (by omega)
  by_cases hm : 1 ≤ at_ ∧ at_ ≤ (a9.size : Int) - 1
  case neg =>
    refine ⟨(0, 0, false, 0, 0, 0, 0, 0, 0, (⟨#[]⟩ : ByteArray), 0, 0, false, 0, 0, 0, 0, 0, 0, (⟨#[]⟩ : ByteArray), false), Ev.bind hs (Ev.ite_pos rfl (Ev.ite_neg h0 ?_)), Ev.bind hp (Ev.ite_pos rfl ?_), .inl ⟨rfl, fun h => hm h.2.2⟩⟩
    · refine Ev.ite (fun _ => noS) fun h1 => ?_
      rw [decide_eq_true (show at_ ≥ (a9.size : Int) by omega)]
      exact noS
    · rw [hw, decide_eq_false hm]
      exact noI
  obtain ⟨n, rfl⟩ := Int.eq_ofNat_of_zero_le (show 0 ≤ at_ by omega)
  have c0 : (0 : Int) ≤ (n : Int) := by omega
  have c1 : (n : Int) ≤ (a9.size : Int) := by omega
  have z0 : wrap64 (a7 + 0) = a7 := by rw [Int.add_zero]; exact w64 (by omega) (by omega)
  have zn : wrap64 (a7 + (n : Int)) = a7 + (n : Int) := w64 (by omega) (by omega)
  refine ⟨(a0, a1, a2, a3, a4, a5, a6, a7, a8, a9.extract 0 n, a0, a1, a2, a3, a4, a5, a6, a7 + (n : Int), a8, a9.extract n a9.size, true), Ev.bind hs (Ev.ite_pos rfl (Ev.ite_neg h0 (Ev.ite_neg (by omega) ?_))), Ev.bind hp (Ev.ite_pos rfl ?_), .inr ⟨n, rfl, by omega, by omega, hg, h0, rfl⟩⟩
  · rw [decide_eq_false (show ¬ ((n : Int) ≥ (a9.size : Int)) by omega)]
    refine Ev.step (fun k => by rw [spec_CutPiece.j0]) (Ev.ite_neg (by decide) (Ev.ite_pos c0 (Ev.ite_pos c1 ?_)))
    simp only [zn, Int.toNat_natCast]
    exact Ev.now _
  · rw [hw, decide_eq_true hm]
    refine Ev.step (fun k => by rw [impl_CutPiece.j0]) (Ev.ite_neg (by decide) ?_)
    simp only [impl_Bundle_cut.f, if_pos (Int.le_refl 0), if_pos c0, if_pos c1, if_pos (Int.le_refl (a9.size : Int)), Option.bind_some, z0, zn]
    exact Ev.now _
theorem cut_part {b x : PcT} (h : PartOf b x) (n : Nat) (h0 : 1 ≤ n) (h1 : n < x.f9.size) : PartOf b ⟨x.f0, x.f1, x.f2, x.f3, x.f4, x.f5, x.f6, x.f7, x.f8, x.f9.extract 0 n⟩ ∧ PartOf b ⟨x.f0, x.f1, x.f2, x.f3, x.f4, x.f5, x.f6, x.f7 + (n : Int), x.f8, x.f9.extract n x.f9.size⟩ ∧
    ∀ a, InP x a ↔ InP ⟨x.f0, x.f1, x.f2, x.f3, x.f4, x.f5, x.f6, x.f7, x.f8, x.f9.extract 0 n⟩ a ∨ InP ⟨x.f0, x.f1, x.f2, x.f3, x.f4, x.f5, x.f6, x.f7 + (n : Int), x.f8, x.f9.extract n x.f9.size⟩ a := by
  obtain ⟨e0, e1, e2, e3, e4, e5, e6, e8, h7, hs, he, hx⟩ := h
  have z1 : (x.f9.extract 0 n).size = n := by rw [ByteArray.size_extract]; omega
  have z2 : (x.f9.extract n x.f9.size).size = x.f9.size - n := by rw [ByteArray.size_extract]; omega
  refine ⟨⟨e0, e1, e2, e3, e4, e5, e6, e8, h7, by simp only [z1]; omega, by simp only [z1]; omega, fun t ht => ?_⟩, ⟨e0, e1, e2, e3, e4, e5, e6, e8, by simp only; omega, by simp only [z2]; omega, by simp only [z2]; omega, fun t ht => ?_⟩, fun a => ?_⟩
  · simp only [z1] at ht ⊢
    rw [bt_part _ _ _ _ (by omega) (by omega), show ((0 : Nat) : Int) + (t : Int) = t by omega, hx t (by omega)]
  · simp only [z2] at ht ⊢
    rw [bt_part _ _ _ _ (Nat.le_refl _) (by omega), show (n : Int) + (t : Int) = ((n + t : Nat) : Int) by omega, hx (n + t) (by omega)]
    congr 1
    omega
  · unfold InP
    simp only [z1, z2]
    omega
end Go.Proofs.Ytlkbbolkadkedaa.Pure
