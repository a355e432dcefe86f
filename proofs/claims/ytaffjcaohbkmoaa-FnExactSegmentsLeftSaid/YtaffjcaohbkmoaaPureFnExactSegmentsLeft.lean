import Derived.Test.YtaffjcaohbkmoaaQFnExactSegmentsLeftx11
import Derived.Test.YtaffjcaohbkmoaaPlain
import Derived.Test.YtaffjcaohbkmoaaGoalFnExactSegmentsLeft
set_option linter.unusedVariables false
set_option linter.unusedSimpArgs false
namespace Go.Proofs.Ytaffjcaohbkmoaa.Pure
open Go.RowKit Go.Proofs.Ytaffjcaohbkmoaa.QFnExactSegmentsLeft Go.Proofs.YtaffjcaohbkmoaaW.PrintWords Go.Proofs.YtaffjcaohbkmoaaW.PrintLast Go.Proofs.Ytaffjcaohbkmoaa.Plain Go.Proofs.Ytaffjcaohbkmoaa.GoalFnExactSegmentsLeft
theorem within_go (a b : List Bool) (hl : a.length = b.length) (hm : a.length ≤ 1048576) (d : Nat) : ∀ i : Nat, a.length - i ≤ d → ∃ r, Ev (fun k => spec_l5Within.l0 k a b (a.length : Int) (i : Int)) r ∧ Ev (fun k => impl_below.l0 k b a (a.length : Int) (i : Int)) r := by
  induction d with
  | zero =>
    intro i hd
    exact ⟨true, Ev.step (fun k => by rw [spec_l5Within.l0]) (Ev.ite_neg (by omega) (Ev.now _)), Ev.step (fun k => by rw [impl_below.l0]) (Ev.ite_neg (by omega) (Ev.now _))⟩
  | succ d ih =>
    intro i hd
    by_cases hlt : i < a.length
    case neg => exact ⟨true, Ev.step (fun k => by rw [spec_l5Within.l0]) (Ev.ite_neg (by omega) (Ev.now _)), Ev.step (fun k => by rw [impl_below.l0]) (Ev.ite_neg (by omega) (Ev.now _))⟩
    have hw : wrap64 ((i : Int) + 1) = ((i + 1 : Nat) : Int) := by rw [w64 (by omega) (by omega)]; omega
    have c0 : (i : Int) < (a.length : Int) := by omega
    have c1 : (0 : Int) ≤ (i : Int) := by omega
    have c2 : (i : Int) < (b.length : Int) := by omega
    obtain ⟨r, x, y⟩ := ih (i + 1) (by omega)
    rw [← hw] at x y
    by_cases h : rdOf false a (i : Int) = true
    · by_cases h2 : rdOf false b (i : Int) = true
      · exact ⟨r, Ev.step (fun k => by rw [spec_l5Within.l0]) (Ev.ite_pos c0 (Ev.ite_pos c1 (Ev.ite_pos c0 (Ev.ite_pos h (Ev.ite_pos c2 (Ev.ite_pos h2 x)))))), Ev.step (fun k => by rw [impl_below.l0]) (Ev.ite_pos c0 (Ev.ite_pos c1 (Ev.ite_pos c0 (Ev.ite_pos h (Ev.ite_pos c2 (Ev.ite_pos h2 y))))))⟩
      · exact ⟨false, Ev.step (fun k => by rw [spec_l5Within.l0]) (Ev.ite_pos c0 (Ev.ite_pos c1 (Ev.ite_pos c0 (Ev.ite_pos h (Ev.ite_pos c2 (Ev.ite_neg h2 (Ev.now _))))))), Ev.step (fun k => by rw [impl_below.l0]) (Ev.ite_pos c0 (Ev.ite_pos c1 (Ev.ite_pos c0 (Ev.ite_pos h (Ev.ite_pos c2 (Ev.ite_neg h2 (Ev.now _)))))))⟩
    · exact ⟨r, Ev.step (fun k => by rw [spec_l5Within.l0]) (Ev.ite_pos c0 (Ev.ite_pos c1 (Ev.ite_pos c0 (Ev.ite_neg h x)))), Ev.step (fun k => by rw [impl_below.l0]) (Ev.ite_pos c0 (Ev.ite_pos c1 (Ev.ite_pos c0 (Ev.ite_neg h y))))⟩
theorem within_both (a b : List Bool) (hm : a.length ≤ 1048576) : ∃ r, Ev (fun k => spec_l5Within.f k a b) r ∧ Ev (fun k => impl_below.f k a b) r := by
  simp only [spec_l5Within.f, impl_below.f]
  by_cases h : a.length = b.length
  · obtain ⟨r, x, y⟩ := within_go a b h hm a.length 0 (by omega)
    exact ⟨r, Ev.ite_pos (by omega) x, Ev.ite_pos (by omega) y⟩
  · exact ⟨false, Ev.ite_neg (by omega) (Ev.now _), Ev.ite_neg (by omega) (Ev.now _)⟩
theorem td_ (n : Nat) : Int.tdiv ((n : Int) + 8 - 1) 8 = (((n + 7) / 8 : Nat) : Int) := by
  have e : (n : Int) + 8 - 1 = ((n + 7 : Nat) : Int) := by omega
  rw [e]
  rfl
theorem many_val (n : Nat) (h : n ≤ 40) : wrap64 (Int.tdiv (wrap64 ((wrap64 ((n : Int) + 8)) - 1)) 8) = (((n + 7) / 8 : Nat) : Int) := by
  have e1 : wrap64 ((n : Int) + 8) = (n : Int) + 8 := w64 (by omega) (by omega)
  have e2 : wrap64 ((n : Int) + 8 - 1) = (n : Int) + 8 - 1 := w64 (by omega) (by omega)
  rw [e1, e2, td_]
  exact w64 (by omega) (by omega)
theorem strOf_bytesOf (e : ByteArray) : strOfNums (bytesOf e) = e := by
  apply str_ext
  rw [← ByteArray.toList_eq, strOfNums_toList, bytesOf, List.map_map]
  conv => rhs; rw [← List.map_id e.data.toList]
  apply List.map_congr_left
  intro b _
  simp
theorem segW (i : Nat) (hi : i ≤ 100) : wrap64 ((i : Int) * 8) = ((8 * i : Nat) : Int) ∧ wrap64 ((wrap64 ((i : Int) + 1)) * 8) = ((8 * i + 8 : Nat) : Int) := by
  have e1 : wrap64 ((i : Int) + 1) = (i : Int) + 1 := w64 (by omega) (by omega)
  have e2 : wrap64 ((i : Int) * 8) = (i : Int) * 8 := w64 (by omega) (by omega)
  have e3 : wrap64 (((i : Int) + 1) * 8) = ((i : Int) + 1) * 8 := w64 (by omega) (by omega)
  rw [e1, e2, e3]
  clear e1 e2 e3
  omega
theorem text_val (s : ByteArray) (p q : List Bool) (y : ByteArray) (dn : Bool) (wy bk : List S100) (i : Nat) (hs : s.size ≤ 40) (hi : 8 * i ≤ s.size) : spec_l5Text.f s p q y dn wy bk (i : Int) = some (s.extract (8 * i) (min s.size (8 * i + 8))) := by
  obtain ⟨w1, w2⟩ := segW i (by omega)
  simp only [spec_l5Text.f, w1, w2]
  clear w1 w2
  have c0 : (0 : Int) ≤ ((8 * i : Nat) : Int) := by omega
  by_cases h : ((8 * i + 8 : Nat) : Int) > (s.size : Int)
  · rw [if_pos h, if_pos c0, if_pos (by omega), if_pos (Int.le_refl _), Int.toNat_natCast, Int.toNat_natCast, show min s.size (8 * i + 8) = s.size by omega]
  · rw [if_neg h, if_pos c0, if_pos (by omega), if_pos (by omega), Int.toNat_natCast, Int.toNat_natCast, show min s.size (8 * i + 8) = 8 * i + 8 by omega]
theorem seg_val (s : ByteArray) (i : Nat) (hs : s.size ≤ 40) (hi : 8 * i ≤ s.size) : impl_segment.f s (i : Int) = some (s.extract (8 * i) (min s.size (8 * i + 8))) := by
  obtain ⟨w1, w2⟩ := segW i (by omega)
  have e : mn (s.size : Int) ((8 * i + 8 : Nat) : Int) = ((min s.size (8 * i + 8) : Nat) : Int) := by
    unfold mn
    by_cases h : ((8 * i + 8 : Nat) : Int) < (s.size : Int)
    · rw [if_pos h]; omega
    · rw [if_neg h]; omega
  simp only [impl_segment.f, w1, w2, e]
  clear w1 w2 e
  rw [if_pos (by omega), if_pos (by omega), if_pos (by omega), Int.toNat_natCast, Int.toNat_natCast]
theorem ses_seg (s : ByteArray) (got : List Bool) (i : Nat) (hl : i < got.length) (hi : 8 * i ≤ s.size) (X : List Int) (hX : X.length = min s.size (8 * i + 8) - 8 * i)
    (hg : ∀ j, j < X.length → X[j]? = some (if got.getD i false = true then bt s ((8 * i + j : Nat) : Int) else 0)) :
    (sesRow s got got.length).take (min s.size (8 * (i + 1))) = (sesRow s got got.length).take (min s.size (8 * i)) ++ X := by
  have em : min s.size (8 * i) = 8 * i := by omega
  have em2 : min (8 * i) s.size = 8 * i := by omega
  rw [em]
  apply List.ext_getElem?
  intro j
  rw [List.getElem?_take]
  by_cases h1 : j < 8 * i
  · rw [List.getElem?_append_left (by rw [List.length_take, sesRow_len]; omega), List.getElem?_take, if_pos h1, if_pos (by omega)]
  · rw [List.getElem?_append_right (by rw [List.length_take, sesRow_len]; omega), List.length_take, sesRow_len, em2]
    by_cases h2 : j < min s.size (8 * (i + 1))
    · rw [if_pos h2, sesRow_get _ _ _ _ (by omega), hg _ (by omega)]
      have h3 : j / 8 = i := by omega
      rw [h3, show 8 * i + (j - 8 * i) = j by omega]
      simp [hl]
    · rw [if_neg h2, List.getElem?_eq_none (by omega)]
theorem bytes_go (s : ByteArray) (p got : List Bool) (y : ByteArray) (dn : Bool) (wy bk : List S100) (hs : s.size ≤ 40) (hg : got.length = (s.size + 7) / 8) (d : Nat) : ∀ i : Nat, i ≤ got.length → got.length - i = d →
    Ev (fun k => spec_l5Bytes.l0 k (strOfNums ((sesRow s got got.length).take (min s.size (8 * i)))) (i : Int) s p got y dn wy bk) (strOfNums (sesRow s got got.length)) := by
  induction d with
  | zero =>
    intro i h0 hd
    refine Ev.step (fun k => by rw [spec_l5Bytes.l0]) ?_
    simp only [spec_l5Many.f, many_val _ hs, Option.bind_some]
    refine Ev.ite_neg (by omega) (Ev.now' ?_)
    rw [List.take_of_length_le (by rw [sesRow_len]; omega)]
  | succ d ih =>
    intro i h0 hd
    have c := ih (i + 1) (by omega) (by omega)
    have hw : wrap64 ((i : Int) + 1) = ((i + 1 : Nat) : Int) := by rw [w64 (by omega) (by omega)]; omega
    have hi : 8 * i ≤ s.size := by omega
    have hsz : (strOfNums ((sesRow s got got.length).take (min s.size (8 * i)))).size ≤ 40 := by rw [strOfNums_size, List.length_take]; omega
    have hts : (s.extract (8 * i) (min s.size (8 * i + 8))).size = min s.size (8 * i + 8) - 8 * i := by simp
    have fy : got.getD i false = true → (sesRow s got got.length).take (min s.size (8 * (i + 1))) = (sesRow s got got.length).take (min s.size (8 * i)) ++ bytesOf (s.extract (8 * i) (min s.size (8 * i + 8))) := fun h =>
      ses_seg s got i (by omega) hi _ (by rw [bytesOf_length, hts]) (fun j hj => by
        rw [bytesOf_length, hts] at hj
        rw [bytesOf_get _ _ (by rw [hts]; exact hj), bt_extract _ _ _ _ (by omega) (by omega), if_pos h])
    have fn : ¬ got.getD i false = true → (sesRow s got got.length).take (min s.size (8 * (i + 1))) = (sesRow s got got.length).take (min s.size (8 * i)) ++ List.replicate (s.extract (8 * i) (min s.size (8 * i + 8))).size 0 := fun h =>
      ses_seg s got i (by omega) hi _ (by rw [List.length_replicate, hts]) (fun j hj => by
        rw [List.length_replicate] at hj
        rw [List.getElem?_replicate, if_pos hj, if_neg h])
    have hr : rdOf false got (i : Int) = got.getD i false := by simp [rdOf]
    have htx := text_val s p got y dn wy bk i hs hi
    generalize s.extract (8 * i) (min s.size (8 * i + 8)) = te at hts fy fn htx
    generalize (sesRow s got got.length).take (min s.size (8 * (i + 1))) = X1 at c fy fn
    generalize (sesRow s got got.length).take (min s.size (8 * i)) = X0 at hsz fy fn ⊢
    generalize sesRow s got got.length = row at c ⊢
    have k0 : (i : Int) < (((s.size + 7) / 8 : Nat) : Int) := by omega
    have k1 : (0 : Int) ≤ (i : Int) := by omega
    have k2 : (i : Int) < (got.length : Int) := by omega
    have k3 : te.size ≤ 40 := by omega
    have k4 : (0 : Int) ≤ (te.size : Int) := by omega
    have k5 : (te.size : Int).toNat ≤ 281474976710656 := by omega
    have k6 : (strOfNums X0).size + te.size ≤ 9223372036854775807 := by omega
    have k7 : (strOfNums X0).size + (strOfNums (List.replicate te.size 0)).size ≤ 9223372036854775807 := by rw [strOfNums_size (List.replicate _ _), List.length_replicate]; omega
    rw [← hw] at c
    refine Ev.step (fun k => by rw [spec_l5Bytes.l0]) ?_
    simp only [spec_l5Many.f, many_val _ hs, Option.bind_some, htx]
    refine Ev.ite_pos k0 (Ev.ite_pos k1 (Ev.ite_pos k2 ?_))
    rw [hr]
    refine Ev.ite (fun h => ?_) fun h => ?_
    · rw [fy h, strOfNums_append, strOf_bytesOf] at c
      exact Ev.ite_pos k6 c
    · rw [fn h, strOfNums_append] at c
      refine Ev.ite_pos k4 (Ev.ite_pos k5 ?_)
      rw [Int.toNat_natCast]
      exact Ev.ite_pos k7 c
theorem bytes_val (s : ByteArray) (p got : List Bool) (y : ByteArray) (dn : Bool) (wy bk : List S100) (hs : s.size ≤ 40) (hg : got.length = (s.size + 7) / 8) : Ev (fun k => spec_l5Bytes.f k s p got y dn wy bk) (strOfNums (sesRow s got got.length)) := by
  have c := bytes_go s p got y dn wy bk hs hg got.length 0 (by omega) (by omega)
  have e0 : strOfNums ((sesRow s got got.length).take (min s.size (8 * 0))) = (⟨#[]⟩ : ByteArray) := by
    rw [show min s.size (8 * 0) = 0 by omega, List.take_zero]; rfl
  rw [e0] at c
  simp only [spec_l5Bytes.f]
  exact c
theorem implWithin (a b c : Int) : impl_within.f a b c = some (decide (b ≤ a ∧ a ≤ c)) := by
  unfold impl_within.f
  by_cases h : b ≤ a <;> simp [h]
section
variable (s : ByteArray) (p q : List Bool) (y : ByteArray) (dn : Bool) (wy bk : List S100)
theorem segBack (f0 f1 : Int) (f2 : ByteArray) (f3 : Bool) (f4 : List Bool) (h4 : f4.length ≤ 1048576) : ∃ t, Ev (fun k => spec_l5Segment.f k s p q y dn wy bk f0 f1 f2 f3 f4 true) t ∧ ∀ (X : Nat → Option Bool) (r : Bool), (t = true → Ev X r) → (t = false → r = false) →
    Ev (fun k => if f0 = 2 then (if f1 = 0 then (if f2.toList = ([] : List UInt8) then (if f3 = true then some false else (impl_below.f k f4 q).bind fun t230 => if t230 = true then X k else some false) else some false) else some false) else some false) r := by
  simp only [spec_l5Segment.f, if_true]
  by_cases h0 : f0 = 2
  case neg => exact ⟨false, Ev.ite_neg h0 (Ev.now _), fun X r _ h => by rw [h rfl]; exact Ev.ite_neg h0 (Ev.now _)⟩
  by_cases h1 : f1 = 0
  case neg => exact ⟨false, Ev.ite_pos h0 (Ev.ite_neg h1 (Ev.now _)), fun X r _ h => by rw [h rfl]; exact Ev.ite_pos h0 (Ev.ite_neg h1 (Ev.now _))⟩
  by_cases h2 : f2.toList = ([] : List UInt8)
  case neg => exact ⟨false, Ev.ite_pos h0 (Ev.ite_pos h1 (Ev.ite_neg h2 (Ev.now _))), fun X r _ h => by rw [h rfl]; exact Ev.ite_pos h0 (Ev.ite_pos h1 (Ev.ite_neg h2 (Ev.now _)))⟩
  by_cases h3 : f3 = true
  case pos => exact ⟨false, Ev.ite_pos h0 (Ev.ite_pos h1 (Ev.ite_pos h2 (Ev.ite_pos h3 (Ev.now _)))), fun X r _ h => by rw [h rfl]; exact Ev.ite_pos h0 (Ev.ite_pos h1 (Ev.ite_pos h2 (Ev.ite_pos h3 (Ev.now _))))⟩
  obtain ⟨t, a, b⟩ := within_both f4 q h4
  refine ⟨t, Ev.ite_pos h0 (Ev.ite_pos h1 (Ev.ite_pos h2 (Ev.ite_neg h3 (Ev.bind a (Ev.now _))))), fun X r g h => Ev.ite_pos h0 (Ev.ite_pos h1 (Ev.ite_pos h2 (Ev.ite_neg h3 (Ev.bind b ?_))))⟩
  cases t with
  | true => exact Ev.ite_pos rfl (g rfl)
  | false => rw [h rfl]; exact Ev.ite_neg (by decide) (Ev.now _)
theorem segWay (hs : s.size ≤ 40) (h1s : 1 ≤ s.size) (hq : q.length = (s.size + 7) / 8) (f0 f1 : Int) (f2 : ByteArray) (f3 : Bool) (f4 : List Bool) : ∃ t, Ev (fun k => spec_l5Segment.f k s p q y dn wy bk f0 f1 f2 f3 f4 false) t ∧ ∀ (X : Nat → Option Bool) (r : Bool), (t = true → Ev X r) → (t = false → r = false) →
    Ev (fun k => if f0 = 1 then (impl_within.f f1 0 (wrap64 ((q.length : Int) - 1))).bind (fun t226 => if t226 = true then (impl_segment.f s f1).bind (fun t227 => if f2.toList = t227.toList then (if (f4.length : Int) = 0 then X k else some false) else some false) else some false) else some false) r := by
  have hw : wrap64 ((q.length : Int) - 1) = (q.length : Int) - 1 := w64 (by omega) (by omega)
  simp only [spec_l5Segment.f, hw, implWithin, Option.bind_some, spec_l5Many.f, many_val _ hs, ← hq]
  clear hw
  by_cases h0 : f0 = 1
  case neg => exact ⟨false, Ev.ite_neg (by decide) (Ev.ite_neg h0 (Ev.now _)), fun X r _ h => by rw [h rfl]; exact Ev.ite_neg h0 (Ev.now _)⟩
  by_cases h1 : f1 ≥ 0
  case neg => exact ⟨false, Ev.ite_neg (by decide) (Ev.ite_pos h0 (Ev.ite_neg h1 (Ev.now _))), fun X r _ h => by rw [h rfl]; exact Ev.ite_pos h0 (Ev.ite_neg (by simp; omega) (Ev.now _))⟩
  by_cases h2 : f1 < (q.length : Int)
  case neg => exact ⟨false, Ev.ite_neg (by decide) (Ev.ite_pos h0 (Ev.ite_pos h1 (Ev.ite_neg h2 (Ev.now _)))), fun X r _ h => by rw [h rfl]; exact Ev.ite_pos h0 (Ev.ite_neg (by simp; omega) (Ev.now _))⟩
  obtain ⟨i, rfl⟩ := Int.eq_ofNat_of_zero_le h1
  have hi : 8 * i ≤ s.size := by omega
  have hd : decide ((0 : Int) ≤ (i : Int) ∧ (i : Int) ≤ (q.length : Int) - 1) = true := decide_eq_true (by omega)
  simp only [text_val s p q y dn wy bk i hs hi, seg_val s i hs hi, Option.bind_some]
  by_cases h3 : f2.toList = (s.extract (8 * i) (min s.size (8 * i + 8))).toList
  · refine ⟨((f4.length : Int) == 0), Ev.ite_neg (by decide) (Ev.ite_pos h0 (Ev.ite_pos h1 (Ev.ite_pos h2 (Ev.ite_pos h3 (Ev.now _))))), fun X r g h => Ev.ite_pos h0 (Ev.ite_pos hd (Ev.ite_pos h3 ?_))⟩
    by_cases h4 : (f4.length : Int) = 0
    · exact Ev.ite_pos h4 (g (by rw [h4]; rfl))
    · rw [h (beq_eq_false_iff_ne.mpr h4)]; exact Ev.ite_neg h4 (Ev.now _)
  · exact ⟨false, Ev.ite_neg (by decide) (Ev.ite_pos h0 (Ev.ite_pos h1 (Ev.ite_pos h2 (Ev.ite_neg h3 (Ev.now _))))), fun X r _ h => by rw [h rfl]; exact Ev.ite_pos h0 (Ev.ite_pos hd (Ev.ite_neg h3 (Ev.now _)))⟩
theorem back_go (l : List S100) (hl : l.length ≤ 1048576) (h4 : ∀ j : Nat, j < l.length → (rd_T100 l (j : Int)).f4.length ≤ 1048576) (d : Nat) : ∀ i : Nat, l.length - i ≤ d →
    ∃ r, Ev (fun k => spec_GoodSession.l1 k l (l.length : Int) (i : Int) s p q y dn wy bk) r ∧ Ev (fun k => impl_GoodSession.l1 k l (l.length : Int) (i : Int) s p q y dn wy bk) r := by
  induction d with
  | zero =>
    intro i hd
    exact ⟨true, Ev.step (fun k => by rw [spec_GoodSession.l1]) (Ev.ite_neg (by omega) (Ev.now _)), Ev.step (fun k => by rw [impl_GoodSession.l1]) (Ev.ite_neg (by omega) (Ev.now _))⟩
  | succ d ih =>
    intro i hd
    by_cases hlt : i < l.length
    case neg => exact ⟨true, Ev.step (fun k => by rw [spec_GoodSession.l1]) (Ev.ite_neg (by omega) (Ev.now _)), Ev.step (fun k => by rw [impl_GoodSession.l1]) (Ev.ite_neg (by omega) (Ev.now _))⟩
    have hw : wrap64 ((i : Int) + 1) = ((i + 1 : Nat) : Int) := by rw [w64 (by omega) (by omega)]; omega
    have c0 : (i : Int) < (l.length : Int) := by omega
    have c1 : (0 : Int) ≤ (i : Int) := by omega
    obtain ⟨t, a, b⟩ := segBack s p q y dn wy bk (rd_T100 l (i : Int)).f0 (rd_T100 l (i : Int)).f1 (rd_T100 l (i : Int)).f2 (rd_T100 l (i : Int)).f3 (rd_T100 l (i : Int)).f4 (h4 i hlt)
    obtain ⟨r, x, z⟩ := ih (i + 1) (by omega)
    rw [← hw] at x z
    cases t with
    | false =>
      refine ⟨false, Ev.step (fun k => by rw [spec_GoodSession.l1]) ?_, Ev.step (fun k => by rw [impl_GoodSession.l1]) (Ev.ite_pos c0 (Ev.ite_pos c1 (Ev.ite_pos c0 ?_)))⟩
      · refine Ev.ite_pos c0 (Ev.ite_pos c1 (Ev.ite_pos c0 (Ev.bind a ?_)))
        exact Ev.ite_neg (by decide) (Ev.now _)
      exact b _ false (fun h => by cases h) (fun _ => rfl)
    | true =>
      refine ⟨r, Ev.step (fun k => by rw [spec_GoodSession.l1]) ?_, Ev.step (fun k => by rw [impl_GoodSession.l1]) (Ev.ite_pos c0 (Ev.ite_pos c1 (Ev.ite_pos c0 ?_)))⟩
      · refine Ev.ite_pos c0 (Ev.ite_pos c1 (Ev.ite_pos c0 (Ev.bind a ?_)))
        exact Ev.ite_pos rfl x
      exact b (fun k => impl_GoodSession.l1 k l (l.length : Int) (wrap64 ((i : Int) + 1)) s p q y dn wy bk) r (fun _ => z) (fun h => by cases h)
theorem way_go (hs : s.size ≤ 40) (h1s : 1 ≤ s.size) (hq : q.length = (s.size + 7) / 8) (hbl : bk.length ≤ 1048576) (h4 : ∀ j : Nat, j < bk.length → (rd_T100 bk (j : Int)).f4.length ≤ 1048576)
    (l : List S100) (hl : l.length ≤ 1048576) (d : Nat) : ∀ i : Nat, l.length - i ≤ d →
    ∃ r, Ev (fun k => spec_GoodSession.l0 k l (l.length : Int) (i : Int) s p q y dn wy bk) r ∧ Ev (fun k => impl_GoodSession.l0 k l (l.length : Int) (i : Int) s p q y dn wy bk) r := by
  obtain ⟨r1, x1', z1'⟩ := back_go s p q y dn wy bk bk hbl h4 bk.length 0 (by omega)
  have x1 : Ev (fun k => spec_GoodSession.l1 k bk (bk.length : Int) 0 s p q y dn wy bk) r1 := x1'
  have z1 : Ev (fun k => impl_GoodSession.l1 k bk (bk.length : Int) 0 s p q y dn wy bk) r1 := z1'
  clear x1' z1'
  induction d with
  | zero =>
    intro i hd
    exact ⟨r1, Ev.step (fun k => by rw [spec_GoodSession.l0]) (Ev.ite_neg (by omega) x1), Ev.step (fun k => by rw [impl_GoodSession.l0]) (Ev.ite_neg (by omega) z1)⟩
  | succ d ih =>
    intro i hd
    by_cases hlt : i < l.length
    case neg => exact ⟨r1, Ev.step (fun k => by rw [spec_GoodSession.l0]) (Ev.ite_neg (by omega) x1), Ev.step (fun k => by rw [impl_GoodSession.l0]) (Ev.ite_neg (by omega) z1)⟩
    have hw : wrap64 ((i : Int) + 1) = ((i + 1 : Nat) : Int) := by rw [w64 (by omega) (by omega)]; omega
    have c0 : (i : Int) < (l.length : Int) := by omega
    have c1 : (0 : Int) ≤ (i : Int) := by omega
    obtain ⟨t, a, b⟩ := segWay s p q y dn wy bk hs h1s hq (rd_T100 l (i : Int)).f0 (rd_T100 l (i : Int)).f1 (rd_T100 l (i : Int)).f2 (rd_T100 l (i : Int)).f3 (rd_T100 l (i : Int)).f4
    obtain ⟨r, x, z⟩ := ih (i + 1) (by omega)
    rw [← hw] at x z
    cases t with
    | false =>
      refine ⟨false, Ev.step (fun k => by rw [spec_GoodSession.l0]) ?_, Ev.step (fun k => by rw [impl_GoodSession.l0]) (Ev.ite_pos c0 (Ev.ite_pos c1 (Ev.ite_pos c0 ?_)))⟩
      · refine Ev.ite_pos c0 (Ev.ite_pos c1 (Ev.ite_pos c0 (Ev.bind a ?_)))
        exact Ev.ite_neg (by decide) (Ev.now _)
      exact b _ false (fun h => by cases h) (fun _ => rfl)
    | true =>
      refine ⟨r, Ev.step (fun k => by rw [spec_GoodSession.l0]) ?_, Ev.step (fun k => by rw [impl_GoodSession.l0]) (Ev.ite_pos c0 (Ev.ite_pos c1 (Ev.ite_pos c0 ?_)))⟩
      · refine Ev.ite_pos c0 (Ev.ite_pos c1 (Ev.ite_pos c0 (Ev.bind a ?_)))
        exact Ev.ite_pos rfl x
      exact b (fun k => impl_GoodSession.l0 k l (l.length : Int) (wrap64 ((i : Int) + 1)) s p q y dn wy bk) r (fun _ => z) (fun h => by cases h)
end
theorem all_go (a : List Bool) (hm : a.length ≤ 1048576) (d : Nat) : ∀ i : Nat, a.length - i ≤ d → ∃ (r : Bool) (t : Int), Ev (fun k => spec_l5AllTrue.l0 k a (a.length : Int) (i : Int)) r ∧ Ev (fun k => slices_Index_bool_bool.l0 k a false (a.length : Int) (i : Int)) t ∧ r = !decide (t ≥ 0) := by
  induction d with
  | zero =>
    intro i hd
    exact ⟨true, -1, Ev.step (fun k => by rw [spec_l5AllTrue.l0]) (Ev.ite_neg (by omega) (Ev.now _)), Ev.step (fun k => by rw [slices_Index_bool_bool.l0]) (Ev.ite_neg (by omega) (Ev.now _)), by decide⟩
  | succ d ih =>
    intro i hd
    by_cases hlt : i < a.length
    case neg => exact ⟨true, -1, Ev.step (fun k => by rw [spec_l5AllTrue.l0]) (Ev.ite_neg (by omega) (Ev.now _)), Ev.step (fun k => by rw [slices_Index_bool_bool.l0]) (Ev.ite_neg (by omega) (Ev.now _)), by decide⟩
    have hw : wrap64 ((i : Int) + 1) = ((i + 1 : Nat) : Int) := by rw [w64 (by omega) (by omega)]; omega
    have c0 : (i : Int) < (a.length : Int) := by omega
    have c1 : (0 : Int) ≤ (i : Int) := by omega
    obtain ⟨r, t, x, y, e⟩ := ih (i + 1) (by omega)
    rw [← hw] at x y
    by_cases h : rdOf false a (i : Int) = true
    · exact ⟨r, t, Ev.step (fun k => by rw [spec_l5AllTrue.l0]) (Ev.ite_pos c0 (Ev.ite_pos c1 (Ev.ite_pos c0 (Ev.ite_pos h x)))), Ev.step (fun k => by rw [slices_Index_bool_bool.l0]) (Ev.ite_pos c0 (Ev.ite_pos c1 (Ev.ite_pos c0 (Ev.ite_neg (by rw [h]; decide) y)))), e⟩
    · have h' : rdOf false a (i : Int) = false := by simpa using h
      exact ⟨false, (i : Int), Ev.step (fun k => by rw [spec_l5AllTrue.l0]) (Ev.ite_pos c0 (Ev.ite_pos c1 (Ev.ite_pos c0 (Ev.ite_neg h (Ev.now _))))), Ev.step (fun k => by rw [slices_Index_bool_bool.l0]) (Ev.ite_pos c0 (Ev.ite_pos c1 (Ev.ite_pos c0 (Ev.ite_pos (by rw [h']; decide) (Ev.now _))))), by rw [decide_eq_true (show (i : Int) ≥ 0 by omega)]; rfl⟩
theorem all_both (a : List Bool) (hm : a.length ≤ 1048576) : ∃ r, Ev (fun k => spec_l5AllTrue.f k a) r ∧ Ev (fun k => impl_isAll.f k a) r := by
  obtain ⟨r, t, x, y, e⟩ := all_go a hm a.length 0 (by omega)
  simp only [spec_l5AllTrue.f, impl_isAll.f, slices_Contains_bool_bool.f, slices_Index_bool_bool.f]
  exact ⟨r, x, Ev.bind (Ev.bind y (Ev.now _)) (Ev.now' e.symm)⟩
theorem specIn (a b c : Int) : spec_l1In.f a b c = some (decide (b ≤ a ∧ a ≤ c)) := by
  unfold spec_l1In.f
  by_cases h : b ≤ a <;> simp [h]
structure SesIn (p q : List Bool) (wy bk : List S100) : Prop where
  hp : p.length ≤ 1048576
  hq : q.length ≤ 1048576
  hw : wy.length ≤ 1048576
  hb : bk.length ≤ 1048576
  hw4 : ∀ j : Nat, j < wy.length → (rd_T100 wy (j : Int)).f4.length ≤ 1048576
  hb4 : ∀ j : Nat, j < bk.length → (rd_T100 bk (j : Int)).f4.length ≤ 1048576
theorem sesLoops (s : ByteArray) (p q : List Bool) (y : ByteArray) (dn : Bool) (wy bk : List S100) (hs : s.size ≤ 40) (h1s : 1 ≤ s.size) (hq : q.length = (s.size + 7) / 8) (h : SesIn p q wy bk) :
    ∃ r, Ev (fun k => spec_GoodSession.j0 k false s p q y dn wy bk) r ∧ Ev (fun k => impl_GoodSession.j0 k false s p q y dn wy bk) r := by
  obtain ⟨r, x', z'⟩ := way_go s p q y dn wy bk hs h1s hq h.hb h.hb4 wy h.hw wy.length 0 (by omega)
  have x : Ev (fun k => spec_GoodSession.l0 k wy (wy.length : Int) 0 s p q y dn wy bk) r := x'
  have z : Ev (fun k => impl_GoodSession.l0 k wy (wy.length : Int) 0 s p q y dn wy bk) r := z'
  refine ⟨r, Ev.step (fun k => by rw [spec_GoodSession.j0]) ?_, Ev.step (fun k => by rw [impl_GoodSession.j0]) ?_⟩
  · exact Ev.ite_neg (by decide) x
  · exact Ev.ite_neg (by decide) z
theorem sesTail (s : ByteArray) (p q : List Bool) (y : ByteArray) (dn : Bool) (wy bk : List S100) (hs : s.size ≤ 40) (h1s : 1 ≤ s.size) (hq : q.length = (s.size + 7) / 8) (h : SesIn p q wy bk) (u : Bool) :
    ∃ r, Ev (fun k => if (dn != u) = true then spec_GoodSession.j0 k true s p q y dn wy bk else if (wy.length : Int) > 30 then spec_GoodSession.j0 k true s p q y dn wy bk else spec_GoodSession.j0 k (decide ((bk.length : Int) > 30)) s p q y dn wy bk) r ∧
      Ev (fun k => if (dn != u) = true then impl_GoodSession.j0 k true s p q y dn wy bk else if (wy.length : Int) > 30 then impl_GoodSession.j0 k true s p q y dn wy bk else impl_GoodSession.j0 k (decide ((bk.length : Int) > 30)) s p q y dn wy bk) r := by
  have noS : Ev (fun k => spec_GoodSession.j0 k true s p q y dn wy bk) false := Ev.step (fun k => by rw [spec_GoodSession.j0]) (Ev.ite_pos rfl (Ev.now _))
  have noI : Ev (fun k => impl_GoodSession.j0 k true s p q y dn wy bk) false := Ev.step (fun k => by rw [impl_GoodSession.j0]) (Ev.ite_pos rfl (Ev.now _))
  by_cases h4 : (dn != u) = true
  case pos => exact ⟨false, Ev.ite_pos h4 noS, Ev.ite_pos h4 noI⟩
  by_cases h5 : (wy.length : Int) > 30
  case pos => exact ⟨false, Ev.ite_neg h4 (Ev.ite_pos h5 noS), Ev.ite_neg h4 (Ev.ite_pos h5 noI)⟩
  by_cases h6 : (bk.length : Int) > 30
  case pos =>
    rw [decide_eq_true h6]
    exact ⟨false, Ev.ite_neg h4 (Ev.ite_neg h5 noS), Ev.ite_neg h4 (Ev.ite_neg h5 noI)⟩
  rw [decide_eq_false h6]
  obtain ⟨r, x, z⟩ := sesLoops s p q y dn wy bk hs h1s hq h
  exact ⟨r, Ev.ite_neg h4 (Ev.ite_neg h5 x), Ev.ite_neg h4 (Ev.ite_neg h5 z)⟩
theorem isBlock_val (s : ByteArray) : impl_isBlock.f s = some (decide (1 ≤ (s.size : Int) ∧ (s.size : Int) ≤ 40)) := by
  unfold impl_isBlock.f
  rw [implWithin]
  rfl
theorem sesMany (s : ByteArray) (p q : List Bool) (y : ByteArray) (dn : Bool) (wy bk : List S100) (hs : s.size ≤ 40) : spec_l5Many.f s p q y dn wy bk = some (((s.size + 7) / 8 : Nat) : Int) ∧ impl_many.f s = some (((s.size + 7) / 8 : Nat) : Int) := by
  unfold spec_l5Many.f impl_many.f
  rw [many_val _ hs]
  exact ⟨rfl, rfl⟩
theorem sesBytesI (s : ByteArray) (p q : List Bool) (y : ByteArray) (dn : Bool) (wy bk : List S100) (hs : s.size ≤ 40) (hq : q.length = (s.size + 7) / 8) : impl_Session_bytes.f s p q y dn wy bk = some (strOfNums (sesRow s q q.length)) := by
  unfold impl_Session_bytes.f
  exact if_pos ⟨hs, by omega⟩
theorem goodSession_both (s : ByteArray) (p q : List Bool) (y : ByteArray) (dn : Bool) (wy bk : List S100) (h : SesIn p q wy bk) : ∃ r, Ev (fun k => spec_GoodSession.f k s p q y dn wy bk) r ∧ Ev (fun k => impl_GoodSession.f k s p q y dn wy bk) r := by
  have noS : Ev (fun k => spec_GoodSession.j0 k true s p q y dn wy bk) false := Ev.step (fun k => by rw [spec_GoodSession.j0]) (Ev.ite_pos rfl (Ev.now _))
  have noI : Ev (fun k => impl_GoodSession.j0 k true s p q y dn wy bk) false := Ev.step (fun k => by rw [impl_GoodSession.j0]) (Ev.ite_pos rfl (Ev.now _))
  have e0 := specIn (s.size : Int) 1 40
  have e1 := isBlock_val s
  unfold spec_GoodSession.f impl_GoodSession.f
  by_cases h1 : 1 ≤ (s.size : Int) ∧ (s.size : Int) ≤ 40
  case neg =>
    rw [decide_eq_false h1] at e0 e1
    exact ⟨false, Ev.opt_bind e0 (Ev.ite_neg Bool.false_ne_true noS), Ev.opt_bind e1 (Ev.ite_neg Bool.false_ne_true noI)⟩
  rw [decide_eq_true h1] at e0 e1
  have hs : s.size ≤ 40 := by omega
  have h1s : 1 ≤ s.size := by omega
  obtain ⟨e2, e3⟩ := sesMany s p q y dn wy bk hs
  by_cases h2 : q.length = (s.size + 7) / 8
  case neg =>
    have h2' : ¬ (q.length : Int) = (((s.size + 7) / 8 : Nat) : Int) := by omega
    exact ⟨false, Ev.opt_bind e0 (Ev.ite_pos rfl (Ev.opt_bind e2 (Ev.ite_neg h2' noS))), Ev.opt_bind e1 (Ev.ite_pos rfl (Ev.opt_bind e3 (Ev.ite_neg h2' noI)))⟩
  have h2' : (q.length : Int) = (((s.size + 7) / 8 : Nat) : Int) := by omega
  have bS := bytes_val s p q y dn wy bk hs h2
  have bI := sesBytesI s p q y dn wy bk hs h2
  obtain ⟨t, a, b⟩ := within_both p q h.hp
  obtain ⟨u, aa, ab⟩ := all_both p h.hp
  obtain ⟨r, x, z⟩ := sesTail s p q y dn wy bk hs h1s h2 h u
  clear h h1 h2 hs h1s
  generalize (((s.size + 7) / 8 : Nat) : Int) = M at e2 e3 h2'
  generalize strOfNums (sesRow s q q.length) = B at bS bI
  cases t with
  | false => exact ⟨false, Ev.opt_bind e0 (Ev.ite_pos rfl (Ev.opt_bind e2 (Ev.ite_pos h2' (Ev.bind a (Ev.ite_neg Bool.false_ne_true noS))))), Ev.opt_bind e1 (Ev.ite_pos rfl (Ev.opt_bind e3 (Ev.ite_pos h2' (Ev.bind b (Ev.ite_neg Bool.false_ne_true noI)))))⟩
  | true =>
    by_cases h3 : y.toList = B.toList
    case neg => exact ⟨false, Ev.opt_bind e0 (Ev.ite_pos rfl (Ev.opt_bind e2 (Ev.ite_pos h2' (Ev.bind a (Ev.ite_pos rfl (Ev.bind bS (Ev.ite_neg h3 noS))))))), Ev.opt_bind e1 (Ev.ite_pos rfl (Ev.opt_bind e3 (Ev.ite_pos h2' (Ev.bind b (Ev.ite_pos rfl (Ev.opt_bind bI (Ev.ite_neg h3 noI)))))))⟩
    exact ⟨r, Ev.opt_bind e0 (Ev.ite_pos rfl (Ev.opt_bind e2 (Ev.ite_pos h2' (Ev.bind a (Ev.ite_pos rfl (Ev.bind bS (Ev.ite_pos h3 (Ev.bind aa x)))))))), Ev.opt_bind e1 (Ev.ite_pos rfl (Ev.opt_bind e3 (Ev.ite_pos h2' (Ev.bind b (Ev.ite_pos rfl (Ev.opt_bind bI (Ev.ite_pos h3 (Ev.bind ab z))))))))⟩
def segOf (x : S96) : S100 := ⟨x.f0, x.f1, x.f2, x.f3, x.f4⟩
theorem rdLs_eq (l : List S96) (i : Nat) (h : i < l.length) : rd_T96 l (i : Int) = l[i] := by
  simp [rd_T96, List.getD_eq_getElem?_getD, h]
theorem rdIs_eq (l : List S100) (i : Nat) (h : i < l.length) : rd_T100 l (i : Int) = l[i] := by
  simp [rd_T100, List.getD_eq_getElem?_getD, h]
theorem szBoolS_val (l : List Bool) (hl : l.length ≤ maxLen) (left : Int) (h0 : 0 ≤ left) (h1 : left ≤ 1048576) : laws_szBoolS.f l left = some (if left - (l.length : Int) < 0 then -1 else left - (l.length : Int)) := by
  unfold maxLen at hl
  unfold laws_szBoolS.f
  rw [w64 (by omega) (by omega)]
  by_cases h : left - (l.length : Int) < 0
  · rw [if_pos h, if_pos h]
  · rw [if_neg h, if_neg h]
theorem szSegment_val (f0 f1 : Int) (f2 : ByteArray) (f3 : Bool) (f4 : List Bool) (h2 : f2.size ≤ maxLen) (h4 : f4.length ≤ maxLen) (left : Int) (h0 : 0 ≤ left) (h1 : left ≤ 1048576) : ∃ r, laws_szSegment.f f0 f1 f2 f3 f4 left = some r ∧ (r < 0 ∨ 0 ≤ r ∧ r ≤ left ∧ f4.length ≤ 1048576) := by
  unfold maxLen at h2
  unfold laws_szSegment.f
  rw [w64 (x := left - (f2.size : Int)) (by omega) (by omega)]
  by_cases h : left - (f2.size : Int) < 0
  · exact ⟨-1, if_pos h, .inl (by omega)⟩
  · rw [if_neg h, szBoolS_val f4 h4 _ (by omega) (by omega), Option.bind_some]
    by_cases h' : left - (f2.size : Int) - (f4.length : Int) < 0
    · rw [if_pos h']; exact ⟨-1, if_pos (by omega), .inl (by omega)⟩
    · rw [if_neg h']; exact ⟨_, if_neg h', .inr (by omega)⟩
theorem szSegmentS_go (l : List S96) (hl : l.length ≤ 1048576) (hs : ∀ i : Nat, i < l.length → (rd_T96 l (i : Int)).f2.size ≤ maxLen ∧ (rd_T96 l (i : Int)).f4.length ≤ maxLen) (d : Nat) : ∀ (i : Nat) (left : Int), i ≤ l.length → l.length - i = d → 0 ≤ left → left ≤ 1048576 →
    ∃ r, Ev (fun k => laws_szSegmentS.l0 k l left (i : Int)) r ∧ (r < 0 ∨ 0 ≤ r ∧ r ≤ left ∧ ∀ j : Nat, i ≤ j → j < l.length → (rd_T96 l (j : Int)).f4.length ≤ 1048576) := by
  induction d with
  | zero =>
    intro i left h0 hd h1 h2
    exact ⟨left, Ev.step (fun k => by rw [laws_szSegmentS.l0]) (Ev.ite_neg (by omega) (Ev.now _)), .inr ⟨h1, Int.le_refl _, fun j h3 h4 => by omega⟩⟩
  | succ d ih =>
    intro i left h0 hd h1 h2
    have hi : i < l.length := by omega
    have hw : wrap64 ((i : Int) + 1) = ((i + 1 : Nat) : Int) := by rw [w64 (by omega) (by omega)]; omega
    obtain ⟨r, e, hr⟩ := szSegment_val (rd_T96 l (i : Int)).f0 (rd_T96 l (i : Int)).f1 (rd_T96 l (i : Int)).f2 (rd_T96 l (i : Int)).f3 (rd_T96 l (i : Int)).f4 (hs i hi).1 (hs i hi).2 left h1 h2
    rcases hr with hr | ⟨hr0, hr1, hr2⟩
    · refine ⟨-1, Ev.step (fun k => by rw [laws_szSegmentS.l0]) (Ev.ite_pos (by omega) (Ev.ite_pos (by omega) ?_)), .inl (by omega)⟩
      exact Ev.opt_bind e (Ev.ite_pos hr (Ev.now _))
    · obtain ⟨r2, x, y⟩ := ih (i + 1) r (by omega) (by omega) hr0 (by omega)
      rw [← hw] at x
      refine ⟨r2, Ev.step (fun k => by rw [laws_szSegmentS.l0]) (Ev.ite_pos (by omega) (Ev.ite_pos (by omega) ?_)), ?_⟩
      · exact Ev.opt_bind e (Ev.ite_neg (by omega) x)
      · rcases y with y | ⟨y0, y1, y2⟩
        · exact .inl y
        · refine .inr ⟨y0, by omega, fun j h3 h4 => ?_⟩
          rcases Nat.lt_or_ge i j with h5 | h5
          · exact y2 j h5 h4
          · obtain rfl : j = i := by omega
            exact hr2
theorem szSegmentS_val (l : List S96) (hl : l.length ≤ maxLen) (hs : ∀ i : Nat, i < l.length → (rd_T96 l (i : Int)).f2.size ≤ maxLen ∧ (rd_T96 l (i : Int)).f4.length ≤ maxLen) (left : Int) (h0 : 0 ≤ left) (h1 : left ≤ 1048576) :
    ∃ r, Ev (fun k => laws_szSegmentS.f k l left) r ∧ (r < 0 ∨ 0 ≤ r ∧ r ≤ left ∧ l.length ≤ 1048576 ∧ ∀ j : Nat, j < l.length → (rd_T96 l (j : Int)).f4.length ≤ 1048576) := by
  unfold maxLen at hl
  have hw : wrap64 (left - (l.length : Int)) = left - (l.length : Int) := w64 (by omega) (by omega)
  simp only [laws_szSegmentS.f, hw]
  by_cases h : left - (l.length : Int) < 0
  · exact ⟨-1, Ev.ite_pos h (Ev.now _), .inl (by omega)⟩
  · obtain ⟨r, x, y⟩ := szSegmentS_go l (by omega) hs l.length 0 (left - (l.length : Int)) (by omega) (by omega) (by omega) (by omega)
    refine ⟨r, Ev.ite_neg h x, ?_⟩
    rcases y with y | ⟨y0, y1, y2⟩
    · exact .inl y
    · exact .inr ⟨y0, by omega, by omega, fun j hj => y2 j (by omega) hj⟩
theorem szSession_val (s : ByteArray) (p q : List Bool) (y : ByteArray) (dn : Bool) (wy bk : List S96) (hs : s.size ≤ maxLen) (hp : p.length ≤ maxLen) (hq : q.length ≤ maxLen) (hy : y.size ≤ maxLen) (hw : wy.length ≤ maxLen) (hb : bk.length ≤ maxLen)
    (hw4 : ∀ i : Nat, i < wy.length → (rd_T96 wy (i : Int)).f2.size ≤ maxLen ∧ (rd_T96 wy (i : Int)).f4.length ≤ maxLen) (hb4 : ∀ i : Nat, i < bk.length → (rd_T96 bk (i : Int)).f2.size ≤ maxLen ∧ (rd_T96 bk (i : Int)).f4.length ≤ maxLen) :
    ∃ r, Ev (fun k => laws_szSession.f k s p q y dn wy bk 1048576) r ∧ (r < 0 ∨ p.length ≤ 1048576 ∧ q.length ≤ 1048576 ∧ wy.length ≤ 1048576 ∧ bk.length ≤ 1048576 ∧ (∀ j : Nat, j < wy.length → (rd_T96 wy (j : Int)).f4.length ≤ 1048576) ∧ ∀ j : Nat, j < bk.length → (rd_T96 bk (j : Int)).f4.length ≤ 1048576) := by
  have hs' := hs
  have hy' := hy
  unfold maxLen at hs' hy'
  have w1 : wrap64 (1048576 - (s.size : Int)) = 1048576 - (s.size : Int) := w64 (by omega) (by omega)
  simp only [laws_szSession.f, w1]
  by_cases h1 : 1048576 - (s.size : Int) < 0
  · exact ⟨-1, Ev.ite_pos h1 (Ev.now _), .inl (by omega)⟩
  have e2 := szBoolS_val p hp (1048576 - (s.size : Int)) (by omega) (by omega)
  by_cases h2 : 1048576 - (s.size : Int) - (p.length : Int) < 0
  · rw [if_pos h2] at e2
    exact ⟨-1, Ev.ite_neg h1 (Ev.opt_bind e2 (Ev.ite_pos (by omega) (Ev.now _))), .inl (by omega)⟩
  rw [if_neg h2] at e2
  have e3 := szBoolS_val q hq (1048576 - (s.size : Int) - (p.length : Int)) (by omega) (by omega)
  by_cases h3 : 1048576 - (s.size : Int) - (p.length : Int) - (q.length : Int) < 0
  · rw [if_pos h3] at e3
    exact ⟨-1, Ev.ite_neg h1 (Ev.opt_bind e2 (Ev.ite_neg h2 (Ev.opt_bind e3 (Ev.ite_pos (by omega) (Ev.now _))))), .inl (by omega)⟩
  rw [if_neg h3] at e3
  have w4 : wrap64 (1048576 - (s.size : Int) - (p.length : Int) - (q.length : Int) - (y.size : Int)) = 1048576 - (s.size : Int) - (p.length : Int) - (q.length : Int) - (y.size : Int) := w64 (by omega) (by omega)
  by_cases h4 : 1048576 - (s.size : Int) - (p.length : Int) - (q.length : Int) - (y.size : Int) < 0
  · exact ⟨-1, Ev.ite_neg h1 (Ev.opt_bind e2 (Ev.ite_neg h2 (Ev.opt_bind e3 (Ev.ite_neg h3 (by rw [w4]; exact Ev.ite_pos h4 (Ev.now _)))))), .inl (by omega)⟩
  obtain ⟨r5, x5, y5⟩ := szSegmentS_val wy hw hw4 (1048576 - (s.size : Int) - (p.length : Int) - (q.length : Int) - (y.size : Int)) (by omega) (by omega)
  rcases y5 with y5 | ⟨y50, y51, y52, y53⟩
  · exact ⟨-1, Ev.ite_neg h1 (Ev.opt_bind e2 (Ev.ite_neg h2 (Ev.opt_bind e3 (Ev.ite_neg h3 (by rw [w4]; exact Ev.ite_neg h4 (Ev.bind x5 (Ev.ite_pos y5 (Ev.now _)))))))), .inl (by omega)⟩
  obtain ⟨r6, x6, y6⟩ := szSegmentS_val bk hb hb4 r5 y50 (by omega)
  rcases y6 with y6 | ⟨y60, y61, y62, y63⟩
  · exact ⟨-1, Ev.ite_neg h1 (Ev.opt_bind e2 (Ev.ite_neg h2 (Ev.opt_bind e3 (Ev.ite_neg h3 (by rw [w4]; exact Ev.ite_neg h4 (Ev.bind x5 (Ev.ite_neg (by omega) (Ev.bind x6 (Ev.ite_pos y6 (Ev.now _)))))))))), .inl (by omega)⟩
  · exact ⟨r6, Ev.ite_neg h1 (Ev.opt_bind e2 (Ev.ite_neg h2 (Ev.opt_bind e3 (Ev.ite_neg h3 (by rw [w4]; exact Ev.ite_neg h4 (Ev.bind x5 (Ev.ite_neg (by omega) (Ev.bind x6 (Ev.ite_neg (by omega) (Ev.now _)))))))))), .inr ⟨by omega, by omega, y52, y62, y53, y63⟩⟩
theorem toBoolS_go (l : List Bool) (hl : l.length ≤ 1048576) (d : Nat) : ∀ i : Nat, i ≤ l.length → l.length - i = d → Ev (fun k => laws_toBoolS.l0 k l (l.take i ++ List.replicate (l.length - i) false) (i : Int)) l := by
  induction d with
  | zero =>
    intro i h0 hd
    obtain rfl : i = l.length := by omega
    refine Ev.step (fun k => by rw [laws_toBoolS.l0]) ?_
    exact Ev.ite_neg (by omega) (Ev.now' (by rw [Nat.sub_self, List.replicate_zero, List.append_nil, List.take_of_length_le (by omega)]))
  | succ d ih =>
    intro i h0 hd
    have hlt : i < l.length := by omega
    have hw : wrap64 ((i : Int) + 1) = ((i + 1 : Nat) : Int) := by rw [w64 (by omega) (by omega)]; omega
    have hlen : (l.take i ++ List.replicate (l.length - i) false).length = l.length := by simp; omega
    have a := ih (i + 1) (by omega) (by omega)
    rw [← fill_step l false i hlt] at a
    have hr : rdOf false l (i : Int) = l[i] := by simp [rdOf, List.getD_eq_getElem?_getD, hlt]
    refine Ev.step (fun k => by rw [laws_toBoolS.l0]) ?_
    refine Ev.ite_pos (by omega) (Ev.ite_pos (by omega) (Ev.ite_pos (by rw [hlen]; omega) ?_))
    rw [hw, hr, Int.toNat_natCast]
    exact a
theorem toBoolS_val (l : List Bool) (hl : l.length ≤ 1048576) : Ev (fun k => laws_toBoolS.f k l) l := by
  have := toBoolS_go l hl l.length 0 (by omega) (by omega)
  simp only [laws_toBoolS.f, Int.toNat_natCast]
  refine Ev.ite_pos (by omega) (Ev.ite_pos (by omega) ?_)
  simpa using this
theorem toSegmentS_go (l : List S96) (hl : l.length ≤ 1048576) (h4 : ∀ j : Nat, j < l.length → (rd_T96 l (j : Int)).f4.length ≤ 1048576) (d : Nat) : ∀ i : Nat, i ≤ l.length → l.length - i = d → Ev (fun k => laws_toSegmentS.l0 k l ((l.map segOf).take i ++ List.replicate ((l.map segOf).length - i) z100) (i : Int)) (l.map segOf) := by
  induction d with
  | zero =>
    intro i h0 hd
    obtain rfl : i = l.length := by omega
    refine Ev.step (fun k => by rw [laws_toSegmentS.l0]) ?_
    exact Ev.ite_neg (by omega) (Ev.now' (by rw [List.length_map, Nat.sub_self, List.replicate_zero, List.append_nil, List.take_of_length_le (by simp)]))
  | succ d ih =>
    intro i h0 hd
    have hlt : i < l.length := by omega
    have hlt2 : i < (l.map segOf).length := by simpa using hlt
    have hw : wrap64 ((i : Int) + 1) = ((i + 1 : Nat) : Int) := by rw [w64 (by omega) (by omega)]; omega
    have hlen : ((l.map segOf).take i ++ List.replicate ((l.map segOf).length - i) z100).length = l.length := by simp; omega
    have a := ih (i + 1) (by omega) (by omega)
    rw [← fill_step (l.map segOf) z100 i hlt2] at a
    have h4i := h4 i hlt
    rw [rdLs_eq l i hlt] at h4i
    refine Ev.step (fun k => by rw [laws_toSegmentS.l0]) ?_
    refine Ev.ite_pos (by omega) (Ev.ite_pos (by omega) ?_)
    simp only [laws_toSegment.f, hw, Int.toNat_natCast, rdLs_eq l i hlt]
    refine Ev.bind (Ev.bind (toBoolS_val _ h4i) (Ev.now _)) ?_
    refine Ev.ite_pos (by rw [hlen]; omega) ?_
    have e : (l.map segOf)[i] = (⟨l[i].f0, l[i].f1, l[i].f2, l[i].f3, l[i].f4⟩ : S100) := by simp [segOf]
    rw [e] at a
    exact a
theorem toSegmentS_val (l : List S96) (hl : l.length ≤ 1048576) (h4 : ∀ j : Nat, j < l.length → (rd_T96 l (j : Int)).f4.length ≤ 1048576) : Ev (fun k => laws_toSegmentS.f k l) (l.map segOf) := by
  have := toSegmentS_go l hl h4 l.length 0 (by omega) (by omega)
  simp only [laws_toSegmentS.f, Int.toNat_natCast]
  refine Ev.ite_pos (by omega) (Ev.ite_pos (by omega) ?_)
  simpa using this
theorem seg4_map (l : List S96) (h4 : ∀ j : Nat, j < l.length → (rd_T96 l (j : Int)).f4.length ≤ 1048576) : ∀ j : Nat, j < (l.map segOf).length → (rd_T100 (l.map segOf) (j : Int)).f4.length ≤ 1048576 := by
  intro j hj
  have hj' : j < l.length := by simpa using hj
  have := h4 j hj'
  rw [rdLs_eq l j hj'] at this
  rw [rdIs_eq _ j hj]
  simpa [segOf] using this
theorem eqBool_go (l : List Bool) (hl : l.length ≤ 1048576) (d : Nat) : ∀ i : Nat, l.length - i ≤ d → Ev (fun k => laws_eqBoolS.l0 k l l (i : Int)) true := by
  induction d with
  | zero =>
    intro i hd
    exact Ev.step (fun k => by rw [laws_eqBoolS.l0]) (Ev.ite_neg (by omega) (Ev.now _))
  | succ d ih =>
    intro i hd
    by_cases hlt : i < l.length
    case neg => exact Ev.step (fun k => by rw [laws_eqBoolS.l0]) (Ev.ite_neg (by omega) (Ev.now _))
    have hw : wrap64 ((i : Int) + 1) = ((i + 1 : Nat) : Int) := by rw [w64 (by omega) (by omega)]; omega
    have := ih (i + 1) (by omega)
    rw [← hw] at this
    refine Ev.step (fun k => by rw [laws_eqBoolS.l0]) ?_
    exact Ev.ite_pos (by omega) (Ev.ite_pos (by omega) (Ev.ite_pos (by omega) (Ev.ite_neg (by simp) this)))
theorem eqBool_self (l : List Bool) (hl : l.length ≤ 1048576) : Ev (fun k => laws_eqBoolS.f k l l) true := by
  simp only [laws_eqBoolS.f, if_true]
  exact eqBool_go l hl l.length 0 (by omega)
theorem eqSeg_go (l : List S100) (hl : l.length ≤ 1048576) (h4 : ∀ j : Nat, j < l.length → (rd_T100 l (j : Int)).f4.length ≤ 1048576) (d : Nat) : ∀ i : Nat, l.length - i ≤ d → Ev (fun k => laws_eqSegmentS.l0 k l l (i : Int)) true := by
  induction d with
  | zero =>
    intro i hd
    exact Ev.step (fun k => by rw [laws_eqSegmentS.l0]) (Ev.ite_neg (by omega) (Ev.now _))
  | succ d ih =>
    intro i hd
    by_cases hlt : i < l.length
    case neg => exact Ev.step (fun k => by rw [laws_eqSegmentS.l0]) (Ev.ite_neg (by omega) (Ev.now _))
    have hw : wrap64 ((i : Int) + 1) = ((i + 1 : Nat) : Int) := by rw [w64 (by omega) (by omega)]; omega
    have := ih (i + 1) (by omega)
    rw [← hw] at this
    have e : Ev (fun k => laws_eqSegment.f k (rd_T100 l (i : Int)).f0 (rd_T100 l (i : Int)).f1 (rd_T100 l (i : Int)).f2 (rd_T100 l (i : Int)).f3 (rd_T100 l (i : Int)).f4 (rd_T100 l (i : Int)).f0 (rd_T100 l (i : Int)).f1 (rd_T100 l (i : Int)).f2 (rd_T100 l (i : Int)).f3 (rd_T100 l (i : Int)).f4) true := by
      simp only [laws_eqSegment.f, if_true]
      exact Ev.ite_neg (by simp) (Ev.bind (eqBool_self _ (h4 i hlt)) (Ev.ite_pos rfl (Ev.now _)))
    refine Ev.step (fun k => by rw [laws_eqSegmentS.l0]) ?_
    exact Ev.ite_pos (by omega) (Ev.ite_pos (by omega) (Ev.ite_pos (by omega) (Ev.bind e (Ev.ite_pos rfl this))))
theorem eqSeg_self (l : List S100) (hl : l.length ≤ 1048576) (h4 : ∀ j : Nat, j < l.length → (rd_T100 l (j : Int)).f4.length ≤ 1048576) : Ev (fun k => laws_eqSegmentS.f k l l) true := by
  simp only [laws_eqSegmentS.f, if_true]
  exact eqSeg_go l hl h4 l.length 0 (by omega)
theorem eqSes_self (s : ByteArray) (p q : List Bool) (y : ByteArray) (dn : Bool) (wy bk : List S100) (h : SesIn p q wy bk) : Ev (fun k => laws_eqSession.f k s p q y dn wy bk s p q y dn wy bk) true := by
  simp only [laws_eqSession.f, if_true]
  refine Ev.bind (eqBool_self p h.hp) (Ev.ite_pos rfl (Ev.bind (eqBool_self q h.hq) (Ev.ite_pos rfl (Ev.ite_neg (by simp) ?_))))
  exact Ev.bind (eqSeg_self wy h.hw h.hw4) (Ev.ite_pos rfl (Ev.bind (eqSeg_self bk h.hb h.hb4) (Ev.ite_pos rfl (Ev.now _))))
theorem ses_told (s : ByteArray) (p q : List Bool) (y : ByteArray) (dn : Bool) (wy bk : List S96) (hs : s.size ≤ maxLen) (hp : p.length ≤ maxLen) (hq : q.length ≤ maxLen) (hy : y.size ≤ maxLen) (hw : wy.length ≤ maxLen ∧ ∀ x ∈ wy, ok96 x) (hb : bk.length ≤ maxLen ∧ ∀ x ∈ bk, ok96 x) :
    ∃ r, Ev (fun k => laws_szSession.f k s p q y dn wy bk 1048576) r ∧ (r < 0 ∨ ¬ r < 0 ∧ SesIn p q (wy.map segOf) (bk.map segOf) ∧ Ev (fun k => laws_toSession.f k s p q y dn wy bk) (s, p, q, y, dn, wy.map segOf, bk.map segOf)) := by
  have tell : ∀ l : List S96, (∀ x ∈ l, ok96 x) → ∀ i : Nat, i < l.length → (rd_T96 l (i : Int)).f2.size ≤ maxLen ∧ (rd_T96 l (i : Int)).f4.length ≤ maxLen := fun l h i hi => by
    rw [rdLs_eq l i hi]
    have := h _ (List.getElem_mem hi)
    exact ⟨this.2.2.1, this.2.2.2.2.1⟩
  obtain ⟨r, x, z⟩ := szSession_val s p q y dn wy bk hs hp hq hy hw.1 hb.1 (tell wy hw.2) (tell bk hb.2)
  refine ⟨r, x, ?_⟩
  by_cases hr : r < 0
  · exact .inl hr
  rcases z with z | ⟨z1, z2, z3, z4, z5, z6⟩
  · exact .inl z
  refine .inr ⟨hr, ⟨z1, z2, by simpa using z3, by simpa using z4, seg4_map wy z5, seg4_map bk z6⟩, ?_⟩
  simp only [laws_toSession.f]
  exact Ev.bind (toBoolS_val p z1) (Ev.bind (toBoolS_val q z2) (Ev.bind (toSegmentS_val wy z3 z5) (Ev.bind (toSegmentS_val bk z4 z6) (Ev.now _))))
theorem eqIntS_go (l : List Int) (hl : l.length ≤ 4611686018427387904) (d : Nat) : ∀ i : Int, 0 ≤ i → (l.length : Int) - i = d → Ev (fun k => laws_eqIntS.l0 k l l i) true := by
  induction d with
  | zero =>
    intro i h0 hd
    refine Ev.step (fun k => by rw [laws_eqIntS.l0]) ?_
    simp only [if_neg (show ¬ i < (l.length : Int) by omega)]
    exact Ev.now _
  | succ d ih =>
    intro i h0 hd
    refine Ev.step (fun k => by rw [laws_eqIntS.l0]) ?_
    simp only [if_pos (show i < (l.length : Int) by omega), if_pos h0, if_true, w64 (show -9223372036854775808 ≤ i + 1 by omega) (show i + 1 ≤ 9223372036854775807 by omega)]
    exact ih (i + 1) (by omega) (by omega)
theorem eqIntS_self (l : List Int) (hl : l.length ≤ 4611686018427387904) : Ev (fun k => laws_eqIntS.f k l l) true := by
  simp only [laws_eqIntS.f, if_true]
  exact eqIntS_go l hl l.length 0 (by omega) (by omega)
theorem markIntS_go (n : Nat) (hn : n ≤ 4611686018427387904) (d : Nat) : ∀ (l : List Int) (i : Nat), l.length = n → i ≤ n → n - i = d → (∀ j, j < i → rd l (j : Int) = 1 + j) →
    ∃ l' : List Int, l'.length = n ∧ (∀ j, j < n → rd l' (j : Int) = 1 + j) ∧ Ev (fun k => laws_markIntS.l0 k l (1 + (i : Int)) (i : Int)) (1 + (n : Int), l') := by
  induction d with
  | zero =>
    intro l i h1 h2 hd hj
    obtain rfl : i = n := by omega
    refine ⟨l, h1, hj, ?_⟩
    refine Ev.step (fun k => by rw [laws_markIntS.l0]) ?_
    simp only [if_neg (show ¬ (i : Int) < (l.length : Int) by omega)]
    exact Ev.now _
  | succ d ih =>
    intro l i h1 h2 hd hj
    obtain ⟨l', a, b, c⟩ := ih (l.set i (1 + i)) (i + 1) (by simpa using h1) (by omega) (by omega) (fun j hj' => by
      rcases Nat.lt_or_ge j i with h | h
      · rw [rd_set_ne _ _ _ (by omega)]; exact hj j h
      · obtain rfl : j = i := by omega
        exact rd_set_same l j (by omega) _)
    refine ⟨l', a, b, ?_⟩
    refine Ev.step (fun k => by rw [laws_markIntS.l0]) ?_
    simp only [if_pos (show (i : Int) < (l.length : Int) by omega), if_pos (show (0 : Int) ≤ (i : Int) by omega), Int.toNat_natCast, w64 (show -9223372036854775808 ≤ (i : Int) + 1 by omega) (show (i : Int) + 1 ≤ 9223372036854775807 by omega), w64 (show -9223372036854775808 ≤ 1 + (i : Int) + 1 by omega) (show 1 + (i : Int) + 1 ≤ 9223372036854775807 by omega)]
    have e : 1 + (i : Int) + 1 = 1 + ((i + 1 : Nat) : Int) := by omega
    rw [e]
    exact c
theorem heldIntS_go (n : Nat) (hn : n ≤ 4611686018427387904) (l : List Int) (hl : l.length = n) (hj : ∀ j, j < n → rd l (j : Int) = 1 + j) (d : Nat) : ∀ (i : Nat), i ≤ n → n - i = d →
    Ev (fun k => laws_heldIntS.l0 k l (1 + (i : Int)) (i : Int)) (1 + (n : Int)) := by
  induction d with
  | zero =>
    intro i h2 hd
    obtain rfl : i = n := by omega
    refine Ev.step (fun k => by rw [laws_heldIntS.l0]) ?_
    simp only [if_neg (show ¬ (i : Int) < (l.length : Int) by omega)]
    exact Ev.now _
  | succ d ih =>
    intro i h2 hd
    have c := ih (i + 1) (by omega) (by omega)
    refine Ev.step (fun k => by rw [laws_heldIntS.l0]) ?_
    simp only [if_pos (show (i : Int) < (l.length : Int) by omega), if_pos (show (0 : Int) ≤ (i : Int) by omega), hj i (by omega), if_true, w64 (show -9223372036854775808 ≤ (i : Int) + 1 by omega) (show (i : Int) + 1 ≤ 9223372036854775807 by omega), w64 (show -9223372036854775808 ≤ 1 + (i : Int) + 1 by omega) (show 1 + (i : Int) + 1 ≤ 9223372036854775807 by omega)]
    have e : 1 + (i : Int) + 1 = 1 + ((i + 1 : Nat) : Int) := by omega
    rw [e]
    exact c
theorem markIntS_held (l : List Int) (hl : l.length ≤ 4611686018427387904) : ∃ l' : List Int, Ev (fun k => laws_markIntS.f k l 1) (1 + (l.length : Int), l') ∧ Ev (fun k => laws_heldIntS.f k l' 1) (1 + (l.length : Int)) := by
  obtain ⟨l', a, b, c⟩ := markIntS_go l.length hl l.length l 0 rfl (by omega) (by omega) (fun j hj => by omega)
  refine ⟨l', ?_, ?_⟩
  · simp only [laws_markIntS.f]; exact c
  · simp only [laws_heldIntS.f]; exact heldIntS_go l.length hl l' a b l.length 0 (by omega) (by omega)
theorem left_go (p : List Bool) (hp : p.length ≤ 1048576) (d : Nat) : ∀ (i : Nat) (out : List Int), p.length - i ≤ d → i ≤ p.length → out.length ≤ i →
    ∃ v : List Int, Ev (fun k => spec_l5Left.l0 k out p (p.length : Int) (i : Int)) v ∧ Ev (fun k => impl_Session_left.l0 k out p (p.length : Int) (i : Int)) v ∧ v.length ≤ p.length := by
  induction d with
  | zero =>
    intro i out hd hi ho
    exact ⟨out, Ev.step (fun k => by rw [spec_l5Left.l0]) (Ev.ite_neg (by omega) (Ev.now _)), Ev.step (fun k => by rw [impl_Session_left.l0]) (Ev.ite_neg (by omega) (Ev.now _)), by omega⟩
  | succ d ih =>
    intro i out hd hi ho
    by_cases hlt : i < p.length
    case neg => exact ⟨out, Ev.step (fun k => by rw [spec_l5Left.l0]) (Ev.ite_neg (by omega) (Ev.now _)), Ev.step (fun k => by rw [impl_Session_left.l0]) (Ev.ite_neg (by omega) (Ev.now _)), by omega⟩
    have hw : wrap64 ((i : Int) + 1) = ((i + 1 : Nat) : Int) := by rw [w64 (by omega) (by omega)]; omega
    by_cases hr : rdOf false p (i : Int) = true
    · obtain ⟨v, a, b, c⟩ := ih (i + 1) out (by omega) (by omega) (by omega)
      rw [← hw] at a b
      exact ⟨v, Ev.step (fun k => by rw [spec_l5Left.l0]) (Ev.ite_pos (by omega) (Ev.ite_pos (by omega) (Ev.ite_pos (by omega) (Ev.ite_pos hr a)))), Ev.step (fun k => by rw [impl_Session_left.l0]) (Ev.ite_pos (by omega) (Ev.ite_pos (by omega) (Ev.ite_pos (by omega) (Ev.ite_pos hr b)))), c⟩
    · obtain ⟨v, a, b, c⟩ := ih (i + 1) (out ++ [(i : Int)]) (by omega) (by omega) (by simp; omega)
      rw [← hw] at a b
      exact ⟨v, Ev.step (fun k => by rw [spec_l5Left.l0]) (Ev.ite_pos (by omega) (Ev.ite_pos (by omega) (Ev.ite_pos (by omega) (Ev.ite_neg hr (Ev.ite_pos (by omega) a))))), Ev.step (fun k => by rw [impl_Session_left.l0]) (Ev.ite_pos (by omega) (Ev.ite_pos (by omega) (Ev.ite_pos (by omega) (Ev.ite_neg hr (Ev.ite_pos (by omega) b))))), c⟩
theorem segmentsLeft_both (s : ByteArray) (p q : List Bool) (y : ByteArray) (dn : Bool) (wy bk : List S100) (h : SesIn p q wy bk) :
    ∃ v : List Int × Bool, Ev (fun k => spec_SegmentsLeft.f k s p q y dn wy bk) v ∧ Ev (fun k => impl_SegmentsLeft.f k s p q y dn wy bk) v ∧ v.1.length ≤ 1048576 := by
  obtain ⟨t, a, b⟩ := goodSession_both s p q y dn wy bk h
  simp only [spec_SegmentsLeft.f, impl_SegmentsLeft.f]
  cases t with
  | false => exact ⟨([], false), Ev.bind a (Ev.ite_neg (by decide) (Ev.now _)), Ev.bind b (Ev.ite_neg (by decide) (Ev.now _)), by simp⟩
  | true =>
    obtain ⟨v, c, e, hv⟩ := left_go p h.hp p.length 0 [] (by omega) (by omega) (by simp)
    have c' : Ev (fun k => spec_l5Left.f k s p q y dn wy bk) v := c
    have e' : Ev (fun k => impl_Session_left.f k s p q y dn wy bk) v := e
    have := h.hp
    exact ⟨(v, true), Ev.bind a (Ev.ite_pos rfl (Ev.bind c' (Ev.now _))), Ev.bind b (Ev.ite_pos rfl (Ev.bind e' (Ev.now _))), by show v.length ≤ _; omega⟩
theorem segSum_bd : ∀ l : List S100, (∀ x ∈ l, x.f4.length ≤ 1048576) → segSum (gots l) ≤ (l.length : Int) * 1048580
  | [], _ => by simp [gots, segSum]
  | x :: t, h => by
    have h1 := segSum_bd t (fun y hy => h y (List.mem_cons_of_mem _ hy))
    have h2 := h x List.mem_cons_self
    simp only [gots, List.map_cons, segSum, List.length_cons] at h1 ⊢
    omega
theorem mark_some (s : ByteArray) (p q : List Bool) (y : ByteArray) (dn : Bool) (wy bk : List S100) (h : SesIn p q wy bk) : ∃ m, laws_markSession.f s p q y dn wy bk 1 = some m ∧ 0 ≤ m := by
  have all : ∀ l : List S100, (∀ j : Nat, j < l.length → (rd_T100 l (j : Int)).f4.length ≤ 1048576) → ∀ x ∈ l, x.f4.length ≤ 1048576 := fun l hl x hx => by
    obtain ⟨j, hj, rfl⟩ := List.mem_iff_getElem.1 hx
    have := hl j hj
    rw [rdIs_eq l j hj] at this
    exact this
  have h1 := segSum_bd wy (all wy h.hw4)
  have h2 := segSum_bd bk (all bk h.hb4)
  have := h.hp; have := h.hq; have := h.hw; have := h.hb
  have := segSum_nonneg (gots wy); have := segSum_nonneg (gots bk)
  exact ⟨_, if_pos ⟨by omega, by omega⟩, by omega⟩
theorem FnExactSegmentsLeft : Go.Proofs.Ytaffjcaohbkmoaa.GoalFnExactSegmentsLeft.Goal := by
  intro s p q y dn wy bk hs hp hq hy hw hb
  refine Ev.rounds ?_
  simp only [laws_FnExactSegmentsLeft.f]
  obtain ⟨r, x, z⟩ := ses_told s p q y dn wy bk hs hp.1 hq.1 hy hw hb
  refine Ev.bind x ?_
  rcases z with z | ⟨z0, z1, z2⟩
  · exact Ev.ite_pos z (Ev.now _)
  refine Ev.ite_neg z0 ?_
  obtain ⟨v, a, b, hv⟩ := segmentsLeft_both s p q y dn (wy.map segOf) (bk.map segOf) z1
  obtain ⟨l', m1, m2⟩ := markIntS_held v.1 (by omega)
  obtain ⟨m, hm, hm0⟩ := mark_some s p q y dn (wy.map segOf) (bk.map segOf) z1
  have es := eqIntS_self v.1 (by omega)
  refine Ev.bind z2 (Ev.bind a (Ev.bind z2 (Ev.bind b (Ev.bind es (Ev.ite_pos rfl ?_)))))
  refine Ev.step (fun k => by rw [laws_FnExactSegmentsLeft.j0]) (Ev.ite_neg (by simp) (Ev.bind z2 (Ev.bind (eqSes_self s p q y dn _ _ z1) (Ev.ite_pos rfl (Ev.opt_bind hm (Ev.ite_neg (show ¬ m < 0 by omega) (Ev.bind es (Ev.ite_pos rfl ?_))))))))
  refine Ev.step (fun k => by rw [laws_FnExactSegmentsLeft.j1]) (Ev.ite_neg (by simp) (Ev.bind m1 (Ev.bind m2 (Ev.ite_neg (show ¬ (1 + (v.1.length : Int)) < 0 by omega) (Ev.ite_pos rfl (Ev.bind z2 (Ev.bind b (Ev.bind es (Ev.ite_pos rfl ?_)))))))))
  exact Ev.step (fun k => by rw [laws_FnExactSegmentsLeft.j2]) (Ev.ite_neg (by simp) (Ev.bind m2 (Ev.ite_neg (show ¬ (1 + (v.1.length : Int)) < 0 by omega) (Ev.ite_pos rfl (Ev.now _)))))
end Go.Proofs.Ytaffjcaohbkmoaa.Pure
