/- What the printed program answers at this law is true, for every argument. -/
import Derived.Test.YtcpfaoloidapkaaQFnExactNewSessionx5
import Derived.Test.YtcpfaoloidapkaaPlain
import Derived.Test.YtcpfaoloidapkaaGoalFnExactNewSession
set_option linter.unusedVariables false
set_option linter.unusedSimpArgs false
namespace Go.Proofs.Ytcpfaoloidapkaa.Pure
open Go.RowKit Go.Proofs.Ytcpfaoloidapkaa.QFnExactNewSession Go.Proofs.YtcpfaoloidapkaaW.PrintWords Go.Proofs.YtcpfaoloidapkaaW.PrintLast Go.Proofs.Ytcpfaoloidapkaa.Plain Go.Proofs.Ytcpfaoloidapkaa.GoalFnExactNewSession

theorem eqBoolS_go (l : List Bool) (hl : l.length ≤ 1000) (d : Nat) : ∀ i : Nat, l.length - i ≤ d → Ev (fun k => laws_eqBoolS.l0 k l l (i : Int)) true := by
  induction d with
  | zero =>
    intro i hd
    exact Ev.step (fun k => by rw [laws_eqBoolS.l0]) (Ev.ite_neg (by omega) (Ev.now _))
  | succ d ih =>
    intro i hd
    by_cases hlt : i < l.length
    case neg => exact Ev.step (fun k => by rw [laws_eqBoolS.l0]) (Ev.ite_neg (by omega) (Ev.now _))
    have hw : wrap64 ((i : Int) + 1) = ((i + 1 : Nat) : Int) := by rw [w64 (by omega) (by omega)]; omega
    have := ih (i + 1) (by omega)
    rw [← hw] at this
    refine Ev.step (fun k => by rw [laws_eqBoolS.l0]) ?_
    exact Ev.ite_pos (by omega) (Ev.ite_pos (by omega) (Ev.ite_pos (by omega) (Ev.ite_neg (by simp) this)))
theorem eqBoolS_self (l : List Bool) (hl : l.length ≤ 1000) : Ev (fun k => laws_eqBoolS.f k l l) true := by
  simp only [laws_eqBoolS.f, if_true]
  exact eqBoolS_go l hl l.length 0 (by omega)
/-- What is marked from m on. -/
def mB (n : Nat) (m : Int) : List Bool := (List.range n).map fun (j : Nat) => (Int.tmod (m + (j : Int)) 3 == 0)
theorem mB_len (n : Nat) (m : Int) : (mB n m).length = n := by simp [mB]
theorem markBoolS_go (n : Nat) (hn : n ≤ 1000) (m : Int) (hm : 0 ≤ m ∧ m ≤ 100000) (d : Nat) : ∀ (l : List Bool) (i : Nat), l.length = n → i ≤ n → n - i = d → (∀ j, j < i → l[j]? = some (Int.tmod (m + (j : Int)) 3 == 0)) →
    Ev (fun k => laws_markBoolS.l0 k l (m + (i : Int)) (i : Int)) (m + (n : Int), mB n m) := by
  induction d with
  | zero =>
    intro l i h1 h2 hd hj
    obtain rfl : i = n := by omega
    have e : l = mB i m := by
      apply List.ext_getElem?
      intro j
      by_cases h : j < i
      · rw [hj j h]; simp [mB, h]
      · rw [List.getElem?_eq_none (by omega), List.getElem?_eq_none (by rw [mB_len]; omega)]
    rw [e]
    refine Ev.step (fun k => by rw [laws_markBoolS.l0]) ?_
    exact Ev.ite_neg (by rw [mB_len]; omega) (Ev.now _)
  | succ d ih =>
    intro l i h1 h2 hd hj
    have hlt : i < l.length := by omega
    have c := ih (l.set i (Int.tmod (m + (i : Int)) 3 == 0)) (i + 1) (by simpa using h1) (by omega) (by omega) (fun j h => by
      rw [List.getElem?_set]
      by_cases e : i = j
      · subst e; rw [if_pos rfl, if_pos hlt]
      · rw [if_neg e]; exact hj j (by omega))
    have w1 : wrap64 (m + (i : Int) + 1) = m + ((i + 1 : Nat) : Int) := by rw [w64 (by omega) (by omega)]; omega
    have w2 : wrap64 ((i : Int) + 1) = ((i + 1 : Nat) : Int) := by rw [w64 (by omega) (by omega)]; omega
    refine Ev.step (fun k => by rw [laws_markBoolS.l0]) ?_
    refine Ev.ite_pos (by omega) (Ev.ite_pos (by omega) ?_)
    simp only [Int.toNat_natCast, w1, w2]
    exact c
theorem markBoolS_val (l : List Bool) (hl : l.length ≤ 1000) (m : Int) (hm : 0 ≤ m ∧ m ≤ 100000) : Ev (fun k => laws_markBoolS.f k l m) (m + (l.length : Int), mB l.length m) := by
  have c := markBoolS_go l.length hl m hm l.length l 0 rfl (by omega) (by omega) (fun j h => absurd h (by omega))
  simp only [Int.natCast_zero, Int.add_zero] at c
  exact c
theorem heldBoolS_go (n : Nat) (hn : n ≤ 1000) (m : Int) (hm : 0 ≤ m ∧ m ≤ 100000) (d : Nat) : ∀ (i : Nat), i ≤ n → n - i = d →
    Ev (fun k => laws_heldBoolS.l0 k (mB n m) (m + (i : Int)) (i : Int)) (m + (n : Int)) := by
  induction d with
  | zero =>
    intro i h2 hd
    obtain rfl : i = n := by omega
    refine Ev.step (fun k => by rw [laws_heldBoolS.l0]) ?_
    exact Ev.ite_neg (by rw [mB_len]; omega) (Ev.now _)
  | succ d ih =>
    intro i h2 hd
    have c := ih (i + 1) (by omega) (by omega)
    have w1 : wrap64 (m + (i : Int) + 1) = m + ((i + 1 : Nat) : Int) := by rw [w64 (by omega) (by omega)]; omega
    have w2 : wrap64 ((i : Int) + 1) = ((i + 1 : Nat) : Int) := by rw [w64 (by omega) (by omega)]; omega
    have e : rdOf false (mB n m) (i : Int) = (Int.tmod (m + (i : Int)) 3 == 0) := by
      simp [rdOf, mB, List.getD_eq_getElem?_getD, show i < n by omega]
    refine Ev.step (fun k => by rw [laws_heldBoolS.l0]) ?_
    rw [mB_len, w1, w2, e]
    exact Ev.ite_pos (by omega) (Ev.ite_pos (by omega) (Ev.ite_neg (by simp) c))
theorem heldBoolS_val (n : Nat) (hn : n ≤ 1000) (m : Int) (hm : 0 ≤ m ∧ m ≤ 100000) : Ev (fun k => laws_heldBoolS.f k (mB n m) m) (m + (n : Int)) := by
  have c := heldBoolS_go n hn m hm n 0 (by omega) (by omega)
  simp only [Int.natCast_zero, Int.add_zero] at c
  exact c
theorem specIn (a b c : Int) : spec_l1In.f a b c = some (decide (b ≤ a ∧ a ≤ c)) := by
  unfold spec_l1In.f
  by_cases h : b ≤ a <;> simp [h]
theorem implWithin (a b c : Int) : impl_within.f a b c = some (decide (b ≤ a ∧ a ≤ c)) := by
  unfold impl_within.f
  by_cases h : b ≤ a <;> simp [h]
theorem eqSegmentS_nil : Ev (fun k => laws_eqSegmentS.f k [] []) true := by
  simp only [laws_eqSegmentS.f, if_true]
  exact Ev.step (fun k => by rw [laws_eqSegmentS.l0]) (Ev.ite_neg (by simp) (Ev.now _))
theorem heldSegmentS_nil (m : Int) : laws_heldSegmentS.f [] m = some m := by simp [laws_heldSegmentS.f]
theorem td_ (n : Nat) : Int.tdiv ((n : Int) + 8 - 1) 8 = (((n + 7) / 8 : Nat) : Int) := by
  have e : (n : Int) + 8 - 1 = ((n + 7 : Nat) : Int) := by omega
  rw [e]
  rfl
theorem many_val (n : Nat) (h : n ≤ 40) : wrap64 (Int.tdiv (wrap64 ((wrap64 ((n : Int) + 8)) - 1)) 8) = (((n + 7) / 8 : Nat) : Int) := by
  have e1 : wrap64 ((n : Int) + 8) = (n : Int) + 8 := w64 (by omega) (by omega)
  have e2 : wrap64 ((n : Int) + 8 - 1) = (n : Int) + 8 - 1 := w64 (by omega) (by omega)
  rw [e1, e2, td_]
  exact w64 (by omega) (by omega)
theorem ns1 (a0 : ByteArray) (h : ¬ (1 ≤ (a0.size : Int) ∧ (a0.size : Int) ≤ 40)) : spec_NewSession.f a0 = some ((⟨#[]⟩ : ByteArray), [], [], (⟨#[]⟩ : ByteArray), false, [], [], false) := by
  unfold spec_NewSession.f
  rw [specIn, Option.bind_some, decide_eq_false h]
  exact if_neg (by decide)
theorem ns2 (a0 : ByteArray) (h : ¬ (1 ≤ (a0.size : Int) ∧ (a0.size : Int) ≤ 40)) : impl_NewSession.f a0 = some ((⟨#[]⟩ : ByteArray), [], [], (⟨#[]⟩ : ByteArray), false, [], [], false) := by
  unfold impl_NewSession.f impl_isBlock.f
  rw [implWithin, Option.bind_some, Option.bind_some, decide_eq_false h]
  exact if_neg (by decide)
theorem ns3 (a0 : ByteArray) (h : 1 ≤ (a0.size : Int) ∧ (a0.size : Int) ≤ 40) : impl_NewSession.f a0 = some (a0, List.replicate ((a0.size + 7) / 8) false, List.replicate ((a0.size + 7) / 8) false, strOfNums (List.replicate a0.size 0), false, [], [], true) := by
  have m := many_val a0.size (by omega)
  have c1 : (0 : Int) ≤ (((a0.size + 7) / 8 : Nat) : Int) := by omega
  have c2 : (((a0.size + 7) / 8 : Nat) : Int).toNat ≤ 281474976710656 := by omega
  have c3 : (0 : Int) ≤ (a0.size : Int) := by omega
  have c4 : (a0.size : Int).toNat ≤ 281474976710656 := by omega
  unfold impl_NewSession.f impl_isBlock.f impl_many.f
  rw [implWithin, Option.bind_some, Option.bind_some, Option.bind_some, decide_eq_true h, if_pos rfl, m, if_pos c1, if_pos c2, if_pos c3, if_pos c4, Int.toNat_natCast, Int.toNat_natCast]
theorem ns4 (a0 : ByteArray) (h : 1 ≤ (a0.size : Int) ∧ (a0.size : Int) ≤ 40) : spec_NewSession.f a0 = some (a0, List.replicate ((a0.size + 7) / 8) false, List.replicate ((a0.size + 7) / 8) false, strOfNums (List.replicate a0.size 0), false, [], [], true) := by
  have m := many_val a0.size (by omega)
  have c1 : (0 : Int) ≤ (((a0.size + 7) / 8 : Nat) : Int) := by omega
  have c2 : (((a0.size + 7) / 8 : Nat) : Int).toNat ≤ 281474976710656 := by omega
  have c3 : (0 : Int) ≤ (a0.size : Int) := by omega
  have c4 : (a0.size : Int).toNat ≤ 281474976710656 := by omega
  unfold spec_NewSession.f
  simp only [spec_l5Many.f]
  rw [specIn, Option.bind_some, decide_eq_true h, if_pos rfl, if_pos c3, if_pos c4]
  have c5 : (a0.size + 7) / 8 ≤ 281474976710656 := by omega
  simp only [Option.bind_some, m, if_pos c1, if_pos c2, Int.toNat_natCast, if_pos c5]
theorem newSession_both (a0 : ByteArray) : ∃ (t y : ByteArray) (n : Nat) (b : Bool), n ≤ 5 ∧ spec_NewSession.f a0 = some (t, List.replicate n false, List.replicate n false, y, false, [], [], b) ∧ impl_NewSession.f a0 = some (t, List.replicate n false, List.replicate n false, y, false, [], [], b) := by
  by_cases h : 1 ≤ (a0.size : Int) ∧ (a0.size : Int) ≤ 40
  case neg => exact ⟨⟨#[]⟩, ⟨#[]⟩, 0, false, by omega, ns1 a0 h, ns2 a0 h⟩
  exact ⟨a0, strOfNums (List.replicate a0.size 0), (a0.size + 7) / 8, true, by omega, ns4 a0 h, ns3 a0 h⟩
theorem eqSession_self (t : ByteArray) (p q : List Bool) (y : ByteArray) (d : Bool) (hp : p.length ≤ 1000) (hq : q.length ≤ 1000) : Ev (fun k => laws_eqSession.f k t p q y d [] [] t p q y d [] []) true := by
  simp only [laws_eqSession.f, if_true]
  refine Ev.bind (eqBoolS_self p hp) (Ev.ite_pos rfl (Ev.bind (eqBoolS_self q hq) (Ev.ite_pos rfl (Ev.ite_neg (by simp) ?_))))
  exact Ev.bind eqSegmentS_nil (Ev.ite_pos rfl (Ev.bind eqSegmentS_nil (Ev.ite_pos rfl (Ev.now _))))
theorem markSession_val (t : ByteArray) (p q : List Bool) (y : ByteArray) (d : Bool) (hp : p.length ≤ 1000) (hq : q.length ≤ 1000) :
    Ev (fun k => laws_markSession.f k t p q y d [] [] 1) (1 + (p.length : Int) + (q.length : Int), mB p.length 1, mB q.length (1 + (p.length : Int))) := by
  simp only [laws_markSession.f]
  refine Ev.bind (markBoolS_val p hp 1 (by omega)) ?_
  refine Ev.bind (markBoolS_val q hq (1 + (p.length : Int)) (by omega)) ?_
  simp only [laws_markSegmentS.f, List.length_nil, if_true, Option.bind_some]
  exact Ev.now _
theorem heldSession_val (t : ByteArray) (n m : Nat) (y : ByteArray) (d : Bool) (hp : n ≤ 1000) (hq : m ≤ 1000) :
    Ev (fun k => laws_heldSession.f k t (mB n 1) (mB m (1 + (n : Int))) y d [] [] 1) (1 + (n : Int) + (m : Int)) := by
  simp only [laws_heldSession.f]
  refine Ev.bind (heldBoolS_val n hp 1 (by omega)) (Ev.ite_neg (by omega) ?_)
  refine Ev.bind (heldBoolS_val m hq (1 + (n : Int)) (by omega)) (Ev.ite_neg (by omega) ?_)
  refine Ev.opt_bind (heldSegmentS_nil _) (Ev.ite_neg (by omega) ?_)
  exact Ev.opt_bind (heldSegmentS_nil _) (Ev.ite_neg (by omega) (Ev.now _))
theorem FnExactNewSession : Go.Proofs.Ytcpfaoloidapkaa.GoalFnExactNewSession.Goal := by
  intro a0 h0
  refine Ev.rounds ?_
  simp only [laws_FnExactNewSession.f]
  refine Ev.ite (fun _ => Ev.now _) fun _ => ?_
  obtain ⟨t, y, n, b, hn, x, z⟩ := newSession_both a0
  have hl : (List.replicate n false).length = n := by simp
  have es := eqSession_self t (List.replicate n false) (List.replicate n false) y false (by omega) (by omega)
  have em := markSession_val t (List.replicate n false) (List.replicate n false) y false (by omega) (by omega)
  have eh := heldSession_val t n n y false (by omega) (by omega)
  rw [hl] at em
  refine Ev.opt_bind x (Ev.opt_bind z (Ev.bind es (Ev.ite_pos rfl ?_)))
  refine Ev.step (fun k => by rw [laws_FnExactNewSession.j0]) ?_
  refine Ev.ite_neg (by simp) (Ev.bind em (Ev.bind eh (Ev.ite_neg (by omega) (Ev.ite_pos rfl ?_))))
  refine Ev.opt_bind z (Ev.bind es (Ev.ite_pos rfl ?_))
  refine Ev.step (fun k => by rw [laws_FnExactNewSession.j1]) ?_
  refine Ev.ite_neg (by simp) (Ev.bind eh ?_)
  exact Ev.ite_neg (by omega) (Ev.ite_pos rfl (Ev.now _))

end Go.Proofs.Ytcpfaoloidapkaa.Pure
