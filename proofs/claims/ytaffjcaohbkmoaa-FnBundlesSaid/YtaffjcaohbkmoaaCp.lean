import Derived.Test.YtaffjcaohbkmoaaConv
set_option linter.unusedVariables false
set_option linter.unusedSimpArgs false
namespace Go.Proofs.YtaffjcaohbkmoaaW.PrintWords
open Go.RowKit
def FreeObj (ob : Obj) (n : Nat) : Prop := ∃ cs e lo hi, ob = .cells cs e (lo, hi) ∧ n ≤ lo
section
variable {P : Program} {ops : Array Oper} {rest : List Oper} {o : Oper} {a : Act} {Q : Exit → Act → World → Prop}
theorem bytes_obj (W : World) (e : TypeId) (y : ByteArray) : ∃ ob, (Lib.bytesWorld W e y).heap[W.heap.size]? = some ob ∧ FreeObj ob y.size := by
  refine ⟨_, Lib.bytesWorld_at_new W e y, _, _, _, _, rfl, ?_⟩
  simp [Lib.bytesCells]
namespace Kd
theorem V_convB {w0 W : World} (base e : Nat) (hgd : o.guard = none) {N' : Tmp} (hd : o.dst = some N') (src dst : TypeId) (x : Operand) (ho : o.op = .convert src dst x) (y : ByteArray) (hx : a.eval x = .string y)
    {u : TypeDesc} (hs : P.underlying src = some u) (ht : P.underlying dst = some (.slice e)) (he : P.underlying e = some (.int .u8)) (hl : y.size ≤ 9223372036854775807) {ok : Nat → Prop} (hfresh : ok W.heap.size) (HB : Below base w0 W) (hbase : base ≤ W.heap.size) {xs : List Int} (hxs : xs = bytesOf y)
    (h : ∀ g c ob w1, V (Kd.int .u8) e w1 base ok (.slice (some ⟨g, 0, none⟩) xs.length c) xs → w1.heap[g]? = some ob → FreeObj ob xs.length → g = W.heap.size → Below base w0 w1 → W.grownBy w1 none → wpList P ops Q rest (a.put o.dst (.slice (some ⟨g, 0, none⟩) xs.length c)) w1) : wpList P ops Q (o :: rest) a W := by
  subst hxs
  obtain ⟨ob, hob, hfr⟩ := bytes_obj W e y
  have hlen : (bytesOf y).length = y.size := bytesOf_length y
  refine event_run hgd (w1 := Lib.bytesWorld W e y) (v := .slice (some ⟨W.heap.size, 0, none⟩) y.size (grownCap W y.size 0 e)) ?_ (hlen ▸ h _ _ ob _ (hlen.symm ▸ V_bytes W base e y hl ok hfresh) hob (hlen.symm ▸ hfr) rfl (bytes_below HB hbase e y) ⟨rfl, rfl, rfl, by rw [Lib.bytesWorld_size]; omega, fun k hk _ => Lib.bytesWorld_at_old W e y k hk⟩)
  simp [execOp, ho, hx, print_bytes src dst e hs ht he y W]
end Kd
end
namespace Kd
section
variable {α : Type} {enc : α → Value} {h1 : ∀ x, (enc x).oneCell' = true} {e base g n c : Nat} {ok : Nat → Prop} {W : World} {xs : List α} {ob : Obj}
theorem V_cellb (d : α) (h : V (scalar enc h1) e W base ok (.slice (some ⟨g, 0, none⟩) n c) xs) (hb : W.heap[g]? = some ob) (hc : FreeObj ob n) (i : Int) (h0 : 0 ≤ i) (hi : i < n) :
    W.cell? ⟨g, i.toNat, none⟩ = some (enc (rdOf d xs i)) ∧ W.frozen? ⟨g, i.toNat, none⟩ = false := by
  obtain ⟨hn, _, hf⟩ := V_reads' h
  obtain ⟨ad, cs, he, hlen, hr, hcell⟩ := ReadsRow.get_ hf d i h0 (by omega)
  injection he with he
  subst he
  have hr' : cs = [enc (xs.getD i.toNat d)] := hr
  subst hr'
  refine ⟨?_, ?_⟩
  · have h2 := hcell 0 _ rfl
    rw [add_plain] at h2
    simpa [scalar, rdOf] using h2
  · obtain ⟨cs, e', lo, hi', rfl, hlo⟩ := hc
    simp [World.frozen?, hb]
    intro
    omega
theorem V_putb (h : V (scalar enc h1) e W base ok (.slice (some ⟨g, 0, none⟩) n c) xs) (hb : W.heap[g]? = some ob) (hc : FreeObj ob n) (i : Int) (h0 : 0 ≤ i) (hi : i < n) (x : α) :
    V (scalar enc h1) e (W.setCell ⟨g, i.toNat, none⟩ (enc x)) base ok (.slice (some ⟨g, 0, none⟩) n c) (xs.set i.toNat x) ∧ W.grownBy (W.setCell ⟨g, i.toNat, none⟩ (enc x)) (some g) := by
  have hcell := (V_cellb x h hb hc i h0 hi).1
  have hlt : g < W.heap.size := blk_lt hb
  refine ⟨?_, ⟨rfl, rfl, rfl, by simp [World.setCell], fun k hk hne => Below.heap_setCell W _ _ k (fun e => hne (by rw [e]))⟩⟩
  obtain ⟨hn, hle, hf⟩ := V_at h
  subst hn
  have hokg : ok g := by
    refine Classical.byContradiction fun hno => ?_
    have hW := hf { W with heap := W.heap.set g (.cells #[] e (0, 0)) hlt } (fun k hk _ => by
      show (W.heap.set g _ hlt)[k]? = _
      rw [Array.getElem?_set_ne]
      rintro rfl
      exact hno hk)
    obtain ⟨ad, cs, he, hlen, hr, hc2⟩ := ReadsRow.get_ hW x i h0 hi
    injection he with he
    subst he
    have hr' : cs = [enc (xs.getD i.toNat x)] := hr
    subst hr'
    have h2 := hc2 0 _ rfl
    rw [add_plain] at h2
    simp [World.cell?] at h2
  have hV : V (scalar enc h1) e (W.setCell ⟨g, i.toNat, none⟩ (enc x)) base ok (.slice (some ⟨g, 0, none⟩) (xs.set i.toNat x).length c) (xs.set i.toNat x) := by
    refine V_mk (by rw [List.length_set]; exact hle) (fun W' hW' => ?_)
    have hg' : W'.heap[g]? = (W.setCell ⟨g, i.toNat, none⟩ (enc x)).heap[g]? := hW' g hokg (by simp [World.setCell]; exact hlt)
    obtain ⟨hl1, hl2, hl3⟩ := F_now hf
    refine ⟨rfl, by rw [List.length_set]; exact hl2, fun hp => ⟨_, rfl, fun j p hj => ?_⟩⟩
    rw [List.length_set] at hp
    obtain ⟨ad, he, hc2⟩ := hl3 hp
    injection he with he
    subst he
    refine ⟨[enc p], rfl, rfl, fun q u hu => ?_⟩
    cases q with
    | succ q => simp at hu
    | zero =>
      have hu : enc p = u := by simpa using hu
      subst hu
      obtain ⟨hjl, hjp⟩ := List.getElem?_eq_some_iff.1 hj
      rw [List.length_set] at hjl
      obtain ⟨cs, hlen, hr, hcc⟩ := hc2 j _ (List.getElem?_eq_getElem hjl)
      have hr' : cs = [enc xs[j]] := hr
      subst hr'
      have h2 := hcc 0 _ rfl
      rw [add_plain] at h2 ⊢
      rw [show (scalar enc h1).sz = 1 from rfl] at h2 ⊢
      simp only [Nat.mul_one, Nat.add_zero, World.cell?] at h2 hcell ⊢
      rw [hg']
      rw [hb] at h2 hcell
      simp only [World.setCell, Array.getElem?_modify, hb]
      obtain ⟨cs, e', lo, hi', rfl, hlo⟩ := hc
      simp only [if_pos, Option.map_some, Option.isSome_none] at h2 hcell ⊢
      rw [List.getElem_set] at hjp
      by_cases hji : i.toNat = j
      · subst hji
        rw [if_pos rfl] at hjp
        subst hjp
        have := (Array.getElem?_eq_some_iff.1 (by simpa using hcell)).1
        simp [Array.getElem?_setIfInBounds, this]
      · rw [if_neg hji] at hjp
        subst hjp
        simpa [Array.getElem?_setIfInBounds, hji] using h2
  rw [List.length_set] at hV
  exact hV
end
end Kd
end Go.Proofs.YtaffjcaohbkmoaaW.PrintWords
