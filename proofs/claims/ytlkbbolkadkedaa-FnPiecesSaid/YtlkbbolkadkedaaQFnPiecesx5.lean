import Derived.Test.YtlkbbolkadkedaaQFnPiecesx0
namespace Go.Proofs.Ytlkbbolkadkedaa.QFnPieces
open Go.RowKit Go.Proofs.YtlkbbolkadkedaaW.PrintWords Go.Proofs.YtlkbbolkadkedaaW.PrintLast Go.Proofs.YtlkbbolkadkedaaW.PrintMore
attribute [local go_sem] max2_int min2_int max_two min_two max_three min_three max_four min_four   -- for this text's walks alone
set_option linter.unusedVariables false
set_option linter.unusedSimpArgs false
theorem ins_info : (Try.prog.info? 46).map (fun i => (i.zero, i.size, i.bytes)) = some (some (.agg #[(.int .i64 0), (.int .i64 0), (.bool false), (.int .i64 0), (.int .i64 0), (.int .i64 0), (.int .i64 0), (.int .i64 0), (.int .i64 0), (.string ⟨#[]⟩)]), 10, 88) := by kernel_rfl
theorem ins_copy (W : World) (g o dLen dCap : Nat) (a : Addr) (sLen sCap n : Nat) (cur : Array Value) (cs : List Value) (ty : TypeId) (hg : W.heap[g]? = some (.cells cur 46 (0, 0))) (hn : Nat.min sLen dLen = n) (hcl : cs.length = n * 10) (hsrc : ∀ j v, cs[j]? = some v → W.cell? (a.add j) = some v) (hfit : o + cs.length ≤ cur.size) (h1 : ∀ v ∈ cs, v.oneCell' = true) :
  (Builtin.copy_ #[27, 27] ty #[.slice (some ⟨g, o, none⟩) dLen dCap, .slice (some a) sLen sCap]).run Try.prog W = .ok (goInt n) (W.setRow g (cur.toList.take o ++ cs ++ cur.toList.drop (o + cs.length)).toArray) := by
 have hl := run_loadCells_list (P := Try.prog) W a cs hsrc; have hst := run_storeCells_at (P := Try.prog) g o 46 cs 0 cur W hg (by simpa using hfit) h1; obtain ⟨i0, hi, hz⟩ := Option.map_eq_some_iff.1 ins_info; simp only [Prod.mk.injEq] at hz; obtain ⟨hz0, hz1, hz2⟩ := hz; rw [hcl] at hl; simp [Builtin.copy_, run_underlying Try.underlying27, Builtin.lenOf, Builtin.firstCells, sizeOf, typeInfo, hi, hz1, hn, hl, hst]
theorem ins_grown {W : World} {g : Nat} {c : Array Value} : W.grownBy (W.setRow g c) (some g) := by
 refine ⟨rfl, rfl, rfl, by show _ ≤ (W.heap.modify g _).size; simp, fun i hi hne => ?_⟩; have hne' : g ≠ i := fun e => hne (by rw [e])
 show (W.heap.modify g _)[i]? = _; rw [Array.getElem?_modify, if_neg hne']
theorem ins_other {w : World} {g k : Nat} {o : Obj} (h : w.heap[k]? = some o) (hk : k ≠ g) (c : Array Value) : (w.setRow g c).heap[k]? = some o := by
 show (w.heap.modify g _)[k]? = _; rw [Array.getElem?_modify, if_neg (fun e => hk e.symm)]; exact h
theorem ins_cell {W : World} {g : Nat} {cur : Array Value} {o : Nat} {cs : List Value} (hg : W.heap[g]? = some (.cells cur 46 (0, 0))) (h : ∀ j v, cs[j]? = some v → cur.toList[o + j]? = some v) : ∀ j v, cs[j]? = some v → W.cell? ((⟨g, o, none⟩ : Addr).add j) = some v := by
 intro j v hj; rw [Addr.add_lit, blk_cell hg]; have := h j v hj
 rwa [Array.getElem?_toList] at this
theorem ins_hov (W : World) (g o lb cb vb : Nat) (cur cv : Array Value) (hne : vb ≠ g) (hg : W.heap[g]? = some (.cells cur 46 (0, 0))) (hk : cur.size ≠ 0) (hv : W.heap[vb]? = some (.cells cv 46 (0, 0))) : (callFunc 74 #[.slice (some ⟨vb, 0, none⟩) 1 1, .slice (some ⟨g, o, none⟩) lb cb]).run Try.prog W = .ok (.value (.bool false)) W := by
 rw [run_callFunc_extern Try.func74 (by kernel_rfl) (by kernel_rfl) (by kernel_rfl) (e := Extern.SlicesOverlaps.overlaps #[27, 27] #[4]) (by kernel_rfl),
  Go.Lib.run_overlaps_apart W 27 4 46 Try.underlying27 10 (fun w => by go_simp) ⟨vb, 0, none⟩ ⟨g, o, none⟩ 1 1 lb cb hne 46 46 cv.size cur.size (by simp [World.shape?, hv]) (by simp [World.shape?, hg]) hk (by simp [World.frozen?, hv]) (by simp [World.frozen?, hv])]
 rfl
set_option maxHeartbeats 4000000 in
set_option maxRecDepth 100000 in
theorem ins_shift (W : World) (g n cap i vb : Nat) (cur : Array Value) (cs : List Value) (hi : i < n) (hroom : n + 1 ≤ cap) (hc63 : cap ≤ maxLen) (hne : vb ≠ g) (hg : W.heap[g]? = some (.cells cur 46 (0, 0))) (hsz : cur.size = cap * 10) (hv : W.heap[vb]? = some (.cells cs.toArray 46 (0, 0))) (hcs : cs.length = 10)
  (h1c : ∀ u ∈ cur.toList.take (n * 10), u.oneCell' = true) (h1v : ∀ u ∈ cs, u.oneCell' = true) :
  Calls Try.prog 57 #[.slice (some ⟨g, 0, none⟩) n cap, .int .i64 (i : Int), .slice (some ⟨vb, 0, none⟩) 1 1] W fun e w' => e = .returned (.slice (some ⟨g, 0, none⟩) (n + 1) cap) ∧ ∃ c : Array Value, W.grownBy w' (some g) ∧ w'.heap[g]? = some (.cells c 46 (0, 0)) ∧ c.size = cap * 10 ∧ c.toList.take ((n + 1) * 10) = (cur.toList.take (n * 10)).take (i * 10) ++ cs ++ (cur.toList.take (n * 10)).drop (i * 10) := by
 unfold maxLen at hc63; obtain ⟨tl, htl⟩ : ∃ tl, tl = (cur.toList.take (n * 10)).drop (i * 10) := ⟨_, rfl⟩
 have htll : tl.length = (n - i) * 10 := by rw [htl]; simp; omega
 obtain ⟨c1, hc1⟩ : ∃ c1 : Array Value, c1 = (cur.toList.take ((i + 1) * 10) ++ tl ++ cur.toList.drop ((i + 1) * 10 + tl.length)).toArray := ⟨_, rfl⟩
 obtain ⟨c2, hc2⟩ : ∃ c2 : Array Value, c2 = (c1.toList.take (i * 10) ++ cs ++ c1.toList.drop (i * 10 + cs.length)).toArray := ⟨_, rfl⟩
 have hs1 : c1.size = cap * 10 := by rw [hc1]; simp [htll, hsz]; omega
 have hs2 : c2.size = cap * 10 := by rw [hc2]; simp [hs1, hcs]; omega
 have hov := fun lb cb => ins_hov W g ((i + 1) * 10) lb cb vb cur cs.toArray hne hg (by omega) hv
 have hcp1 : ∀ ty dc sc, (Builtin.copy_ #[27, 27] ty #[.slice (some ⟨g, (i + 1) * 10, none⟩) (n - i) dc, .slice (some ⟨g, i * 10, none⟩) (n + 1 - i) sc]).run Try.prog W.drew = .ok (goInt ((n - i : Nat) : Int)) (W.drew.setRow g c1) := fun ty dc sc => by
  rw [hc1]; refine ins_copy W.drew g ((i + 1) * 10) (n - i) dc ⟨g, i * 10, none⟩ (n + 1 - i) sc (n - i) cur tl ty hg (by simp only [Nat.min_def]; split <;> omega) htll (ins_cell (W := W.drew) hg fun j v hj => ?_) (by rw [htll, hsz]; omega) (fun u hu => h1c u (by rw [htl] at hu; exact List.mem_of_mem_drop hu)); rw [htl, List.getElem?_drop, List.getElem?_take] at hj
  split at hj
  ·exact hj
  ·cases hj
 have hg1 : (W.drew.setRow g c1).heap[g]? = some (.cells c1 46 (0, 0)) := setRow_heap _ _ _ _ _ _ (show W.drew.heap[g]? = _ from hg); have hv1 : (W.drew.setRow g c1).heap[vb]? = some (.cells cs.toArray 46 (0, 0)) := ins_other (show W.drew.heap[vb]? = _ from hv) hne _; have hcp2 : ∀ (W' : World), W'.heap = (W.drew.setRow g c1).heap → ∀ ty dc, (Builtin.copy_ #[27, 27] ty #[.slice (some ⟨g, i * 10, none⟩) (n + 1 - i) dc, .slice (some ⟨vb, 0, none⟩) 1 1]).run Try.prog W' = .ok (goInt ((1 : Nat) : Int)) (W'.setRow g c2) := fun W' hW' ty dc => by
  rw [hc2]; refine ins_copy W' g (i * 10) (n + 1 - i) dc ⟨vb, 0, none⟩ 1 1 1 c1 cs ty (by rw [hW']; exact hg1) (by simp only [Nat.min_def]; split <;> omega) hcs (ins_cell (o := 0) (by rw [hW']; exact hv1) fun j v hj => by simpa using hj) (by rw [hcs, hs1]; omega) h1v
 have htk : c2.toList.take ((n + 1) * 10) = (cur.toList.take (n * 10)).take (i * 10) ++ cs ++ (cur.toList.take (n * 10)).drop (i * 10) := by
  have hla : cur.toList.length = cap * 10 := by simp [hsz]
  have hlt1 : (cur.toList.take ((i + 1) * 10)).length = i * 10 + cs.length := by rw [List.length_take, hla, hcs]; omega
  have e0 : c1.toList = cur.toList.take ((i + 1) * 10) ++ (tl ++ cur.toList.drop ((i + 1) * 10 + tl.length)) := by rw [hc1, List.append_assoc]
  have e1 : c1.toList.take (i * 10) = (cur.toList.take (n * 10)).take (i * 10) := by
   rw [e0, List.take_append_of_le_length (by rw [hlt1]; omega), List.take_take, List.take_take]
   congr 1
   omega
  have e2 : c1.toList.drop (i * 10 + cs.length) = tl ++ cur.toList.drop ((i + 1) * 10 + tl.length) := by rw [e0, List.drop_left' hlt1]
  have e3 : c2.toList = ((cur.toList.take (n * 10)).take (i * 10) ++ cs ++ tl) ++ cur.toList.drop ((i + 1) * 10 + tl.length) := by rw [hc2]; show _ ++ _ ++ _ = _; rw [e1, e2]; simp only [List.append_assoc]
  rw [e3, List.take_left' (by simp only [List.length_append, List.length_take, hla, hcs, htll]; omega), htl]
 have mixed : Try.prog.follows .mixedOrders = true := by kernel_rfl
 have hz2 : ¬ ((i : Int) = (n : Int)) := by omega
 have hw1 : IntKind.i64.wrap ((i : Int) + 1) = (i : Int) + 1 := by rw [IntKind.wrap_i64]; omega
 have hw2 : IntKind.i64.wrap ((n : Int) + 1) = (n : Int) + 1 := by rw [IntKind.wrap_i64]; omega
 have hb1 : (0 : Int) ≤ (i : Int) + 1 := by omega
 have hin : i ≤ n := by omega
 have htn : ((i : Int) + 1).toNat = i + 1 := by omega
 have htn2 : ((n : Int) + 1).toNat = n + 1 := by omega
 have hb2 : ¬ (cap = i + 1) := by omega
 have hb3 : (i : Int) ≤ (n : Int) + 1 := by omega
 have hb4 : ¬ (cap = i) := by omega
 have hb5 : ¬ ((cap : Int) < (n : Int) + 1) := by omega
 have hb6 : (n : Int) + 1 ≤ (cap : Int) := by omega
 have hb7 : (0 : Int) ≤ (n : Int) + 1 := by omega
 have hb8 : (i : Int) + 1 ≤ (n : Int) + 1 := by omega
 clear hc1 hc2 htl
 go_enter Try.func57, Try.ntmps57
 go_wp2_with (simp only [hov])
 go_region_law_o (refine step_copy_runI rfl _ _ 27 27 rfl _ _ (by simp [Act.eval, Act.put]) (by simp [Act.eval, Act.put]) (hcp1 _ _ _) ?_)
 go_wp2_with (at_builtin; refine wpList_copy_runI _ rfl _ _ 27 27 rfl _ _ rfl rfl (hcp2 _ rfl _ _) ?_); go_ret; refine ⟨rfl, c2, ?_, setRow_heap _ _ _ _ _ _ hg1, hs2, htk⟩; exact World.grownBy.trans (World.grownBy.trans (b := W.drew) ⟨rfl, rfl, rfl, Nat.le_refl _, fun _ _ _ => rfl⟩ ins_grown) ins_grown
theorem ins_drew {W W' : World} {row : Option Nat} (h : W.grownBy W' row) : W.grownBy W'.drew row := ⟨h.os, h.tape, h.output, h.size, h.block⟩
theorem ins_past {W W' : World} {g : Nat} {c : Array Value} {row : Option Nat} (h : W.grownBy W' row) (hg : W.heap.size ≤ g) : W.grownBy (W'.setRow g c) row := by
 refine ⟨h.os, h.tape, h.output, by show _ ≤ (W'.heap.modify g _).size; rw [Array.size_modify]; exact h.size, fun k hk hne => ?_⟩; show (W'.heap.modify g _)[k]? = _; rw [Array.getElem?_modify, if_neg (by omega)]; exact h.block k hk hne
set_option maxHeartbeats 4000000 in
set_option maxRecDepth 100000 in
theorem ins_grow (W : World) (g n cap i vb : Nat) (cur : Array Value) (cs : List Value) (hi : i < n) (hnc : n ≤ cap) (hroom : cap < n + 1) (hn : n ≤ 1000) (hg : W.heap[g]? = some (.cells cur 46 (0, 0))) (hsz : cur.size = cap * 10) (hv : W.heap[vb]? = some (.cells cs.toArray 46 (0, 0))) (hcs : cs.length = 10)
  (h1c : ∀ u ∈ cur.toList.take (n * 10), u.oneCell' = true) (h1v : ∀ u ∈ cs, u.oneCell' = true) :
  Calls Try.prog 57 #[.slice (some ⟨g, 0, none⟩) n cap, .int .i64 (i : Int), .slice (some ⟨vb, 0, none⟩) 1 1] W fun e w' => ∃ (G : Nat) (c : Array Value), e = .returned (.slice (some ⟨W.heap.size, 0, none⟩) (n + 1) G) ∧ W.grownBy w' none ∧ w'.heap[W.heap.size]? = some (.cells c 46 (0, 0)) ∧ n + 1 ≤ G ∧ G ≤ maxLen ∧ c.size = G * 10 ∧ c.toList.take ((n + 1) * 10) = (cur.toList.take (n * 10)).take (i * 10) ++ cs ++ (cur.toList.take (n * 10)).drop (i * 10) := by
 have hgl : g < W.heap.size := blk_lt hg; have hvl : vb < W.heap.size := blk_lt hv; obtain ⟨i0, hi0, hz⟩ := Option.map_eq_some_iff.1 ins_info; simp only [Prod.mk.injEq] at hz; obtain ⟨hz0, hz1, hz2⟩ := hz; obtain ⟨hd, hhd⟩ : ∃ hd, hd = (cur.toList.take (n * 10)).take (i * 10) := ⟨_, rfl⟩
 obtain ⟨tl, htl⟩ : ∃ tl, tl = (cur.toList.take (n * 10)).drop (i * 10) := ⟨_, rfl⟩
 have hla : cur.toList.length = cap * 10 := by simp [hsz]
 have hhdl : hd.length = i * 10 := by rw [hhd]; simp [hsz]; omega
 have htll : tl.length = (n - i) * 10 := by rw [htl]; simp [hsz]; omega
 have hold : (Builtin.firstCells i0.size i (.slice (some ⟨g, 0, none⟩) i cap)).run Try.prog W.drew = .ok hd.toArray W.drew := by
  rw [hz1]; refine run_firstCells_some W.drew 10 i ⟨g, 0, none⟩ i cap hd hhdl (ins_cell (W := W.drew) hg fun j v hj => ?_); rw [hhd, List.getElem?_take, List.getElem?_take] at hj; rw [Nat.zero_add]
  split at hj
  ·split at hj
   ·exact hj
   ·cases hj
  ·cases hj
 obtain ⟨G, hG⟩ : ∃ G, G = grownCap W (n + 1) cap 46 := ⟨_, rfl⟩
 obtain ⟨zs, hzs⟩ : ∃ zs : Value, zs = .agg #[(.int .i64 0), (.int .i64 0), (.bool false), (.int .i64 0), (.int .i64 0), (.int .i64 0), (.int .i64 0), (.int .i64 0), (.int .i64 0), (.string ⟨#[]⟩)] := ⟨_, rfl⟩
 have hzc : zs.cells.size = 10 := by rw [hzs]; rfl
 obtain ⟨ROW, hROW⟩ : ∃ ROW : Array Value, ROW = hd.toArray ++ Builtin.zeroCells zs.cells (n + 1 - i) ++ Builtin.zeroCells zs.cells (G - (n + 1)) := ⟨_, rfl⟩
 have hrz : ∀ ty, (Builtin.append_ #[27, 3] ty #[.slice (some ⟨g, 0, none⟩) i cap, .int .i64 ((n : Int) + 1 - (i : Int))]).run Try.prog W = .ok (.slice (some ⟨W.heap.size, 0, none⟩) (n + 1) G) (W.drew.alloc (.cells ROW 46)) := fun ty => by
  have h := Go.Lib.run_append_grow_zeros (P := Try.prog) W 27 3 ty 46 i0 _ .i64 .i64 Try.underlying27 Try.underlying3 hi0 hz0 (some ⟨g, 0, none⟩) i cap hd hold (n + 1 - i) (by omega) (by omega) (by omega) (by omega) (by rw [hz2]; omega) (by rw [hz2, show i + (n + 1 - i) = n + 1 by omega]; exact growslice_fits hroom (by omega)); rw [show i + (n + 1 - i) = n + 1 by omega, ← hG, ← hzs, ← hROW] at h; rw [show (n : Int) + 1 - (i : Int) = ((n + 1 - i : Nat) : Int) by omega]; exact h
 have hGn : n + 1 ≤ G := by rw [hG]; exact grownCap_ge W _ _ _
 have hG63 : G ≤ maxLen := by rw [hG]; exact grownCap_le_maxLen W (n + 1) cap 46 (by unfold maxLen; omega)
 have hRl : ROW.size = G * 10 := by
  rw [hROW]; simp [Builtin.zeroCells, hzc, hhdl]; omega
 have hg2 : (W.drew.alloc (.cells ROW 46)).heap[W.heap.size]? = some (.cells ROW 46 (0, 0)) := heap_alloc_new W.drew _; have hgo : (W.drew.alloc (.cells ROW 46)).heap[g]? = some (.cells cur 46 (0, 0)) := blk_alloc (show W.drew.heap[g]? = _ from hg) _; have hvo : (W.drew.alloc (.cells ROW 46)).heap[vb]? = some (.cells cs.toArray 46 (0, 0)) := blk_alloc (show W.drew.heap[vb]? = _ from hv) _; obtain ⟨W2, hW2⟩ : ∃ W2, W2 = W.drew.alloc (.cells ROW 46) := ⟨_, rfl⟩
 rw [← hW2] at hg2 hgo hvo; obtain ⟨R1, hR1⟩ : ∃ R1 : Array Value, R1 = (ROW.toList.take (i * 10) ++ cs ++ ROW.toList.drop (i * 10 + cs.length)).toArray := ⟨_, rfl⟩
 obtain ⟨R2, hR2⟩ : ∃ R2 : Array Value, R2 = (R1.toList.take ((i + 1) * 10) ++ tl ++ R1.toList.drop ((i + 1) * 10 + tl.length)).toArray := ⟨_, rfl⟩
 have hs1 : R1.size = G * 10 := by rw [hR1]; simp [hRl, hcs]; omega
 have hs2 : R2.size = G * 10 := by rw [hR2]; simp [hs1, htll]; omega
 have hcpA : ∀ (W' : World), W'.heap = W2.heap → ∀ ty dc, (Builtin.copy_ #[27, 27] ty #[.slice (some ⟨W.heap.size, i * 10, none⟩) (n + 1 - i) dc, .slice (some ⟨vb, 0, none⟩) 1 1]).run Try.prog W' = .ok (goInt ((1 : Nat) : Int)) (W'.setRow W.heap.size R1) := fun W' hW' ty dc => by
  rw [hR1]; refine ins_copy W' W.heap.size (i * 10) (n + 1 - i) dc ⟨vb, 0, none⟩ 1 1 1 ROW cs ty (by rw [hW']; exact hg2) (by simp only [Nat.min_def]; split <;> omega) hcs (ins_cell (o := 0) (by rw [hW']; exact hvo) fun j v hj => by simpa using hj) (by rw [hcs, hRl]; omega) h1v
 have hg3 : (W2.setRow W.heap.size R1).heap[W.heap.size]? = some (.cells R1 46 (0, 0)) := setRow_heap _ _ _ _ _ _ hg2; have hg4 : (W2.setRow W.heap.size R1).heap[g]? = some (.cells cur 46 (0, 0)) := ins_other hgo (by omega) _; have hcpB : ∀ (W' : World), W'.heap = (W2.setRow W.heap.size R1).heap → ∀ ty dc sc, (Builtin.copy_ #[27, 27] ty #[.slice (some ⟨W.heap.size, (i + 1) * 10, none⟩) (n - i) dc, .slice (some ⟨g, i * 10, none⟩) (n - i) sc]).run Try.prog W' = .ok (goInt ((n - i : Nat) : Int)) (W'.setRow W.heap.size R2) := fun W' hW' ty dc sc => by
  rw [hR2]; refine ins_copy W' W.heap.size ((i + 1) * 10) (n - i) dc ⟨g, i * 10, none⟩ (n - i) sc (n - i) R1 tl ty (by rw [hW']; exact hg3) (Nat.min_self _) htll (ins_cell (by rw [hW']; exact hg4) fun j v hj => ?_) (by rw [htll, hs1]; omega) (fun u hu => h1c u (by rw [htl] at hu; exact List.mem_of_mem_drop hu)); rw [htl, List.getElem?_drop, List.getElem?_take] at hj
  split at hj
  ·exact hj
  ·cases hj
 have htk : R2.toList.take ((n + 1) * 10) = (cur.toList.take (n * 10)).take (i * 10) ++ cs ++ (cur.toList.take (n * 10)).drop (i * 10) := by
  rw [← hhd, ← htl]; have eR : ROW.toList = hd ++ (Builtin.zeroCells zs.cells (n + 1 - i) ++ Builtin.zeroCells zs.cells (G - (n + 1))).toList := by rw [hROW]; simp
  have e1 : ROW.toList.take (i * 10) = hd := by rw [eR, List.take_left' hhdl]
  have e2 : R1.toList = hd ++ cs ++ ROW.toList.drop (i * 10 + cs.length) := by rw [hR1]; show _ ++ _ ++ _ = _; rw [e1]
  have e3 : R1.toList.take ((i + 1) * 10) = hd ++ cs := by rw [e2, List.take_left' (by simp only [List.length_append, hhdl, hcs]; omega)]
  have e4 : R2.toList = (hd ++ cs ++ tl) ++ R1.toList.drop ((i + 1) * 10 + tl.length) := by rw [hR2]; show _ ++ _ ++ _ = _; rw [e3]
  rw [e4, List.take_left' (by simp only [List.length_append, hhdl, hcs, htll]; omega)]
 have mixed : Try.prog.follows .mixedOrders = true := by kernel_rfl
 have hz2' : ¬ ((i : Int) = (n : Int)) := by omega
 have hw1 : IntKind.i64.wrap ((i : Int) + 1) = (i : Int) + 1 := by rw [IntKind.wrap_i64]; omega
 have hw2 : IntKind.i64.wrap ((n : Int) + 1) = (n : Int) + 1 := by rw [IntKind.wrap_i64]; omega
 have hw3 : IntKind.i64.wrap ((n : Int) + 1 - (i : Int)) = (n : Int) + 1 - (i : Int) := by rw [IntKind.wrap_i64]; omega
 have hb1 : (0 : Int) ≤ (i : Int) + 1 := by omega
 have hin : i ≤ n := by omega
 have htn : ((i : Int) + 1).toNat = i + 1 := by omega
 have hb2 : ¬ (G = i + 1) := by omega
 have hb4 : ¬ (G = i) := by omega
 have hb9 : ¬ (cap = i) := by omega
 have hb3 : (i : Int) ≤ (n : Int) + 1 := by omega
 have hb5 : (cap : Int) < (n : Int) + 1 := by omega
 have hb8 : (i : Int) + 1 ≤ (n : Int) + 1 := by omega
 have hb10 : (i : Int) ≤ (n : Int) := by omega
 have hic : (i : Int) ≤ (cap : Int) := by omega
 rw [← hW2] at hrz; clear hhd htl hhdl htll hold hROW hG hzs hzc hR1 hR2 hz0 hz1 hz2 hi0 hla; subst hW2
 go_enter Try.func57, Try.ntmps57
 have hcpA' : ∀ ty dc, (Builtin.copy_ #[27, 27] ty #[.slice (some ⟨W.heap.size, i * 10, none⟩) (n + 1 - i) dc, .slice (some ⟨vb, 0, none⟩) 1 1]).run Try.prog (W.alloc (.cells ROW 46)).drew = .ok (goInt ((1 : Nat) : Int)) ((W.alloc (.cells ROW 46)).drew.setRow W.heap.size R1) := hcpA _ rfl; have hcpB' : ∀ ty dc sc, (Builtin.copy_ #[27, 27] ty #[.slice (some ⟨W.heap.size, (i + 1) * 10, none⟩) (n - i) dc, .slice (some ⟨g, i * 10, none⟩) (n - i) sc]).run Try.prog ((W.alloc (.cells ROW 46)).drew.setRow W.heap.size R1).drew = .ok (goInt ((n - i : Nat) : Int)) (((W.alloc (.cells ROW 46)).drew.setRow W.heap.size R1).drew.setRow W.heap.size R2) := hcpB _ rfl; clear hcpA hcpB; go_wp2_with (at_builtin; refine Lib.wpList_append_run _ rfl _ _ _ _ rfl _ _ rfl rfl _ _ (hrz _) ?_)
 go_region_law_o (refine step_copy_runI rfl _ _ 27 27 rfl _ _ (by simp [Act.eval, Act.put]) (by simp [Act.eval, Act.put]) (hcpB' _ _ _) ?_)
 go_wp2; go_ret; refine ⟨G, R2, rfl, ?_, setRow_heap _ _ _ _ _ _ hg3, hGn, hG63, hs2, htk⟩; exact ins_past (ins_drew (ins_past (ins_drew (World.grownBy_alloc _ _ _)) (Nat.le_refl _))) (Nat.le_refl _)
set_option maxHeartbeats 4000000 in
set_option maxRecDepth 100000 in
theorem ins_end (W : World) (base : Nat) (v : Value) (n vb : Nat) (inner cs : List Value) (hown : W.ownsRow base 46 10 v n inner) (hv : W.heap[vb]? = some (.cells cs.toArray 46 (0, 0))) (hcs : cs.length = 10) (h1v : ∀ u ∈ cs, u.oneCell' = true) (hn : n ≤ 1000) (hbase : base ≤ W.heap.size) :
  Calls Try.prog 57 #[v, .int .i64 (n : Int), .slice (some ⟨vb, 0, none⟩) 1 1] W fun e w' => ∃ v', e = .returned v' ∧ w'.ownsRow base 46 10 v' (n + 1) (inner ++ cs) ∧ W.grownBy w' v.ownBlock ∧ (v'.ownBlock = v.ownBlock ∨ ∃ b, v'.ownBlock = some b ∧ W.heap.size ≤ b) := by
 obtain ⟨i0, hi0, hz⟩ := Option.map_eq_some_iff.1 ins_info; simp only [Prod.mk.injEq] at hz; obtain ⟨hz0, hz1, hz2⟩ := hz; have hnews : ∀ j u, cs[j]? = some u → W.cell? ((⟨vb, 0, none⟩ : Addr).add j) = some u := ins_cell (o := 0) hv fun j u hj => by simpa using hj
 have hc0 : (0 : Int) ≤ (n : Int) := Int.natCast_nonneg _; have hc1 : (n : Int) ≤ (n : Int) := Int.le_refl _; have hown' := hown; have hsp : (v = .slice none 0 0 ∧ n = 0) ∨ ∃ g cap, v = .slice (some ⟨g, 0, none⟩) n cap ∧ (cap = n ∨ ¬ cap = n) := hown'.2.imp id fun ⟨g, cap, cur, e, _⟩ => ⟨g, cap, e, Classical.em _⟩
 obtain ⟨rfl, rfl⟩ | ⟨g, cap, rfl, rfl | hcn⟩ := hsp
 all_goals
  go_enter Try.func57, Try.ntmps57
  go_wp2_with (at_builtin; refine wpList_append_own_at W rfl _ _ 27 rfl base 46 i0 _ 10 88 Try.underlying27 hi0 hz0 hz1 hz2 rfl (by decide) _ _ inner rfl hown ⟨vb, 0, none⟩ 1 1 cs rfl hcs hnews h1v (by unfold maxLen; omega) (by omega) hbase ?_; intro v1 w1 hown1 hg1 hn1 hat1); go_ret; exact ⟨v1, rfl, hown1, hg1, hat1.imp id fun h => ⟨_, h, Nat.le_refl _⟩⟩
theorem ins_walk (W : World) (base : Nat) (v : Value) (n vb i : Nat) (inner cs : List Value) (hown : W.ownsRow base 46 10 v n inner) (hin1 : ∀ u ∈ inner, u.oneCell' = true) (hi : i ≤ n) (hv : W.heap[vb]? = some (.cells cs.toArray 46 (0, 0))) (hvb : some vb ≠ v.ownBlock) (hcs : cs.length = 10) (h1v : ∀ u ∈ cs, u.oneCell' = true) (hn : n ≤ 1000) (hbase : base ≤ W.heap.size) :
  Calls Try.prog 57 #[v, .int .i64 (i : Int), .slice (some ⟨vb, 0, none⟩) 1 1] W fun e w' => ∃ v', e = .returned v' ∧ w'.ownsRow base 46 10 v' (n + 1) (inner.take (i * 10) ++ cs ++ inner.drop (i * 10)) ∧ W.grownBy w' v.ownBlock ∧ (v'.ownBlock = v.ownBlock ∨ ∃ b, v'.ownBlock = some b ∧ W.heap.size ≤ b) := by
 have hlen := hown.1; by_cases he : i = n
 ·subst he; refine (ins_end W base v i vb inner cs hown hv hcs h1v hn hbase).mono ?_
  rintro e w' ⟨v', h1, h2, h3, h4⟩
  refine ⟨v', h1, ?_, h3, h4⟩; rw [List.take_of_length_le (by omega), List.drop_of_length_le (by omega), List.append_nil]; exact h2
 obtain ⟨_, ⟨rfl, rfl⟩ | ⟨g, cap, cur, rfl, hb, hg, hnc, hcm, hsz, htk⟩⟩ := hown
 ·omega
 subst htk; have hne : vb ≠ g := fun e => hvb (by rw [e]; rfl)
 have hl2 : (List.take (i * 10) (List.take (n * 10) cur.toList) ++ cs ++ List.drop (i * 10) (List.take (n * 10) cur.toList)).length = (n + 1) * 10 := by
  simp only [List.length_append, List.length_take, List.length_drop, Array.length_toList, hsz, hcs]; omega
 by_cases hroom : n + 1 ≤ cap
 ·refine (ins_shift W g n cap i vb cur cs (by omega) hroom hcm hne hg hsz hv hcs hin1 h1v).mono ?_
  rintro e w' ⟨rfl, c, h1, h2, h3, h4⟩
  exact ⟨_, rfl, ⟨hl2, .inr ⟨g, cap, c, rfl, hb, h2, hroom, hcm, h3, h4⟩⟩, h1, .inl rfl⟩
 ·refine (ins_grow W g n cap i vb cur cs (by omega) hnc (by omega) hn hg hsz hv hcs hin1 h1v).mono ?_
  rintro e w' ⟨G, c, rfl, h1, h2, h3, h4, h5, h6⟩
  exact ⟨_, rfl, ⟨hl2, .inr ⟨_, G, c, rfl, hbase, h2, h3, h4, h5, h6⟩⟩, ⟨h1.os, h1.tape, h1.output, h1.size, fun k hk _ => h1.block k hk (by simp)⟩, .inr ⟨_, rfl, Nat.le_refl _⟩⟩
theorem reps_ins {α : Type} {R : α → List Value → Prop} {size : Nat} {ps : List α} {cs c : List Value} {p : α} (h : Reps R size ps cs) (hp : R p c) (hc : c.length = size) (i : Nat) (hi : i ≤ ps.length) : Reps R size (ps.take i ++ [p] ++ ps.drop i) (cs.take (i * size) ++ c ++ cs.drop (i * size)) := by
 have hil : i * size ≤ cs.length := by rw [h.1]; exact Nat.mul_le_mul_right _ hi
 have ht : (cs.take (i * size)).length = i * size := by rw [List.length_take]; omega
 have htp : (ps.take i).length = i := by rw [List.length_take]; omega
 have hcl := h.1; have him : i * size ≤ ps.length * size := Nat.mul_le_mul_right _ hi; refine ⟨?_, fun j q hq => ?_⟩
 ·have : (ps.take i ++ [p] ++ ps.drop i).length = ps.length + 1 := by simp; omega
  rw [this, List.length_append, List.length_append, ht, hc, List.length_drop, hcl, Nat.add_mul, Nat.one_mul]; omega
 rcases Nat.lt_trichotomy j i with hj | hj | hj
 ·rw [List.append_assoc, List.getElem?_append_left (by omega), List.getElem?_take_of_lt hj] at hq; have h2 := h.2 j q hq; have hjs : j * size + size ≤ i * size := by rw [← Nat.succ_mul]; exact Nat.mul_le_mul_right _ hj
  rw [List.append_assoc, List.drop_append_of_le_length (by omega), List.take_append_of_le_length (by rw [List.length_drop]; omega), List.drop_take, List.take_take, Nat.min_eq_left (by omega)]; exact h2
 ·subst hj; rw [List.append_assoc, List.getElem?_append_right (by omega), htp, Nat.sub_self] at hq; obtain rfl : p = q := by simpa using hq
  rw [List.append_assoc, List.drop_left' ht, List.take_left' hc]; exact hp
 ·obtain ⟨m, rfl⟩ : ∃ m, j = i + 1 + m := ⟨j - (i + 1), by omega⟩
  rw [List.getElem?_append_right (by simp; omega), List.getElem?_drop] at hq; have e1 : i + (i + 1 + m - (ps.take i ++ [p]).length) = i + m := by simp; omega
  rw [e1] at hq; have h2 := h.2 _ q hq; have e2 : (i + 1 + m) * size = (cs.take (i * size) ++ c).length + m * size := by rw [List.length_append, ht, hc, Nat.add_mul, Nat.add_mul]; omega
  rw [e2, List.drop_append, List.drop_of_length_le (by omega), List.nil_append, Nat.add_sub_cancel_left, List.drop_drop, ← Nat.add_mul]; exact h2
theorem reps_one {α : Type} {d : Kd α} {W : World} {base : Nat} {ok : Nat → Prop} : ∀ {xs : List α} {inner : List Value}, Reps (d.M W base ok) d.sz xs inner → ∀ u ∈ inner, u.oneCell' = true := by
 intro xs inner h u hu; obtain ⟨k, hk, rfl⟩ := List.getElem_of_mem hu; by_cases h0 : d.sz = 0
 ·have := h.1; rw [h0, Nat.mul_zero] at this; omega
 have hlt : k / d.sz < xs.length := (Nat.div_lt_iff_lt_mul (by omega)).2 (by rw [← h.1]; exact hk); have hm := h.2 (k / d.sz) _ (List.getElem?_eq_getElem hlt); refine d.K_one (d.K_of_M hm) _ ?_; refine List.mem_of_getElem? (i := k % d.sz) ?_; rw [List.getElem?_take_of_lt (Nat.mod_lt _ (by omega)), List.getElem?_drop, Nat.mul_comm, Nat.div_add_mod, List.getElem?_eq_getElem hk]
theorem R_inserted {α : Type} {d : Kd α} {e base : Nat} {ok okp : Nat → Prop} {W w1 : World} {v v1 : Value} {xs : List α} {p : α} {inner cs : List Value} (i : Nat) (hi : i ≤ xs.length) (h0 : ∀ k, v.ownBlock = some k → ok k) (hr : Reps (d.M W base (fun k => ok k ∧ some k ≠ v.ownBlock)) d.sz xs inner) (hp : d.M W base okp p cs) (hokp : ∀ k, okp k → ok k ∧ some k ≠ v.ownBlock) (hfresh : ∀ k, W.heap.size ≤ k → ok k)
  (hown : w1.ownsRow base e d.sz v1 (xs.length + 1) (inner.take (i * d.sz) ++ cs ++ inner.drop (i * d.sz))) (hg : W.grownBy w1 v.ownBlock) (hat : v1.ownBlock = v.ownBlock ∨ ∃ b, v1.ownBlock = some b ∧ W.heap.size ≤ b) : d.R e w1 base ok v1 (xs.take i ++ [p] ++ xs.drop i) := by
 have hne : ∀ k, some k ≠ v.ownBlock → k < W.heap.size → some k ≠ v1.ownBlock := by
  intro k hk hlt; rcases hat with hat | ⟨b, hb, hle⟩
  ·rw [hat]; exact hk
  ·rw [hb]; intro he; injection he with he
   omega
 have step : ∀ {q : α} {c : List Value} {o : Nat → Prop}, d.M W base o q c → (∀ k, o k → ok k ∧ some k ≠ v.ownBlock) → d.M w1 base (fun k => ok k ∧ some k ≠ v1.ownBlock) q c := by
  intro q c o hq ho; have h1 := d.M_move (w1 := w1) (fun k hk => hg.block k hk.2.2.1 (ho k hk.1).2) (d.M_bound hq); exact d.M_mono (fun k hk => ⟨(ho k hk.1).1, hne k (ho k hk.1).2 hk.2.2.1⟩) h1
 have hl : (xs.take i ++ [p] ++ xs.drop i).length = xs.length + 1 := by simp; omega
 refine ⟨fun k hk => ?_, _, by rw [hl]; exact hown, ?_⟩
 ·rcases hat with hat | ⟨b, hb, hle⟩
  ·exact h0 k (hat ▸ hk)
  ·rw [hb] at hk; injection hk with hk
   exact hfresh k (by omega)
 ·exact reps_ins (hr.imp_ (fun _ _ hq => step hq (fun _ hk => hk))) (step hp hokp) (d.K_len (d.K_of_M hp)) i hi
theorem ins_event {w0 W : World} {ops : Array Oper} {rest : List Oper} {oi : Oper} {a : Act} {Q : Exit → Act → World → Prop} (base : Nat) (N : Option Tmp) (hd : oi.dst = N) (hgd : oi.guard = none) {ars : Array Operand} {ts : Array TypeId} (hop : oi.op = .call { callee := .value (.func 57), args := ars, argTypes := ts })
  (v : Value) (i : Int) (xs : List (S46)) (p : S46) (cs : List Value) (ok okp : Nat → Prop) (hargs : ars.map a.eval = #[v, .int .i64 i, .slice (some ⟨W.heap.size, 0, none⟩) 1 1]) (h0i : 0 ≤ i) (hi : i ≤ (xs.length : Int)) (hl : xs.length ≤ 1000) (hp : Kd.M k46 W base okp p cs) (hokp : ∀ k, okp k → ok k ∧ some k ≠ v.ownBlock) (hfresh : ∀ k, W.heap.size ≤ k → ok k)
  (HO : Kd.R k46 46 W base ok v xs) (HB : Below base w0 W) (hbase : base ≤ W.heap.size)
  (h : ∀ v1 w1, Kd.R k46 46 w1 base ok v1 (xs.take i.toNat ++ [p] ++ xs.drop i.toNat) → Below base w0 w1 → W.grownBy w1 v.ownBlock → (v1.ownBlock = v.ownBlock ∨ ∃ b, v1.ownBlock = some b ∧ W.heap.size ≤ b) → wpList Try.prog ops Q rest (a.put N v1) w1) :
  wpList Try.prog ops Q (oi :: rest) a (W.alloc (.cells cs.toArray 46)) := by
 obtain ⟨h0, inner, hown, hr⟩ := HO; obtain ⟨m, rfl⟩ := Int.eq_ofNat_of_zero_le h0i; have hm : m ≤ xs.length := by omega
 have hbl : ∀ k, v.ownBlock = some k → base ≤ k ∧ k < W.heap.size := fun k hk => by
  obtain ⟨_, ⟨rfl, _⟩ | ⟨g, cap, cur, rfl, hb, hg, _⟩⟩ := hown
  ·cases hk
  ·injection hk with hk
   subst hk; exact ⟨hb, blk_lt hg⟩
 refine goesL_ N hd hgd Try.func57 (by kernel_rfl) rfl _ hop hargs ?_; refine (ins_walk (W.alloc (.cells cs.toArray 46)) base v xs.length W.heap.size m inner cs (hown.alloc _) (reps_one hr) hm (heap_alloc_new W _) (fun e => by have := (hbl _ e.symm).2; omega) (Kd.K_len _ (Kd.K_of_M _ hp)) (Kd.K_one _ (Kd.K_of_M _ hp)) hl (by simp; omega)).mono ?_
 rintro e w1 ⟨v1, rfl, h2, h3, h4⟩
 have hg : W.grownBy w1 v.ownBlock := World.grownBy.trans (World.grownBy_alloc W _ _) h3; have h4' : v1.ownBlock = v.ownBlock ∨ ∃ b, v1.ownBlock = some b ∧ W.heap.size ≤ b := h4.imp id fun ⟨b, hb1, hb2⟩ => ⟨b, hb1, by simp at hb2; omega⟩
 refine ⟨v1, rfl, h v1 w1 ?_ (Below.grown HB hg hbase fun k hk => (hbl k hk).1) hg h4'⟩; exact R_inserted m hm h0 hr hp hokp hfresh h2 hg h4'
def impl_Bundle_56.f (l0 : List (S46)) : Option (List (S46)) := if l0.length ≤ 1000 then some l0 else none
set_option maxHeartbeats 4000000 in
set_option maxRecDepth 100000 in
theorem impl_Bundle_56.calls (A0 : Option Addr) (c0 : Nat) (l0 : List (S46)) (r : List (S46)) (w : World) (hr0 : Kd.C k46 w A0 l0.length l0) (hc0 : l0.length ≤ c0) (h : impl_Bundle_56.f l0 = some r) :
  Calls Try.prog 56 #[.slice A0 l0.length c0] w fun e w' => ∃ v0_ : Value, e = .returned (v0_) ∧ Kd.R k46 46 w' w.heap.size (fun _ => True) v0_ r ∧ Below w.heap.size w w' := by
 unfold impl_Bundle_56.f at h; by_cases hp : l0.length ≤ 1000
 case neg => rw [if_neg hp] at h; cases h
 rw [if_pos hp] at h; obtain rfl := Option.some.inj h; clear h; have HR0 := Aside0.mk hr0; have q27 : ∀ (W : World) (a : Option Addr) (n c n' c' : Nat), (binOp .eql 27 (.slice a n c) (.slice none n' c')).run Try.prog W = .ok (.bool a.isNone) W := fun W a n c n' c' => Lib.run_eql_slice_nil W _ _ a n c n' c' Try.underlying27
 cases A0 with
 | none =>
  have hz : l0.length = 0 := by
   rcases Nat.eq_zero_or_pos l0.length with h | h
   ·exact h
   ·obtain ⟨ad, e, _⟩ := hr0.2.2 h; cases e
  clear hr0
  go_enter Try.func56, Try.ntmps56
  go_wp2; go_ret; rw [List.length_eq_zero_iff.1 hz]; exact ⟨.slice none 0 0, rfl, ⟨fun k hk => (by cases hk), [], ⟨by simp, .inl ⟨rfl, rfl⟩⟩, Reps.none _ _⟩, Below.refl _ _⟩
 | some ad =>
  clear hr0
  go_enter Try.func56, Try.ntmps56
  go_wp2_with (first
   | ((with_reducible refine gate_dst (N := 5) rfl ?_); refine Kd.R_lit k46 _ 46 ?hg (N := 5) ?hd (xs := ([] : List (S46))) (inner := []) (ok := fun _ => True) (okp := fun _ => True) ?hr ?hp (fun _ hk => hk) trivial (Below.refl _ _) (Nat.le_refl _) (by simp) ?_; (case hd => rfl); (case hg => rfl); (case hr => first | (go_simp; done) | (go_simp; rfl)); (case hp => exact (Reps.none _ _)); intro v235 w3 ho4 hb hg_ hnew_; clear hg_ hnew_)
   | ((with_reducible refine gate_builtin (b := .append) (xs := #[.tmp 5, .tmp 6]) rfl ?_); at_builtin; refine Kd.R_append_rows k46 (w0 := w) w.heap.size rfl (.tmp 5) (.tmp 6) 27 46 (.agg #[(.int .i64 0), (.int .i64 0), (.bool false), (.int .i64 0), (.int .i64 0), (.int .i64 0), (.int .i64 0), (.int .i64 0), (.int .i64 0), (.string ⟨#[]⟩)]) 88 rfl Try.underlying27 ins_info rfl (by decide) (by omega) v235 ([] : List (S46)) l0 _ _ _ (fun _ => True) (fun _ => False) rfl rfl (Kd.R_lower ho4 (Nat.le_refl _)) (Kd.C_below HR0.out hb) (fun _ _ h => h) (fun _ h => h.elim) (fun _ _ => trivial) hb (below_size hb) (by simp; omega) ?_; intro v238 w5 ho hb2 hg hat))
  go_ret; exact ⟨_, rfl, ho, hb2⟩
-- NOT PRINTED: function 74 (impl_Bundle_74)
-- NOT PRINTED: function 92 (impl_Bundle_92)
-- NOT PRINTED: function 80 (impl_Bundle_80)
-- NOT PRINTED: function 75 (impl_Bundle_75)
-- NOT PRINTED: function 57 (impl_Bundle_57)
end Go.Proofs.Ytlkbbolkadkedaa.QFnPieces
