/- What the row of this claim reaches. No condition. -/
import Derived.Lib.AppendZerosOnto
import Derived.Lib.Overlaps
import Derived.Laws.Externs
import Derived.Laws.CopyRow
import Derived.Laws.Cover3
import Derived.Shelf.Spec.SlicesInsert
import Derived.Test.YtknlbfandkmeiaaQVBase
set_option linter.unusedVariables false
set_option linter.unusedSimpArgs false
namespace Go.Proofs.Ytknlbfandkmeiaa.M
open Go.RowKit
theorem eql_none_nil {P : Program} (w : World) (t e : TypeId) (l c : Nat) (h : P.underlying t = some (.slice e)) : (binOp .eql t (.slice none l c) (.slice none 0 0)).run P w = .ok (.bool true) w := by
  simp only [binOp]
  simp [run_equal_slice_nil w t e none l c h]
theorem eql_some_nil {P : Program} (w : World) (t e : TypeId) (a : Addr) (l c : Nat) (h : P.underlying t = some (.slice e)) : (binOp .eql t (.slice (some a) l c) (.slice none 0 0)).run P w = .ok (.bool false) w := by
  simp only [binOp]
  simp [run_equal_slice_nil w t e (some a) l c h]
theorem row_info : (Try.prog.info? 51).map (fun i => (i.zero, i.size, i.bytes)) = some (some (.agg #[(.int .u32 0), (.int .i64 0), (.int .i64 0), (.int .i64 0), (.int .i64 0), (.int .i64 0)]), 6, 48) := by kernel_rfl
theorem row_size (w : World) : (Go.sizeOf 51).run Try.prog w = .ok 6 w := by
  obtain ⟨i, hi, _, hs, _⟩ := info_parts row_info
  simp [Go.sizeOf, typeInfo, hi, hs]
theorem copy_rows (w : World) (dT sT ty elem : TypeId) (g o dLen dCap : Nat) (a : Addr) (sLen sCap m : Nat) (cur : Array Value) (t : TypeId) (cs : List Value) (i : TypeInfo)
    (hu : Try.prog.underlying dT = some (.slice elem)) (hi : Try.prog.info? elem = some i) (hg : w.heap[g]? = some (.cells cur t (0, 0))) (hm : m = Nat.min sLen dLen) (hn : cs.length = m * i.size)
    (hsrc : ∀ j v, cs[j]? = some v → w.cell? (a.add j) = some v) (hfit : o + cs.length ≤ cur.size) (h1 : ∀ v ∈ cs, v.oneCell' = true) :
    (Builtin.copy_ #[dT, sT] ty #[.slice (some ⟨g, o, none⟩) dLen dCap, .slice (some a) sLen sCap]).run Try.prog w =
      .ok (goInt m) (w.setRow g (cur.toList.take o ++ cs ++ cur.toList.drop (o + cs.length)).toArray) := by
  have hl := run_loadCells_list (P := Try.prog) w a cs hsrc
  have hst := run_storeCells_at Try.prog g o t cs 0 cur w hg (by simpa using hfit) h1
  subst hm
  simp [Builtin.copy_, run_underlying hu, Builtin.lenOf, Builtin.firstCells, sizeOf, typeInfo, hi, ← hn, hl, hst]
theorem grown_setRow (w : World) (g : Nat) (cs : Array Value) : w.grownBy (w.setRow g cs) (some g) :=
  ⟨rfl, rfl, rfl, by simp, fun k _ hk => setRow_other w g k _ (fun e => hk (by rw [e]))⟩
theorem grown_trans {w w1 w2 : World} {r : Option Nat} (h : w.grownBy w1 r) (h2 : w1.grownBy w2 r) : w.grownBy w2 r :=
  ⟨h2.os.trans h.os, h2.tape.trans h.tape, h2.output.trans h.output, Nat.le_trans h.size h2.size, fun k hk hr => (h2.block k (Nat.lt_of_lt_of_le hk h.size) hr).trans (h.block k hk hr)⟩
theorem grown_drew (w : World) (r : Option Nat) : w.grownBy w.drew r := ⟨rfl, rfl, rfl, Nat.le_refl _, fun _ _ _ => rfl⟩
theorem add_lit0 (g n : Nat) : (⟨g, 0, none⟩ : Addr).add n = ⟨g, n, none⟩ := by unfold Addr.add; split <;> simp_all
theorem blk_cells {w : World} {g : Nat} {t : TypeId} {cs : List Value} (h : Blk w g t cs.toArray) : ∀ j v, cs[j]? = some v → w.cell? ((⟨g, 0, none⟩ : Addr).add j) = some v := by
  intro j v hj
  rw [add_lit0, h.cell j, List.getElem?_toArray]
  exact hj
set_option maxHeartbeats 4000000 in
set_option maxRecDepth 100000 in
theorem insert_end (n₀ : Nat) (v : Value) (n : Nat) (xs news : List Value) (vb : Nat) (w : World) (hown : w.ownsRow n₀ 51 6 v n xs) (hn : n ≤ 1000) (hv : Blk w vb 51 news.toArray) (hvl : news.length = 6)
    (h1n : ∀ u ∈ news, u.oneCell' = true) (hbase : n₀ ≤ w.heap.size) :
    Calls Try.prog 68 #[v, .int .i64 n, .slice (some ⟨vb, 0, none⟩) 1 1] w fun e w' => ∃ v', e = .returned v' ∧ w'.ownsRow n₀ 51 6 v' (n + 1) (xs ++ news) ∧ w.grownBy w' v.ownBlock := by
  obtain ⟨i0, hi0, hz0, hz1, hz2⟩ := info_parts row_info
  have hu22 := Try.underlying22
  obtain ⟨v1, w1, hrun, ho1, hg1, _⟩ := run_append_own (P := Try.prog) (w := w) n₀ 22 22 51 i0 _ 6 48 Try.underlying22 hi0 hz0 hz1 hz2 rfl (by decide) v n xs hown ⟨vb, 0, none⟩ 1 1 news (by rw [hvl]) (blk_cells hv) h1n (by unfold maxLen; omega) (by omega) hbase
  have HR := Lib.hid hrun
  clear hrun
  have hz : ((n : Int) == (n : Int)) = true := by simp
  rcases hown.2 with ⟨rfl, rfl⟩ | ⟨g, cap, cur, rfl, hbg, hgg, hncap, hcap, hsz, htake⟩
  · go_enter Try.func68, Try.ntmps68
    go_wp2_with (at_builtin; refine Lib.wpList_append_run _ rfl _ _ _ _ rfl _ _ rfl rfl _ _ HR.out ?_)
    go_ret
    exact ⟨_, rfl, ho1, hg1⟩
  · go_enter Try.func68, Try.ntmps68
    go_wp2_with (at_builtin; refine Lib.wpList_append_run _ rfl _ _ _ _ rfl _ _ rfl rfl _ _ HR.out ?_)
    all_goals (go_ret; exact ⟨_, rfl, ho1, hg1⟩)
theorem overlaps_no (w : World) (a b : Addr) (la ca lb cb : Nat) (hne : a.block ≠ b.block) (ca1 cb1 : Array Value) (ta tb : TypeId) (ha : Blk w a.block ta ca1) (hb : Blk w b.block tb cb1) (hb1 : cb1.size ≠ 0) :
    (callFunc 87 #[.slice (some a) la ca, .slice (some b) lb cb]).run Try.prog w = .ok (.value (.bool false)) w := by
  unfold Blk at ha hb
  rw [run_callFunc_extern Try.func87 (by kernel_rfl) (by kernel_rfl) (by kernel_rfl) (e := Extern.SlicesOverlaps.overlaps #[22, 22] #[4]) (by kernel_rfl),
    Lib.run_overlaps_apart w 22 4 51 Try.underlying22 6 row_size a b la ca lb cb hne ta tb ca1.size cb1.size (by simp [World.shape?, ha]) (by simp [World.shape?, hb]) hb1 (by simp [World.frozen?, ha]) (by simp [World.frozen?, ha])]
  rfl
theorem ins_cells (cur xs news : List Value) (n i k : Nat) (hx : cur.take (n * 6) = xs) (hxl : xs.length = n * 6) (hi : i ≤ n) (hk : (n + 1) * 6 ≤ cur.length) (hnl : news.length = 6) :
    let c1 := cur.take ((i + 1) * 6) ++ xs.drop (i * 6) ++ cur.drop ((i + 1) * 6 + (xs.drop (i * 6)).length)
    (c1.take (i * 6) ++ news ++ c1.drop (i * 6 + news.length)).take ((n + 1) * 6) = xs.take (i * 6) ++ news ++ xs.drop (i * 6) := by
  intro c1
  have e1 : c1.take (i * 6) = xs.take (i * 6) := by
    show List.take _ (_ ++ _ ++ _) = _
    rw [← hx, List.take_take, List.append_assoc, List.take_append_of_le_length (by rw [List.length_take]; omega), List.take_take]
    congr 1
    omega
  have e2 : c1.drop (i * 6 + news.length) = xs.drop (i * 6) ++ cur.drop ((i + 1) * 6 + (xs.drop (i * 6)).length) := by
    show List.drop _ (_ ++ _ ++ _) = _
    rw [List.append_assoc, hnl, show i * 6 + 6 = (cur.take ((i + 1) * 6)).length by rw [List.length_take]; omega, List.drop_left]
  rw [e1, e2, ← List.append_assoc, show (n + 1) * 6 = (xs.take (i * 6) ++ news ++ xs.drop (i * 6)).length by simp [hnl, hxl]; omega, List.take_left]
set_option maxHeartbeats 4000000 in
set_option maxRecDepth 100000 in
theorem insert_shift (n₀ g cap i : Nat) (cur : Array Value) (n : Nat) (xs news : List Value) (vb : Nat) (w : World) (hbg : n₀ ≤ g) (hg : Blk w g 51 cur) (hsz : cur.size = cap * 6) (hroom : n + 1 ≤ cap) (hcap : cap ≤ maxLen) (hxl : xs.length = n * 6) (htake : cur.toList.take (n * 6) = xs)
    (hi : i < n) (hv : Blk w vb 51 news.toArray) (hvl : news.length = 6) (h1n : ∀ u ∈ news, u.oneCell' = true) (h1x : ∀ u ∈ xs, u.oneCell' = true) (hne : vb ≠ g) :
    Calls Try.prog 68 #[.slice (some ⟨g, 0, none⟩) n cap, .int .i64 i, .slice (some ⟨vb, 0, none⟩) 1 1] w fun e w' => ∃ v', e = .returned v' ∧ w'.ownsRow n₀ 51 6 v' (n + 1) (xs.take (i * 6) ++ news ++ xs.drop (i * 6)) ∧ w.grownBy w' (some g) := by
  obtain ⟨i0, hi0, hz0, hz1, hz2⟩ := info_parts row_info
  have hc63 : cap ≤ 9223372036854775807 := by unfold maxLen at hcap; omega
  have hw1 : IntKind.i64.wrap ((i : Int) + 1) = (i : Int) + 1 := by rw [IntKind.wrap_i64]; omega
  have hw2 : IntKind.i64.wrap ((n : Int) + 1) = (n : Int) + 1 := by rw [IntKind.wrap_i64]; omega
  have hb1 : (0 : Int) ≤ (i : Int) + 1 := by omega
  have hz2 : ¬ ((i : Int) = (n : Int)) := by omega
  have hin : i ≤ n := by omega
  have htn : ((i : Int) + 1).toNat = i + 1 := by omega
  have hb2 : ¬ (cap = i + 1) := by omega
  have hb3 : (i : Int) ≤ (n : Int) + 1 := by omega
  have hb4 : ¬ (cap = i) := by omega
  have hb5 : ¬ ((cap : Int) < (n : Int) + 1) := by omega
  have hov := fun lb cb => overlaps_no w ⟨vb, 0, none⟩ ⟨g, (i + 1) * 6, none⟩ 1 1 lb cb hne _ _ 51 51 hv hg (by omega)
  have hu22 := Try.underlying22
  have hxd : (xs.drop (i * 6)).length = (n - i) * 6 := by rw [List.length_drop, hxl, Nat.sub_mul]
  have hcells : ∀ j v, xs[j]? = some v → w.cell? ⟨g, j, none⟩ = some v := fun j v hj => by
    rw [hg.cell j, ← Array.getElem?_toList]
    rw [← htake, List.getElem?_take] at hj
    split at hj
    · exact hj
    · cases hj
  have hlen : cur.toList.length = cur.size := Array.length_toList
  obtain ⟨C1, hC1⟩ : ∃ C : List Value, C = cur.toList.take ((i + 1) * 6) ++ xs.drop (i * 6) ++ cur.toList.drop ((i + 1) * 6 + (xs.drop (i * 6)).length) := ⟨_, rfl⟩
  have hC1l : C1.length = cap * 6 := by
    rw [hC1]
    simp only [List.length_append, List.length_take, List.length_drop, hlen, hsz, hxl]
    omega
  have hcp1 : ∀ ty dc sc, (Builtin.copy_ #[22, 22] ty #[.slice (some ⟨g, (i + 1) * 6, none⟩) (n - i) dc, .slice (some ⟨g, i * 6, none⟩) (n + 1 - i) sc]).run Try.prog w.drew = .ok (goInt ((n - i : Nat) : Int)) (w.drew.setRow g C1.toArray) := fun ty dc sc => by
    rw [hC1]
    exact copy_rows w.drew 22 22 ty 51 g ((i + 1) * 6) (n - i) dc ⟨g, i * 6, none⟩ (n + 1 - i) sc (n - i) cur 51 (xs.drop (i * 6)) i0 Try.underlying22 hi0 hg (by simp only [Nat.min_def]; split <;> omega) (by rw [hxd, hz1])
      (fun j v hj => by rw [Addr.add_lit]; exact hcells (i * 6 + j) v (by rwa [List.getElem?_drop] at hj)) (by rw [hxd, hsz]; omega) (fun v hv => h1x v (List.mem_of_mem_drop hv))
  obtain ⟨W1, hW1⟩ : ∃ W1, W1 = w.drew.setRow g C1.toArray := ⟨_, rfl⟩
  rw [← hW1] at hcp1
  have hg1 : Blk W1 g 51 C1.toArray := by rw [hW1]; exact setRow_heap w.drew g cur _ 51 (0, 0) hg
  have hv1 : Blk W1 vb 51 news.toArray := by rw [hW1]; exact (setRow_other w.drew g vb _ hne).trans hv
  obtain ⟨C2, hC2⟩ : ∃ C : List Value, C = C1.take (i * 6) ++ news ++ C1.drop (i * 6 + news.length) := ⟨_, rfl⟩
  have hcp2 : ∀ ty dc, (Builtin.copy_ #[22, 22] ty #[.slice (some ⟨g, i * 6, none⟩) (n + 1 - i) dc, .slice (some ⟨vb, 0, none⟩) 1 1]).run Try.prog W1 = .ok (goInt 1) (W1.setRow g C2.toArray) := fun ty dc => by
    rw [hC2]
    exact copy_rows W1 22 22 ty 51 g (i * 6) (n + 1 - i) dc ⟨vb, 0, none⟩ 1 1 1 C1.toArray 51 news i0 Try.underlying22 hi0 hg1 (by simp only [Nat.min_def]; split <;> omega) (by rw [hvl, hz1])
      (blk_cells hv1) (by rw [List.size_toArray, hC1l, hvl]; omega) h1n
  have hG : w.grownBy (W1.setRow g C2.toArray) (some g) := grown_trans (grown_trans (grown_drew w _) (by rw [hW1]; exact grown_setRow w.drew g _)) (grown_setRow W1 g _)
  have hO : (W1.setRow g C2.toArray).ownsRow n₀ 51 6 (.slice (some ⟨g, 0, none⟩) (n + 1) cap) (n + 1) (xs.take (i * 6) ++ news ++ xs.drop (i * 6)) := by
    refine ⟨by simp [hvl, hxl]; omega, .inr ⟨g, cap, C2.toArray, rfl, hbg, setRow_heap W1 g _ _ 51 (0, 0) hg1, hroom, hcap, ?_, ?_⟩⟩
    · rw [hC2]
      simp only [List.size_toArray, List.length_append, List.length_take, List.length_drop, hC1l, hvl]
      omega
    · rw [hC2, hC1]
      exact ins_cells cur.toList xs news n i 0 htake hxl hin (by rw [hlen, hsz]; omega) hvl
  have mixed : Try.prog.follows Departure.mixedOrders = true := by kernel_rfl
  have HP2 := Lib.hid hcp2
  have HP1 := Lib.hid hcp1
  clear hcp1 hcp2 hC1 hC2 hW1 htake hcells hg1 hv1 hg hv
  go_enter Try.func68, Try.ntmps68
  go_wp2_with (simp only [hov])
  have hcp1 := HP1.out
  go_region_law_o (refine step_copy_runI rfl _ _ 22 22 rfl _ _ (by simp [Act.eval, Act.put]) (by simp [Act.eval, Act.put]) (hcp1 _ _ _) ?_)
  have hcp2 := HP2.out
  go_wp2
  go_ret
  exact ⟨_, rfl, hO, hG⟩
theorem insg_cells (Z xs news : List Value) (n i : Nat) (hxl : xs.length = n * 6) (hi : i ≤ n) (hk : (n + 1) * 6 ≤ i * 6 + Z.length) (hnl : news.length = 6) :
    let c0 := xs.take (i * 6) ++ Z
    let c1 := c0.take (i * 6) ++ news ++ c0.drop (i * 6 + news.length)
    (c1.take ((i + 1) * 6) ++ xs.drop (i * 6) ++ c1.drop ((i + 1) * 6 + (xs.drop (i * 6)).length)).take ((n + 1) * 6) = xs.take (i * 6) ++ news ++ xs.drop (i * 6) := by
  intro c0 c1
  have e0 : c0.take (i * 6) = xs.take (i * 6) := by
    show List.take _ (_ ++ _) = _
    rw [List.take_append_of_le_length (by rw [List.length_take]; omega), List.take_take]
    congr 1
    omega
  have e1 : c1.take ((i + 1) * 6) = xs.take (i * 6) ++ news := by
    show List.take _ (_ ++ _ ++ _) = _
    rw [e0, List.take_append_of_le_length (by rw [List.length_append, List.length_take, hnl]; omega), List.take_of_length_le (by rw [List.length_append, List.length_take, hnl]; omega)]
  rw [e1, show (n + 1) * 6 = (xs.take (i * 6) ++ news ++ xs.drop (i * 6)).length by simp [hnl, hxl]; omega, List.take_left]
set_option maxHeartbeats 4000000 in
set_option maxRecDepth 100000 in
theorem insert_grow (n₀ g cap i : Nat) (cur : Array Value) (n : Nat) (xs news : List Value) (vb : Nat) (w : World) (hn : n ≤ 1000) (hbase : n₀ ≤ w.heap.size) (hg : Blk w g 51 cur) (hsz : cur.size = cap * 6) (hncap : n ≤ cap) (hroom : cap < n + 1) (hcap : cap ≤ maxLen) (hxl : xs.length = n * 6) (htake : cur.toList.take (n * 6) = xs)
    (hi : i < n) (hv : Blk w vb 51 news.toArray) (hvl : news.length = 6) (h1n : ∀ u ∈ news, u.oneCell' = true) (h1x : ∀ u ∈ xs, u.oneCell' = true) :
    Calls Try.prog 68 #[.slice (some ⟨g, 0, none⟩) n cap, .int .i64 i, .slice (some ⟨vb, 0, none⟩) 1 1] w fun e w' => ∃ v', e = .returned v' ∧ w'.ownsRow n₀ 51 6 v' (n + 1) (xs.take (i * 6) ++ news ++ xs.drop (i * 6)) ∧ w.grownBy w' none := by
  obtain ⟨i0, hi0, hz0, hz1, hzb⟩ := info_parts row_info
  have hw1 : IntKind.i64.wrap ((i : Int) + 1) = (i : Int) + 1 := by rw [IntKind.wrap_i64]; omega
  have hw2 : IntKind.i64.wrap ((n : Int) + 1) = (n : Int) + 1 := by rw [IntKind.wrap_i64]; omega
  have hw3 : IntKind.i64.wrap ((n : Int) + 1 - i) = (n : Int) + 1 - i := by rw [IntKind.wrap_i64]; omega
  have hb1 : (0 : Int) ≤ (i : Int) + 1 := by omega
  have hz2 : ¬ ((i : Int) = (n : Int)) := by omega
  have hin : i ≤ n := by omega
  have htn : ((i : Int) + 1).toNat = i + 1 := by omega
  have hz3 : (cap : Int) < (n : Int) + 1 := by omega
  have hb3 : (i : Int) ≤ (n : Int) + 1 := by omega
  have hb4 : ¬ (cap = i) := by omega
  have hkk : (n : Int) + 1 - (i : Int) = ((n + 1 - i : Nat) : Int) := by omega
  have hik : i + (n + 1 - i) = n + 1 := by omega
  have hu22 := Try.underlying22
  have hxd : (xs.drop (i * 6)).length = (n - i) * 6 := by rw [List.length_drop, hxl, Nat.sub_mul]
  have hgw : g < w.heap.size := hg.lt
  have hvw : vb < w.heap.size := hv.lt
  have hcells : ∀ j v, xs[j]? = some v → w.cell? ⟨g, j, none⟩ = some v := fun j v hj => by
    rw [hg.cell j, ← Array.getElem?_toList]
    rw [← htake, List.getElem?_take] at hj
    split at hj
    · exact hj
    · cases hj
  have hold : (Builtin.firstCells i0.size i (.slice (some ⟨g, 0, none⟩) i cap)).run Try.prog w.drew = .ok (xs.take (i * 6)).toArray w.drew := by
    rw [hz1]
    exact run_firstCells_some w.drew 6 i ⟨g, 0, none⟩ i cap (xs.take (i * 6)) (by rw [List.length_take]; omega) (fun j v hj => by
      rw [add_lit0]
      rw [List.getElem?_take] at hj
      split at hj
      · exact hcells j v hj
      · cases hj)
  obtain ⟨G, hG⟩ : ∃ G, G = grownCap w (n + 1) cap 51 := ⟨_, rfl⟩
  obtain ⟨Z, hZ⟩ : ∃ Z : List Value, Z = (Builtin.zeroCells (Value.agg #[(.int .u32 0), (.int .i64 0), (.int .i64 0), (.int .i64 0), (.int .i64 0), (.int .i64 0)]).cells (n + 1 - i) ++ Builtin.zeroCells (Value.agg #[(.int .u32 0), (.int .i64 0), (.int .i64 0), (.int .i64 0), (.int .i64 0), (.int .i64 0)]).cells (G - (n + 1))).toList := ⟨_, rfl⟩
  have hGn : n + 1 ≤ G := by rw [hG]; exact grownCap_ge w _ _ _
  have hGm : G ≤ maxLen := by rw [hG]; exact grownCap_le_maxLen w (n + 1) cap 51 (by unfold maxLen; omega)
  have hG63 : G ≤ 9223372036854775807 := by unfold maxLen at hGm; omega
  have hZl : Z.length = (G - i) * 6 := by
    rw [hZ]
    simp only [Array.length_toList, Array.size_append, size_zeroCells, Value.cells, List.size_toArray, List.length_cons, List.length_nil]
    omega
  have hrz : ∀ ty, (Builtin.append_ #[22, 3] ty #[.slice (some ⟨g, 0, none⟩) i cap, .int .i64 ((n : Int) + 1 - (i : Int))]).run Try.prog w =
      .ok (.slice (some ⟨w.heap.size, 0, none⟩) (n + 1) G) (w.drew.alloc (.cells (xs.take (i * 6) ++ Z).toArray 51)) := fun ty => by
    have h := Lib.run_append_grow_zeros w 22 3 ty 51 i0 _ .i64 .i64 Try.underlying22 Try.underlying3 hi0 hz0 (some ⟨g, 0, none⟩) i cap (xs.take (i * 6)) hold (n + 1 - i) (by omega) (by omega) (by omega) (by omega) (by rw [hzb]; omega) (by rw [hzb, hik]; exact growslice_fits hroom (by omega))
    rw [hik, ← hG] at h
    rw [hkk, h, hZ]
    congr 4
    simp [Array.append_assoc]
  have hC0l : (xs.take (i * 6) ++ Z).length = G * 6 := by rw [List.length_append, List.length_take, hZl, hxl]; omega
  obtain ⟨C0, hC0⟩ : ∃ C : List Value, C = xs.take (i * 6) ++ Z := ⟨_, rfl⟩
  rw [← hC0] at hrz hC0l
  obtain ⟨W1, hW1⟩ : ∃ W1, W1 = w.drew.alloc (.cells C0.toArray 51) := ⟨_, rfl⟩
  rw [← hW1] at hrz
  have hN : Blk W1 w.heap.size 51 C0.toArray := by rw [hW1]; exact Blk.new w.drew 51 _
  have hg1 : Blk W1 g 51 cur := by rw [hW1]; exact (heap_alloc_old w.drew _ hgw).trans hg
  have hv1 : Blk W1 vb 51 news.toArray := by rw [hW1]; exact (heap_alloc_old w.drew _ hvw).trans hv
  have hGr : w.grownBy W1 none := by rw [hW1]; exact grown_trans (grown_drew w _) (World.grownBy_alloc _ _ _)
  obtain ⟨N, hNN⟩ : ∃ N, N = w.heap.size := ⟨_, rfl⟩
  rw [← hNN] at hrz hN hgw hvw
  obtain ⟨C1, hC1⟩ : ∃ C : List Value, C = C0.take (i * 6) ++ news ++ C0.drop (i * 6 + news.length) := ⟨_, rfl⟩
  have hC1l : C1.length = G * 6 := by
    rw [hC1]
    simp only [List.length_append, List.length_take, List.length_drop, hC0l, hvl]
    omega
  have hcpA : ∀ ty dc, (Builtin.copy_ #[22, 22] ty #[.slice (some ⟨N, i * 6, none⟩) (n + 1 - i) dc, .slice (some ⟨vb, 0, none⟩) 1 1]).run Try.prog W1 = .ok (goInt 1) (W1.setRow N C1.toArray) := fun ty dc => by
    rw [hC1]
    exact copy_rows W1 22 22 ty 51 N (i * 6) (n + 1 - i) dc ⟨vb, 0, none⟩ 1 1 1 C0.toArray 51 news i0 Try.underlying22 hi0 hN (by simp only [Nat.min_def]; split <;> omega) (by rw [hvl, hz1])
      (blk_cells hv1) (by rw [List.size_toArray, hC0l, hvl]; omega) h1n
  obtain ⟨W2, hW2⟩ : ∃ W2, W2 = W1.setRow N C1.toArray := ⟨_, rfl⟩
  rw [← hW2] at hcpA
  have hN2 : Blk W2 N 51 C1.toArray := by rw [hW2]; exact setRow_heap W1 N _ _ 51 (0, 0) hN
  have hg2 : Blk W2 g 51 cur := by rw [hW2]; exact (setRow_other W1 N g _ (by omega)).trans hg1
  have hcells2 : ∀ j v, xs[j]? = some v → W2.cell? ⟨g, j, none⟩ = some v := fun j v hj => by
    rw [hg2.cell j, ← Array.getElem?_toList]
    rw [← htake, List.getElem?_take] at hj
    split at hj
    · exact hj
    · cases hj
  obtain ⟨C2, hC2⟩ : ∃ C : List Value, C = C1.take ((i + 1) * 6) ++ xs.drop (i * 6) ++ C1.drop ((i + 1) * 6 + (xs.drop (i * 6)).length) := ⟨_, rfl⟩
  have hcpB : ∀ ty dc sc, (Builtin.copy_ #[22, 22] ty #[.slice (some ⟨N, (i + 1) * 6, none⟩) (n - i) dc, .slice (some ⟨g, i * 6, none⟩) (n - i) sc]).run Try.prog W2.drew = .ok (goInt ((n - i : Nat) : Int)) (W2.drew.setRow N C2.toArray) := fun ty dc sc => by
    rw [hC2]
    exact copy_rows W2.drew 22 22 ty 51 N ((i + 1) * 6) (n - i) dc ⟨g, i * 6, none⟩ (n - i) sc (n - i) C1.toArray 51 (xs.drop (i * 6)) i0 Try.underlying22 hi0 hN2 (by simp only [Nat.min_def]; split <;> omega) (by rw [hxd, hz1])
      (fun j v hj => by rw [Addr.add_lit]; exact hcells2 (i * 6 + j) v (by rwa [List.getElem?_drop] at hj)) (by rw [hxd, List.size_toArray, hC1l]; omega) (fun v hv => h1x v (List.mem_of_mem_drop hv))
  have hGr2 : w.grownBy (W2.drew.setRow N C2.toArray) none := by
    have a1 : W1.grownBy W2 (some N) := by rw [hW2]; exact grown_setRow W1 N _
    have a2 : W2.grownBy (W2.drew.setRow N C2.toArray) (some N) := grown_trans (grown_drew W2 _) (grown_setRow W2.drew N _)
    have a3 := grown_trans a1 a2
    exact ⟨a3.os.trans hGr.os, a3.tape.trans hGr.tape, a3.output.trans hGr.output, Nat.le_trans hGr.size a3.size, fun k hk _ => (a3.block k (Nat.lt_of_lt_of_le hk hGr.size) (fun e => by injection e with e; omega)).trans (hGr.block k hk (by simp))⟩
  have hO : (W2.drew.setRow N C2.toArray).ownsRow n₀ 51 6 (.slice (some ⟨N, 0, none⟩) (n + 1) G) (n + 1) (xs.take (i * 6) ++ news ++ xs.drop (i * 6)) := by
    refine ⟨by simp [hvl, hxl]; omega, .inr ⟨N, G, C2.toArray, rfl, by omega, setRow_heap W2.drew N _ _ 51 (0, 0) hN2, hGn, hGm, ?_, ?_⟩⟩
    · rw [hC2]
      simp only [List.size_toArray, List.length_append, List.length_take, List.length_drop, hC1l, hxl]
      omega
    · rw [hC2, hC1, hC0]
      exact insg_cells Z xs news n i hxl hin (by rw [hZl]; omega) hvl
  have mixed : Try.prog.follows Departure.mixedOrders = true := by kernel_rfl
  have HR := Lib.hid hrz
  have HA := Lib.hid hcpA
  have HB := Lib.hid hcpB
  have hGi : ¬ (G = i) := by omega
  have hGi1 : ¬ (G = i + 1) := by omega
  clear hrz hcpA hcpB hC0 hC1 hC2 hW1 hW2 htake hcells hcells2 hg1 hv1 hg hv hN hN2 hg2 hold hZ hG hkk hNN
  go_enter Try.func68, Try.ntmps68
  have hcpA := HA.out
  go_wp2_with (at_builtin; refine Lib.wpList_append_run _ rfl _ _ _ _ rfl _ _ rfl rfl _ _ (HR.out _) ?_)
  have hcpB := HB.out
  go_region_law_o (refine step_copy_runI rfl _ _ 22 22 rfl _ _ (by simp [Act.eval, Act.put]) (by simp [Act.eval, Act.put]) (hcpB _ _ _) ?_)
  go_wp2
  go_ret
  exact ⟨_, rfl, hO, hGr2⟩
theorem insert_any (n₀ : Nat) (v : Value) (n i : Nat) (xs news : List Value) (vb : Nat) (w : World) (hown : w.ownsRow n₀ 51 6 v n xs) (hn : n ≤ 1000) (hi : i ≤ n) (hv : Blk w vb 51 news.toArray) (hvl : news.length = 6)
    (h1n : ∀ u ∈ news, u.oneCell' = true) (h1x : ∀ u ∈ xs, u.oneCell' = true) (hne : v.ownBlock ≠ some vb) (hbase : n₀ ≤ w.heap.size) :
    Calls Try.prog 68 #[v, .int .i64 i, .slice (some ⟨vb, 0, none⟩) 1 1] w fun e w' => ∃ v', e = .returned v' ∧ w'.ownsRow n₀ 51 6 v' (n + 1) (xs.take (i * 6) ++ news ++ xs.drop (i * 6)) ∧ w.grownBy w' v.ownBlock := by
  by_cases he : i = n
  · subst he
    rw [List.take_of_length_le (by rw [hown.1]; omega), List.drop_eq_nil_of_le (by rw [hown.1]; omega), List.append_nil]
    exact insert_end n₀ v i xs news vb w hown hn hv hvl h1n hbase
  · rcases hown.2 with ⟨rfl, rfl⟩ | ⟨g, cap, cur, rfl, hbg, hgg, hncap, hcap, hsz, htake⟩
    · omega
    · by_cases hroom : n + 1 ≤ cap
      · exact insert_shift n₀ g cap i cur n xs news vb w hbg hgg hsz hroom hcap hown.1 htake (by omega) hv hvl h1n h1x (fun e => hne (by rw [e]; rfl))
      · refine (insert_grow n₀ g cap i cur n xs news vb w hn hbase hgg hsz hncap (by omega) hcap hown.1 htake (by omega) hv hvl h1n h1x).mono ?_
        rintro e w' ⟨v', h1, h2, h3⟩
        exact ⟨v', h1, h2, h3.os, h3.tape, h3.output, h3.size, fun k hk _ => h3.block k hk (by simp)⟩
end Go.Proofs.Ytknlbfandkmeiaa.M
