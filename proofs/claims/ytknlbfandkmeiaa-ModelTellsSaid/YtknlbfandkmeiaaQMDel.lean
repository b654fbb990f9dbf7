/- What the row of this claim reaches. No condition. -/
import Derived.Test.YtknlbfandkmeiaaQMIns
set_option linter.unusedVariables false
set_option linter.unusedSimpArgs false
namespace Go.Proofs.Ytknlbfandkmeiaa.M
open Go.RowKit
theorem step_append_runI {P : Program} {ops : Array Oper} {o : Oper} {a : Act} {w : World} {K : Act → World → Prop} {Q : Exit → Act → World → Prop} {E : Prop}
    (hg : o.guard = none) (d x : Operand) (dT sT : TypeId) (hop : o.op = Op.call { callee := Callee.builtin Builtin.append, args := #[d, x], argTypes := #[dT, sT] })
    (v u : Value) (hd : a.eval d = v) (hx : a.eval x = u) {v' : Value} {w' : World} (hr : (Builtin.append_ #[dT, sT] o.type #[v, u]).run P w = .ok v' w') (hK : K (a.put o.dst v') w') :
    if Region.wanted o (yielded ops a.tmps) = true then Oper.wp P o a w K Q else E := by
  have hw : Region.wanted o (yielded ops a.tmps) = true := by simp [Region.wanted, hg]
  rw [if_pos hw]
  unfold Oper.wp execOp
  simp only [hop, resolve, invoke, builtin, Sem.run_bind, Sem.run_pure, Result.andThen_ok, List.map_toArray, List.map_cons, List.map_nil, hd, hx, hr]
  exact hK
theorem del_cells (cur xs zs : List Value) (n i : Nat) (hx : cur.take (n * 6) = xs) (hxl : xs.length = n * 6) (hi : i < n) (hk : n * 6 ≤ cur.length) :
    let c1 := cur.take (i * 6) ++ xs.drop ((i + 1) * 6) ++ cur.drop (i * 6 + (xs.drop ((i + 1) * 6)).length)
    (c1.take ((i + (n - (i + 1))) * 6) ++ zs ++ c1.drop ((i + (n - (i + 1))) * 6 + zs.length)).take ((i + (n - (i + 1))) * 6) = xs.take (i * 6) ++ xs.drop ((i + 1) * 6) := by
  intro c1
  have e1 : c1.take ((i + (n - (i + 1))) * 6) = xs.take (i * 6) ++ xs.drop ((i + 1) * 6) := by
    have hl : (cur.take (i * 6) ++ xs.drop ((i + 1) * 6)).length = (i + (n - (i + 1))) * 6 := by simp [hxl]; omega
    show List.take _ (_ ++ _ ++ _) = _
    rw [← hl, List.take_left, ← hx, List.take_take]
    congr 2
    omega
  rw [e1, List.append_assoc, show (i + (n - (i + 1))) * 6 = (xs.take (i * 6) ++ xs.drop ((i + 1) * 6)).length by simp [hxl]; omega, List.take_left]
set_option maxHeartbeats 4000000 in
set_option maxRecDepth 100000 in
theorem delete_any (n₀ : Nat) (v : Value) (n i j : Nat) (xs : List Value) (w : World) (hown : w.ownsRow n₀ 51 6 v n xs) (hn : n ≤ 1000) (hi : i < n) (hj : j = i + 1) (h1x : ∀ u ∈ xs, u.oneCell' = true) :
    Calls Try.prog 69 #[v, .int .i64 i, .int .i64 j] w fun e w' => ∃ v', e = .returned v' ∧ w'.ownsRow n₀ 51 6 v' (n - 1) (xs.take (i * 6) ++ xs.drop ((i + 1) * 6)) ∧ w.grownBy w' v.ownBlock := by
  obtain ⟨i0, hi0, hz0, hz1, hz2⟩ := info_parts row_info
  rcases hown.2 with ⟨rfl, rfl⟩ | ⟨g, cap, cur, rfl, hbg, hg, hncap, hcap, hsz, htake⟩
  · omega
  have hxl := hown.1
  have hc63 : cap ≤ 9223372036854775807 := by unfold maxLen at hcap; omega
  have hlen : cur.toList.length = cur.size := Array.length_toList
  have hcells : ∀ j v, xs[j]? = some v → w.cell? ⟨g, j, none⟩ = some v := fun j v hj => by
    have hg' : Blk w g 51 cur := hg
    rw [hg'.cell j, ← Array.getElem?_toList]
    rw [← htake, List.getElem?_take] at hj
    split at hj
    · exact hj
    · cases hj
  have hxd : (xs.drop (j * 6)).length = (n - j) * 6 := by rw [List.length_drop, hxl, Nat.sub_mul]
  obtain ⟨A, hA, hsrc⟩ : ∃ A : Addr, (if cap = j then some (⟨g, 0, none⟩ : Addr) else some ⟨g, j * 6, none⟩) = some A ∧ Hid (∀ t u, (xs.drop (j * 6))[t]? = some u → w.drew.cell? (A.add t) = some u) := by
    by_cases h : cap = j
    · refine ⟨⟨g, 0, none⟩, by simp [h], Lib.hid fun t u hu => ?_⟩
      rw [List.length_eq_zero_iff.1 (by rw [hxd]; omega : (xs.drop (j * 6)).length = 0)] at hu
      simp at hu
    · refine ⟨⟨g, j * 6, none⟩, by simp [h], Lib.hid fun t u hu => ?_⟩
      rw [List.getElem?_drop] at hu
      rw [Addr.add_lit]
      exact hcells (j * 6 + t) u hu
  obtain ⟨C1, hC1⟩ : ∃ C : List Value, C = cur.toList.take (i * 6) ++ xs.drop (j * 6) ++ cur.toList.drop (i * 6 + (xs.drop (j * 6)).length) := ⟨_, rfl⟩
  have hC1l : C1.length = cap * 6 := by
    rw [hC1]
    simp only [List.length_append, List.length_take, List.length_drop, hlen, hsz, hxl]
    omega
  obtain ⟨W1, hW1⟩ : ∃ W1, W1 = w.drew.setRow g C1.toArray := ⟨_, rfl⟩
  have hap : ∀ ty, (Builtin.append_ #[22, 22] ty #[.slice (some ⟨g, 0, none⟩) i cap, .slice (some A) (n - j) (cap - j)]).run Try.prog w.drew = .ok (.slice (some ⟨g, 0, none⟩) (i + (n - j)) cap) W1 := fun ty => by
    have h := run_append_room (P := Try.prog) w.drew 22 ty 51 i0 Try.underlying22 hi0 g i cap cur hg A (n - j) (cap - j) (xs.drop (j * 6)) (by rw [hxd, hz1]) hsrc.out (fun u hu => h1x u (List.mem_of_mem_drop hu)) (by omega) (by rw [hxd, hz1, hsz]; omega)
    rw [h, hz1, hW1, hC1]
  have hg1 : Blk W1 g 51 C1.toArray := by rw [hW1]; exact setRow_heap w.drew g cur _ 51 (0, 0) hg
  obtain ⟨zs, hzs⟩ : ∃ zs : List Value, zs = (Builtin.zeroCells (Value.agg #[(.int .u32 0), (.int .i64 0), (.int .i64 0), (.int .i64 0), (.int .i64 0), (.int .i64 0)]).cells 1).toList := ⟨_, rfl⟩
  have hzs' : zs = [(.int .u32 0), (.int .i64 0), (.int .i64 0), (.int .i64 0), (.int .i64 0), (.int .i64 0)] := by rw [hzs]; kernel_rfl
  have hzl : zs.length = 6 := by rw [hzs']; rfl
  have hz1c : ∀ u ∈ zs, u.oneCell' = true := by rw [hzs']; simp [Value.oneCell']
  obtain ⟨C2, hC2⟩ : ∃ C : List Value, C = C1.take ((i + (n - j)) * 6) ++ zs ++ C1.drop ((i + (n - j)) * 6 + zs.length) := ⟨_, rfl⟩
  have hcl : ∀ ty c, (Builtin.clear_ #[22] ty #[.slice (some ⟨g, (i + (n - j)) * 6, none⟩) (n - (i + (n - j))) c]).run Try.prog W1 = .ok (.tuple #[]) (W1.setRow g C2.toArray) := fun ty c => by
    have e : n - (i + (n - j)) = 1 := by omega
    have hst := run_storeCells_at Try.prog g ((i + (n - j)) * 6) 51 zs 0 C1.toArray W1 hg1 (by rw [List.size_toArray, hC1l, hzl]; omega) hz1c
    simp only [Nat.add_zero] at hst
    rw [e, hC2]
    simp [Builtin.clear_, run_underlying Try.underlying22, zeroValue, typeInfo, hi0, hz0, ← hzs, hst]
  have hG : w.grownBy (W1.setRow g C2.toArray) (some g) := grown_trans (grown_trans (grown_drew w _) (by rw [hW1]; exact grown_setRow w.drew g _)) (grown_setRow W1 g _)
  have hO : (W1.setRow g C2.toArray).ownsRow n₀ 51 6 (.slice (some ⟨g, 0, none⟩) (i + (n - j)) cap) (n - 1) (xs.take (i * 6) ++ xs.drop ((i + 1) * 6)) := by
    refine ⟨by simp [hxl]; omega, .inr ⟨g, cap, C2.toArray, by rw [show i + (n - j) = n - 1 by omega], hbg, setRow_heap W1 g _ _ 51 (0, 0) hg1, by omega, hcap, ?_, ?_⟩⟩
    · rw [hC2]
      simp only [List.size_toArray, List.length_append, List.length_take, List.length_drop, hC1l, hzl]
      omega
    · rw [show n - 1 = i + (n - j) by omega, hC2, hC1]
      subst hj
      exact del_cells cur.toList xs zs n i htake hxl hi (by rw [hlen, hsz]; omega)
  have mixed : Try.prog.follows Departure.mixedOrders = true := by kernel_rfl
  have hu22 := Try.underlying22
  have hij : i ≤ j := by omega
  have hne : ¬ ((i : Int) = (j : Int)) := by omega
  have hjn : j ≤ n := by omega
  have hb1 : ¬ (cap = i) := by omega
  have hb2 : ¬ (cap = i + (n - j)) := by omega
  have hb3 : i + (n - j) ≤ n := by omega
  have hb4 : i ≤ cap := by omega
  have hb5 : j ≤ cap := by omega
  have HAP := Lib.hid hap
  clear hap hW1 hg1 hC1 hC2 htake hcells hown hg hsrc hzs hzs' hj
  go_enter Try.func69, Try.ntmps69
  go_wp2_with fail
  go_region_law_o (refine step_append_runI rfl _ _ 22 22 rfl _ _ (by simp [Act.eval, Act.put]) (by simp [Act.eval, Act.put]) (HAP.out _) ?_)
  go_wp2
  go_ret
  exact ⟨_, rfl, hO, hG⟩
end Go.Proofs.Ytknlbfandkmeiaa.M
