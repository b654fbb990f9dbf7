/- What the row of this claim reaches. No condition. -/
import Derived.RangeFuncNested
import Derived.RangeFuncBound
import Derived.RangeFuncCalls
import Derived.RangeFuncLeaves
import Derived.RangeFuncBox
import Derived.Shelf.Abstract
import Derived.Shelf.RegionOpen
import Derived.OwnWalkIn
import Derived.TacticsInMore
import Derived.LoopNIn
import Derived.LoopIn
import Derived.Test.YtknlbfandkmeiaaQX2
import Derived.Test.YtknlbfandkmeiaaQMFind
set_option linter.unusedVariables false
set_option linter.unusedSimpArgs false
namespace Go.Proofs.Ytknlbfandkmeiaa.M
open Go.RowKit Go.Shelf Go.Proofs.YtknlbfandkmeiaaW.PrintWords Go.Proofs.YtknlbfandkmeiaaW.PrintLast Go.Proofs.YtknlbfandkmeiaaW.PrintMore
attribute [local go_sem] Oper.semAt_some
abbrev cellsOf (x : S51) : List Value := [.int .u32 x.f0, .int .i64 x.f1.f0, .int .i64 x.f1.f1, .int .i64 x.f1.f2, .int .i64 x.f1.f3, .int .i64 x.f2]
abbrev stored (x : S51) : Value := .agg #[.int .u32 x.f0, .int .i64 x.f1.f0, .int .i64 x.f1.f1, .int .i64 x.f1.f2, .int .i64 x.f1.f3, .int .i64 x.f2]
def rowOf (l : List S51) : List Value := l.flatMap cellsOf
theorem rowOf_append (l m : List S51) : rowOf (l ++ m) = rowOf l ++ rowOf m := by simp [rowOf]
theorem rowOf_snoc (l : List S51) (x : S51) : rowOf (l ++ [x]) = rowOf l ++ cellsOf x := by simp [rowOf]
theorem rowOf_cons (l : List S51) (x : S51) : rowOf (x :: l) = cellsOf x ++ rowOf l := rfl
theorem rowOf_len : ∀ l : List S51, (rowOf l).length = l.length * 6
  | [] => rfl
  | x :: l => by
    have := rowOf_len l
    rw [rowOf_cons, List.length_append, this, List.length_cons]
    simp
    omega
theorem rowOf_at : ∀ (l : List S51) (j : Nat) (p : S51), l[j]? = some p → ((rowOf l).drop (j * 6)).take 6 = cellsOf p
  | x :: l, 0, p, h => by
    simp at h
    subst h
    rfl
  | x :: l, j + 1, p, h => by
    have := rowOf_at l j p (by simpa using h)
    rw [rowOf_cons, show (j + 1) * 6 = 6 + j * 6 by omega, ← List.drop_drop]
    exact this
theorem rowOf_take : ∀ (l : List S51) (i : Nat), (rowOf l).take (i * 6) = rowOf (l.take i)
  | [], i => by simp [rowOf]
  | x :: l, 0 => by simp [rowOf]
  | x :: l, i + 1 => by
    rw [List.take_succ_cons, rowOf_cons, rowOf_cons, ← rowOf_take l i, List.take_append, show (cellsOf x).length = 6 from rfl, List.take_of_length_le (by show 6 ≤ _; omega), show (i + 1) * 6 - 6 = i * 6 by omega]
theorem rowOf_drop : ∀ (l : List S51) (i : Nat), (rowOf l).drop (i * 6) = rowOf (l.drop i)
  | [], i => by simp [rowOf]
  | x :: l, 0 => by simp
  | x :: l, i + 1 => by
    rw [List.drop_succ_cons, rowOf_cons, ← rowOf_drop l i, List.drop_append, show (cellsOf x).length = 6 from rfl, List.drop_eq_nil_of_le (by show 6 ≤ _; omega), show (i + 1) * 6 - 6 = i * 6 by omega, List.nil_append]
theorem rowOf_one : ∀ (l : List S51), ∀ u ∈ rowOf l, u.oneCell' = true
  | [], u, h => by simp [rowOf] at h
  | x :: l, u, h => by
    rw [rowOf_cons, List.mem_append] at h
    rcases h with h | h
    · simp at h
      rcases h with rfl | rfl | rfl | rfl | rfl | rfl <;> rfl
    · exact rowOf_one l u h
theorem R_of_row {W : World} {n₀ : Nat} {v : Value} {l : List S51} {ok : Nat → Prop} (hok : ∀ k, v.ownBlock = some k → ok k) (h : W.ownsRow n₀ 51 6 v l.length (rowOf l)) : Kd.R k51 51 W n₀ ok v l :=
  ⟨hok, rowOf l, h, rowOf_len l, fun j p hp => by
    show k51.M W n₀ _ p ((rowOf l).drop (j * 6) |>.take 6)
    rw [rowOf_at l j p hp]
    exact k51_mkM _ _ _ _⟩
theorem row_eq : ∀ (l : List S51) (cs : List Value), cs.length = l.length * 6 → (∀ j p, l[j]? = some p → (cs.drop (j * 6)).take 6 = cellsOf p) → cs = rowOf l
  | [], cs, h, _ => by
    have : cs.length = 0 := by simpa using h
    rw [List.length_eq_zero_iff.1 this]
    rfl
  | x :: l, cs, h, hc => by
    have h0 := hc 0 x rfl
    simp only [Nat.zero_mul, List.drop_zero] at h0
    have ih := row_eq l (cs.drop 6) (by rw [List.length_drop, h, List.length_cons]; omega) (fun j p hp => by
      have := hc (j + 1) p (by simpa using hp)
      rwa [show (j + 1) * 6 = 6 + j * 6 by omega, ← List.drop_drop] at this)
    rw [rowOf_cons, ← ih, ← h0, List.take_append_drop]
theorem row_of_R {W : World} {n₀ : Nat} {v : Value} {l : List S51} {ok : Nat → Prop} (h : Kd.R k51 51 W n₀ ok v l) : W.ownsRow n₀ 51 6 v l.length (rowOf l) := by
  obtain ⟨_, inner, ho, hl, hr⟩ := h
  rw [← row_eq l inner hl (fun j p hp => k51_openM (hr j p hp))]
  exact ho
theorem C_of_row {W : World} {n₀ : Nat} {v : Value} {l : List S51} (h : W.ownsRow n₀ 51 6 v l.length (rowOf l)) : ∃ A c, v = .slice A l.length c ∧ l.length ≤ c ∧ c ≤ maxLen ∧ Kd.C k51 W A l.length l := by
  rcases h.2 with ⟨rfl, h0⟩ | ⟨g, cap, cur, rfl, hbg, hgg, hncap, hcap, hsz, htake⟩
  · rw [List.length_eq_zero_iff.1 h0]
    exact ⟨none, 0, rfl, Nat.le_refl _, by unfold maxLen; omega, Kd.C_nil _ _⟩
  · refine ⟨some ⟨g, 0, none⟩, cap, rfl, hncap, hcap, rfl, by unfold maxLen at hcap; omega, fun _ => ⟨_, rfl, fun j p hp => ⟨cellsOf p, rfl, k51_mk _ _, fun i u hu => ?_⟩⟩⟩
    have hc := h.cells (g := g) rfl (j * 6 + i) u
    apply hc
    have := rowOf_at l j p hp
    have hi : i < 6 := (List.getElem?_eq_some_iff.1 hu).1
    rw [← this, List.getElem?_take, if_pos hi, List.getElem?_drop] at hu
    exact hu
theorem cells_at (W : World) (x : S51) : ∀ j u, (cellsOf x)[j]? = some u → (W.alloc (.cells (cellsOf x).toArray 51)).cell? ((⟨W.heap.size, 0, none⟩ : Addr).add j) = some u := by
  intro j u h
  have e : (⟨W.heap.size, 0, none⟩ : Addr).add j = ⟨W.heap.size, j, none⟩ := by unfold Addr.add; split <;> simp_all
  rw [e, (Blk.new W 51 (cellsOf x).toArray).cell j, List.getElem?_toArray]
  exact h
abbrev winC (k : S36) : Array Value := #[.int .i64 k.f0, .int .i64 k.f1, .int .i64 k.f2, .int .i64 k.f3]
def meetB (k : S36) (x : S51) : Bool := (key_Meets.f x.f1.f0 x.f1.f1 x.f1.f2 x.f1.f3 k.f0 k.f1 k.f2 k.f3).getD false
theorem meet_some (k : S36) (x : S51) : key_Meets.f x.f1.f0 x.f1.f1 x.f1.f2 x.f1.f3 k.f0 k.f1 k.f2 k.f3 = some (meetB k x) := by
  unfold meetB
  have : ∃ b, key_Meets.f x.f1.f0 x.f1.f1 x.f1.f2 x.f1.f3 k.f0 k.f1 k.f2 k.f3 = some b := by
    unfold key_Meets.f key_box.f
    repeat' first
      | exact ⟨_, rfl⟩
      | split
      | simp only [Option.bind_some]
  obtain ⟨b, hb⟩ := this
  rw [hb]
  rfl
theorem grown_of_below {W W' : World} (hb : Below W.heap.size W W') : W.grownBy W' none := ⟨hb.os, hb.tape, hb.output, hb.size, fun k hk _ => hb.block k hk⟩
theorem maker_any (A : Option Addr) (n c : Nat) (k : S36) (w : World) :
    Calls Try.prog 51 #[.slice A n c, .agg (winC k)] w fun e w' => e = .returned (.func (.func 72) #[] #[.pointer (some ⟨w.heap.size, 0, none⟩), .pointer (some ⟨w.heap.size + 1, 0, none⟩)]) ∧ w' = (w.alloc (.cells #[.slice A n c] 22)).alloc (.cells (winC k) 36) := by
  go_enter Try.func51, Try.ntmps51
  go_wp2
  go_ret
  exact ⟨rfl, rfl⟩
set_option maxRecDepth 100000 in
set_option maxHeartbeats 4000000 in
theorem iter_in (n : Nat) (hnn : 3 ≤ n) (k : S36) (A : Option Addr) (l : List S51) (c : Nat) (lp Bl Bk : Nat) (w : World)
    (hC : Kd.C k51 w A l.length l) (hn : l.length ≤ 1000)
    (hBl : w.cell? ⟨Bl, 0, none⟩ = some (.slice A l.length c)) (hBk : Blk w Bk 36 (winC k)) (J Jx : List S51 → World → Prop) (W : World) (hW : Below w.heap.size w W) (hJ : AbidesFrom W.heap.size J)
    (hY : ∀ pre x W1, J pre W1 → pre.length < l.length → YieldAt Fence.wide (n - 1) Try.prog lp #[stored x] W1 fun e W' =>
      (e = .returned (.bool true) ∧ J (pre ++ [x]) W' ∧ Below w.heap.size W1 W') ∨ (e = .returned (.bool false) ∧ Jx (pre ++ [x]) W'))
    (h0 : J [] W) :
    CallsIn Fence.wide n Try.prog 72 #[.func (.yield lp) #[] #[], .pointer (some ⟨Bl, 0, none⟩), .pointer (some ⟨Bk, 0, none⟩)] W fun e W' => (∃ v, e = .returned v) ∧
      ((∃ xs, xs = l.filter (meetB k) ∧ J xs W') ∨ (∃ pre, pre <+: l.filter (meetB k) ∧ Jx pre W')) := by
  have hS : ∀ (x : S51) (W1 : World), Hid (Calls Try.prog 29 #[.agg #[.int .i64 x.f1.f0, .int .i64 x.f1.f1, .int .i64 x.f1.f2, .int .i64 x.f1.f3], .agg (winC k)] W1 fun e w' => e = .returned (.bool (meetB k x)) ∧ Below W1.heap.size W1 w') := fun x W1 =>
    Lib.hid (key_Meets.calls x.f1.f0 x.f1.f1 x.f1.f2 x.f1.f3 k.f0 k.f1 k.f2 k.f3 _ W1 (meet_some k x))
  generalize meetB k = p at hS ⊢
  have hBl' := keep_cell hW hBl
  refine callsIn_of_wp Try.func72 rfl trivial ?_ rfl
  simp only [Try.ntmps72, List.size_toArray, List.length_cons, List.length_nil, Nat.reduceAdd, Nat.reduceSub, Array.replicate_succ, Array.replicate_zero, List.push_toArray, List.append_toArray, List.nil_append, List.cons_append]
  gi_wp2
  gi_loopw [8] (fun v8 wr => ∃ i : Int, 0 ≤ i ∧ i ≤ l.length ∧ v8 = .int .i64 i ∧ J ((l.take i.toNat).filter p) wr ∧ Below w.heap.size w wr) (fun v8 _ => l.length - (intOf v8).toNat)
  case atStart => exact ⟨0, Int.le_refl _, by omega, rfl, h0, hW⟩
  case round =>
    obtain ⟨i, i0, i1, rfl, hJs, hB⟩ := hrel
    by_cases hlt : i < l.length
    · have hd : decide (i < (l.length : Int)) = true := decide_eq_true hlt
      have hw := wrap_sm (z := i + 1) (by omega) (by omega)
      obtain ⟨ad, rfl, x0, x1, x2, x3, x4, x5⟩ := at_T51 (Kd.C_below hC hB) i i0 hlt
      have p0 : (0 ≤ i) = True := eq_true i0
      have p1 : (i < (l.length : Int)) = True := eq_true hlt
      have bk := hBk.keep hB
      have ht : (l.take (i + 1).toNat).filter p = (l.take i.toNat).filter p ++ (if p (rd_T51 l i) = true then [rd_T51 l i] else []) := by
        have e : (i + 1).toNat = i.toNat + 1 := by omega
        have hl : i.toNat < l.length := by omega
        have er : rd_T51 l i = l[i.toNat] := by unfold rd_T51; rw [List.getD_eq_getElem?_getD, List.getElem?_eq_getElem hl]; rfl
        rw [e, List.take_succ_eq_append_getElem hl, List.filter_append, er]
        congr 1
        simp only [List.filter_cons, List.filter_nil]
      have hlen : ((l.take i.toNat).filter p).length < l.length := by
        have h1 := List.length_filter_le p (l.take i.toNat)
        have h2 := List.length_take_le i.toNat l
        have h3 : (l.take i.toNat).length ≤ i.toNat := by simp; omega
        omega
      generalize hx : rd_T51 l i = x at *
      have hSx := fun W1 => hS x W1
      have bk' := bk.alloc (.cells (cellsOf x).toArray 51)
      have k0 := bk'.cell 0
      have k1 := bk'.cell 1
      have k2 := bk'.cell 2
      have k3 := bk'.cell 3
      simp at k0 k1 k2 k3
      cases hp : p x
      · rw [hp] at hSx ht
        simp only [Bool.false_eq_true, if_false, List.append_nil] at ht
        gi_wp2_with fail
        refine ⟨trivial, fun _ => by omega, (callsIn_wide.2 (hSx _).out).mono ?_⟩
        rintro e w1 ⟨rfl, hb1⟩
        have hbr := below_step (below_alloc (Below.refl _ wr) _) hb1
        have hJ1 := hJ _ _ _ none hJs (grown_of_below hbr) (by simp)
        gi_wp2
        refine ⟨fun _ h => (by cases h), ?_⟩
        gi_wp2
        go_roundw
        case rel => exact ⟨i + 1, by omega, by omega, by simp [hw], by rw [ht]; exact hJ1, keep_below hB hbr⟩
        case measure => simp [intOf, hw]; omega
      · rw [hp] at hSx ht
        simp only [if_true] at ht
        gi_wp2_with fail
        refine ⟨trivial, fun _ => by omega, (callsIn_wide.2 (hSx _).out).mono ?_⟩
        rintro e w1 ⟨rfl, hb1⟩
        have bx := (Blk.new wr 51 (cellsOf x).toArray).keep hb1
        have e0 := bx.cell 0
        have e1 := bx.cell 1
        have e2 := bx.cell 2
        have e3 := bx.cell 3
        have e4 := bx.cell 4
        have e5 := bx.cell 5
        simp at e0 e1 e2 e3 e4 e5
        have hbr := below_step (below_alloc (Below.refl _ wr) _) hb1
        obtain ⟨fn, tmps, assign, body, hy, hR⟩ := hY _ x w1 (hJ _ _ _ none hJs (grown_of_below hbr) (by simp)) hlen
        gi_wp2
        refine ⟨fun _ => by omega, hR.mono ?_⟩
        rintro e W3 (⟨rfl, hJ3, hk3⟩ | ⟨rfl, hJx3⟩)
        · gi_wp2
          go_roundw
          case rel => exact ⟨i + 1, by omega, by omega, by simp [hw], by rw [ht]; exact hJ3, (keep_below hB hbr).trans hk3⟩
          case measure => simp [intOf, hw]; omega
        · gi_wp2
          refine bodyPost_ret (results_none rfl _ _ _) rfl ?_
          refine ⟨⟨_, rfl⟩, .inr ⟨_, ?_, hJx3⟩⟩
          rw [← ht]
          exact (List.take_prefix _ _).filter p
    · have hd : decide (i < (l.length : Int)) = false := decide_eq_false hlt
      have e : i = l.length := by omega
      subst e
      rw [Int.toNat_natCast, List.take_length] at hJs
      gi_wp2
      go_end0
      first
        | exact ⟨⟨_, rfl⟩, .inl ⟨_, rfl, hJs⟩⟩
        | exact ⟨⟨_, rfl⟩, .inl hJs⟩
section
variable (k : S36) (A : Option Addr) (l : List S51) (c : Nat) (Bl Bk : Nat) (w : World)
theorem iter_stops (n : Nat) (hnn : 3 ≤ n) (hC : Kd.C k51 w A l.length l) (hn : l.length ≤ 1000)
    (hBl : w.cell? ⟨Bl, 0, none⟩ = some (.slice A l.length c)) (hBk : Blk w Bk 36 (winC k)) :
    SeqStopsK Fence.wide n Try.prog 72 #[.pointer (some ⟨Bl, 0, none⟩), .pointer (some ⟨Bk, 0, none⟩)] (fun x : S51 => #[stored x]) (Below w.heap.size) (fun xs => xs = l.filter (meetB k)) (fun pre => pre <+: l.filter (meetB k)) l.length w :=
  fun lp J Jx W hW hJ hJx hY h0 => iter_in n hnn k A l c lp Bl Bk w hC hn hBl hBk J Jx W hW hJ hY h0
set_option maxRecDepth 100000 in
set_option maxHeartbeats 4000000 in
theorem collect_any (hC : Kd.C k51 w A l.length l) (hn : l.length ≤ 1000)
    (hBl : w.cell? ⟨Bl, 0, none⟩ = some (.slice A l.length c)) (hBk : Blk w Bk 36 (winC k)) :
    Calls Try.prog 50 #[.func (.func 72) #[] #[.pointer (some ⟨Bl, 0, none⟩), .pointer (some ⟨Bk, 0, none⟩)]] w fun e w' => ∃ v, e = .returned v ∧ w'.ownsRow w.heap.size 51 6 v (l.filter (meetB k)).length (rowOf (l.filter (meetB k))) ∧ Below w.heap.size w w' := by
  have hS := iter_stops k A l c Bl Bk w 7 (by omega) hC hn hBl hBk
  generalize l.filter (meetB k) = R at hS ⊢
  obtain ⟨i0, hi0, hz0, hz1, hz2⟩ := info_parts row_info
  refine (callsIn_wide (n := 8)).1 ?_
  refine callsIn_of_wp_marks Try.func50 rfl trivial ?_ rfl
  simp only [Try.ntmps50, List.size_toArray, List.length_cons, List.length_nil, Nat.reduceAdd, Nat.reduceSub, Array.replicate_succ, Array.replicate_zero, List.push_toArray, List.append_toArray, List.nil_append, List.cons_append]
  gi_wp2
  have b0 := Boxed.new w 22 (.slice none 0 0)
  have hB0 : Below w.heap.size w (w.alloc (.cells #[.slice none 0 0] 22)) := below_alloc (Below.refl _ _) _
  refine wpIn_rangeFunc_ownH rfl (by omega) (gf := 72) (lb := #[.pointer (some ⟨Bl, 0, none⟩), .pointer (some ⟨Bk, 0, none⟩)]) rfl trivial (enters_of Try.func72 (by kernel_rfl) rfl)
    hS belowK_t (belowK_b (by simp)) hB0 (fun _ => rfl)
    (fun pre W => (∃ v, Boxed W w.heap.size 22 v ∧ W.ownsRow w.heap.size 51 6 v pre.length (rowOf pre) ∧ True) ∧ Below w.heap.size w W)
    (fun _ _ _ => False)
    (OwnFrom.and (Own.from (holdsRow_own w.heap.size w.heap.size 22 51 6 (fun pre : List S51 => pre.length) rowOf (fun _ _ => True)) _) (ownFrom_below (Nat.le_refl _) (by simp)))
    (fun _ _ _ _ _ hs _ _ => hs)
    ⟨⟨.slice none 0 0, b0, World.ownsRow_nil _ _ _ _, trivial⟩, hB0⟩
    (fun x a' W => ∃ Bx, w.heap.size < Bx ∧ Blk W Bx 51 (cellsOf x).toArray ∧ a' = { tmps := #[.func (.func 72) #[] #[.pointer (some ⟨Bl, 0, none⟩), .pointer (some ⟨Bk, 0, none⟩)], undef, .slice none 0 0, .pointer (some ⟨w.heap.size, 0, none⟩), .pointer (some ⟨Bx, 0, none⟩), .func (.func 72) #[] #[.pointer (some ⟨Bl, 0, none⟩), .pointer (some ⟨Bk, 0, none⟩)], stored x, undef, undef, undef, undef, undef], defers := [] })
    (fun x a' _ X Y row hs hg hr => by
      obtain ⟨Bx, h1, h2, h3⟩ := hs
      refine ⟨Bx, h1, (hg.block Bx h2.lt fun e => ?_).trans h2, h3⟩
      obtain ⟨o, ho, hc⟩ := (hr Bx e.symm).2
      unfold Blk at h2
      rw [h2] at ho
      cases ho
      cases hc)
    ?assign ?body ?done ?stop
  case assign =>
    rintro lp pre x W K ⟨⟨v, bv, ho, _⟩, hB⟩ hK
    gi_wp2
    exact hK _ _ ((KeepsOthers.alloc _ _).from _) ((Below.refl _ W).alloc hB.size _) ⟨⟨v, bv.alloc _, ho.alloc _, trivial⟩, hB.alloc hB.size _⟩ ⟨W.heap.size, bv.lt, Blk.new W 51 _, rfl⟩
  case body =>
    rintro lp pre x a' W hl ⟨r, hr⟩ ⟨⟨v, bv, ho, _⟩, hB⟩ ⟨Bx, hBx, bX, rfl⟩ hlt
    have cv := bv.cell
    have e0 := bX.cell 0
    have e1 := bX.cell 1
    have e2 := bX.cell 2
    have e3 := bX.cell 3
    have e4 := bX.cell 4
    have e5 := bX.cell 5
    simp at e0 e1 e2 e3 e4 e5
    gi_wp2_with (gi_at_builtin; refine wpListIn_append_own _ rfl _ _ 22 rfl w.heap.size 51 i0 _ 6 48 Try.underlying22 hi0 hz0 hz1 hz2 rfl (by decide) v pre.length (rowOf pre) rfl (ho.alloc _) ⟨W.heap.size, 0, none⟩ 1 1 (cellsOf x) rfl rfl (cells_at W x) (by simp [Value.oneCell']) (by unfold maxLen; omega) (by omega) (by have := hB.size; simp; omega) ?_; intro v' w1 hown' hgrow _; obtain ⟨g', cap', rfl⟩ := ownsRow_succ hown'; obtain ⟨hv1, hv2, hr2, hk2, hb2⟩ := bv.appended (by decide) ho hB.size (Nat.le_refl _) hown' hgrow; have hc1 := hv1.cell; have hf1 := hv1.frozen)
    exact ⟨hk2.from _, hb2, ⟨⟨_, hv2, by rw [rowOf_snoc, List.length_append]; exact hr2, trivial⟩, hB.trans hb2⟩⟩
  case done =>
    rintro D ys W hD rfl ⟨⟨v, bv, ho, _⟩, hB⟩ hK
    have cv := bv.cell
    gi_wp2
    refine ⟨by simp, .inl ⟨_, _, rfl, run_takeDeferred hK, ?_⟩⟩
    refine ⟨v, by simp [results, Try.results50, go_sem], v, rfl, ownsRow_putObj ho (.deferred none) hK rfl, hB.trans (belowK_b (w := w) (Nat.le_refl _) W D _ _ (by simp at hD; omega) hK rfl rfl)⟩
  case stop =>
    rintro D c pre W _ _ h _
    exact h.elim
end
end Go.Proofs.Ytknlbfandkmeiaa.M
