/- What the row of this claim reaches. No condition. -/
import Derived.RangeFuncNested
import Derived.RangeFuncBound
import Derived.RangeFuncCalls
import Derived.RangeFuncLeaves
import Derived.Shelf.Abstract
import Derived.Shelf.RegionOpen
import Derived.OwnWalkIn
import Derived.TacticsInMore
import Derived.LoopNIn
import Derived.LoopIn
import Derived.RangeFuncBox
import Derived.Test.YtfggjefncnhikaaZX2
set_option linter.unusedVariables false
set_option linter.unusedSimpArgs false
namespace Go.Proofs.Ytfggjefncnhikaa.V
open Go.RowKit Go.Proofs.YtfggjefncnhikaaW.PrintWords Go.Proofs.YtfggjefncnhikaaW.PrintLast Go.Proofs.YtfggjefncnhikaaW.PrintMore
abbrev stored (x : S61) : Value := .agg #[.int .i64 x.f0.f0, .int .i64 x.f0.f1, .int .u32 x.f1.f0, .int .u64 x.f1.f1, .int .u64 x.f1.f2, .int .i64 x.f1.f3.f0, .int .i64 x.f1.f3.f1, .int .i64 x.f1.f3.f2, .int .i64 x.f1.f3.f3, .int .i64 x.f1.f4]
def badF (x : S61) : Option Bool := (heap_Check.f x.f1.f0 x.f1.f1 x.f1.f2 x.f1.f3.f0 x.f1.f3.f1 x.f1.f3.f2 x.f1.f3.f3 x.f1.f4).bind fun e => some (e != 0)
def badIdx : List S61 → Int → Option Int
  | [], _ => some (-1)
  | x :: xs, i => (badF x).bind fun b => if b = true then some i else badIdx xs (i + 1)
set_option maxHeartbeats 2000000 in
theorem bad_any (x : S61) (r : Bool) (w : World) (h : badF x = some r) : Calls Try.prog 43 #[stored x] w fun e w' => e = .returned (.bool r) ∧ Below w.heap.size w w' := by
  unfold badF at h
  obtain ⟨e, he, h⟩ := Option.bind_eq_some_iff.1 h
  injection h with h
  subst h
  have H := fun W => Lib.hid (heap_Check.calls _ _ _ _ _ _ _ _ e W he)
  clear he
  go_enter Try.func43, Try.ntmps43
  go_wp2_with (go_at_call 28; (with_reducible refine (H _).out.mono ?_); rintro e w1 ⟨rfl, hb1⟩)
  go_ret
  exact ⟨rfl, below_step (below_alloc (Below.refl _ _) _) hb1⟩
theorem drop_at {l : List S61} {n : Int} (h0 : 0 ≤ n) (h1 : n < l.length) : l.drop n.toNat = rd_T61 l n :: l.drop (n + 1).toNat := by
  have e : (n + 1).toNat = n.toNat + 1 := by omega
  have hl : n.toNat < l.length := by omega
  rw [e, List.drop_eq_getElem_cons hl]
  unfold rd_T61
  rw [List.getD_eq_getElem?_getD, List.getElem?_eq_getElem hl]
  rfl
theorem wrap_sm {z : Int} (h : -9223372036854775808 ≤ z) (h2 : z < 9223372036854775808) : IntKind.i64.wrap z = z := by
  rw [IntKind.wrap_i64]; omega
set_option maxHeartbeats 4000000 in
theorem index_any (A : Option Addr) (c : Nat) (l : List S61) (r : Int) (w : World) (hr : Kd.C k61 w A l.length l) (hn : l.length ≤ 1000) (h : badIdx l 0 = some r) :
    Calls Try.prog 49 #[.slice A l.length c, .func (.func 43) #[] #[]] w fun e w' => e = .returned (.int .i64 r) ∧ Below w.heap.size w w' := by
  have HR := Lib.hid hr
  have H0 := Lib.hid h
  clear hr h
  go_enter Try.func49, Try.ntmps49
  go_wp2
  go_loopw [8] (fun v8 wr => ∃ i : Int, v8 = .int .i64 i ∧ 0 ≤ i ∧ i ≤ l.length ∧ Hid (badIdx (l.drop i.toNat) i = some r) ∧ Below w.heap.size w wr) (fun v8 _ => l.length - (intOf v8).toNat)
  case atStart => exact ⟨0, rfl, Int.le_refl _, by omega, Lib.hid (by simpa using H0.out), Below.refl _ _⟩
  case round =>
    obtain ⟨i, rfl, i0, i1, HI, hB⟩ := hrel
    clear H0
    by_cases hlt : i < l.length
    · have hd : decide (i < (l.length : Int)) = true := decide_eq_true hlt
      have hw := wrap_sm (z := i + 1) (by omega) (by omega)
      obtain ⟨ad, rfl, x0, x1, x2, x3, x4, x5, x6, x7, x8, x9⟩ := at_T61 (Kd.C_below HR.out hB) i i0 hlt
      have p0 : (0 ≤ i) = True := eq_true i0
      have p1 : (i < (l.length : Int)) = True := eq_true hlt
      have HX := HI.out
      rw [drop_at i0 hlt] at HX
      unfold badIdx at HX
      obtain ⟨b, hb, HX⟩ := Option.bind_eq_some_iff.1 HX
      have HC := fun W => Lib.hid (bad_any (rd_T61 l i) b W hb)
      clear hb HI
      have HXX := Lib.hid HX
      clear HX
      cases b
      · go_wp2_with (go_at_call 43; (with_reducible refine (HC _).out.mono ?_); rintro e w1 ⟨rfl, hb1⟩)
        go_roundw
        case rel => exact ⟨i + 1, by simp [hw], by omega, by omega, Lib.hid (by have := HXX.out; rwa [if_neg (by simp)] at this), hB.trans (hb1.mono hB.size)⟩
        case measure => simp [intOf, hw]; omega
      · go_wp2_with (go_at_call 43; (with_reducible refine (HC _).out.mono ?_); rintro e w1 ⟨rfl, hb1⟩)
        have HY := HXX.out
        rw [if_pos (by trivial)] at HY
        injection HY with HY
        subst HY
        go_ret
        exact ⟨rfl, hB.trans (hb1.mono hB.size)⟩
    · have hd : decide (i < (l.length : Int)) = false := decide_eq_false hlt
      have HX := HI.out
      rw [List.drop_eq_nil_of_le (by omega)] at HX
      unfold badIdx at HX
      injection HX with HX
      subst HX
      go_wp2
      go_ret
      exact ⟨rfl, hB⟩
def vision_ready.f (a0_0 : Int) (l0_1 : List S44) (l1 : List S61) : Option Int :=
  if l1.length ≤ 1000 then (vision_Check.f a0_0 l0_1).bind fun e => if ¬ e = 0 then some 270 else (badIdx l1 0).bind fun i => some (if 0 ≤ i then 200 else 0) else none
set_option maxHeartbeats 2000000 in
theorem contains_any (A : Option Addr) (c : Nat) (l : List S61) (i : Int) (w : World) (hr : Kd.C k61 w A l.length l) (hn : l.length ≤ 1000) (h : badIdx l 0 = some i) :
    Calls Try.prog 42 #[.slice A l.length c, .func (.func 43) #[] #[]] w fun e w' => e = .returned (.bool (decide (0 ≤ i))) ∧ Below w.heap.size w w' := by
  have H := fun W hW => Lib.hid (index_any A c l i W (Kd.C_below hr hW) hn h)
  go_enter Try.func42, Try.ntmps42
  go_wp2_with (go_at_call 49; (with_reducible refine (H _ (Below.refl _ _)).out.mono ?_); rintro e w1 ⟨rfl, hb1⟩)
  go_ret
  exact ⟨by simp, hb1⟩
set_option maxHeartbeats 2000000 in
theorem vision_ready_any (a0_0 : Int) (A0_1 : Option Addr) (c0_1 : Nat) (l0_1 : List S44) (A1 : Option Addr) (c1 : Nat) (l1 : List S61) (r : Int) (w : World) (hr0_1 : Kd.C k44 w A0_1 l0_1.length l0_1) (hc0_1 : l0_1.length ≤ c0_1) (hr1 : Kd.C k61 w A1 l1.length l1) (hc1 : l1.length ≤ c1) (h : vision_ready.f a0_0 l0_1 l1 = some r) :
    Calls Try.prog 33 #[.agg #[.int .u64 a0_0, .slice A0_1 l0_1.length c0_1], .slice A1 l1.length c1] w fun e w' => e = .returned (.int .i64 r) ∧ Below w.heap.size w w' := by
  unfold vision_ready.f at h
  by_cases hn : l1.length ≤ 1000
  case neg => rw [if_neg hn] at h; cases h
  rw [if_pos hn] at h
  obtain ⟨e, he, h⟩ := Option.bind_eq_some_iff.1 h
  have H1 := fun W (hb : Below w.heap.size w W) => Lib.hid (vision_Check.calls a0_0 A0_1 c0_1 l0_1 e W (Kd.C_below hr0_1 hb) hc0_1 he)
  have HR := Lib.hid hr1
  clear he
  by_cases h0 : e = 0
  · rw [if_neg (fun h => h h0)] at h
    obtain ⟨i, hi, h⟩ := Option.bind_eq_some_iff.1 h
    injection h with h
    subst h
    have H2 := fun W (hb : Below w.heap.size w W) => Lib.hid (contains_any A1 c1 l1 i W (Kd.C_below HR.out hb) hn hi)
    clear hi
    subst h0
    by_cases hi : 0 ≤ i
    · have d1 : decide (0 ≤ i) = true := decide_eq_true hi
      go_enter Try.func33, Try.ntmps33
      go_wp2_with (first
        | (go_at_call 10; (with_reducible refine (H1 _ (below_alloc (Below.refl _ _) _)).out.mono ?_); rintro e w1 ⟨rfl, hb1⟩)
        | (go_at_call 42; (with_reducible refine (H2 _ (below_step (below_alloc (Below.refl _ _) _) hb1)).out.mono ?_); rintro e w2 ⟨rfl, hb2⟩))
      go_ret
      exact ⟨by simp [hi], below_step (below_step (below_alloc (Below.refl _ _) _) hb1) hb2⟩
    · have d1 : decide (0 ≤ i) = false := decide_eq_false hi
      go_enter Try.func33, Try.ntmps33
      go_wp2_with (first
        | (go_at_call 10; (with_reducible refine (H1 _ (below_alloc (Below.refl _ _) _)).out.mono ?_); rintro e w1 ⟨rfl, hb1⟩)
        | (go_at_call 42; (with_reducible refine (H2 _ (below_step (below_alloc (Below.refl _ _) _) hb1)).out.mono ?_); rintro e w2 ⟨rfl, hb2⟩))
      go_ret
      exact ⟨by simp [hi], below_step (below_step (below_alloc (Below.refl _ _) _) hb1) hb2⟩
  · rw [if_pos h0] at h
    injection h with h
    subst h
    have f1 : (e != 0) = true := bne_iff_ne.mpr h0
    have f2 : (e == 0) = false := beq_eq_false_iff_ne.mpr h0
    go_enter Try.func33, Try.ntmps33
    go_wp2_with (go_at_call 10; (with_reducible refine (H1 _ (below_alloc (Below.refl _ _) _)).out.mono ?_); rintro e w1 ⟨rfl, hb1⟩)
    go_ret
    exact ⟨rfl, below_step (below_alloc (Below.refl _ _) _) hb1⟩
end Go.Proofs.Ytfggjefncnhikaa.V
namespace Go.Proofs.Ytfggjefncnhikaa.V
open Go.RowKit Go.Shelf Go.Proofs.YtfggjefncnhikaaW.PrintWords Go.Proofs.YtfggjefncnhikaaW.PrintLast Go.Proofs.YtfggjefncnhikaaW.PrintMore
attribute [local go_sem] Oper.semAt_some
abbrev lookC (own : Int) (reads : Bool) (snap first : Int) (AL : Option Addr) (L : List S44) (cL : Nat) : Array Value := #[.int .u64 own, .bool reads, .int .u64 snap, .int .u64 first, .slice AL L.length cL]
def seesB (own : Int) (reads : Bool) (snap first : Int) (L : List S44) (x : S61) : Bool := countsF own reads snap first (prs L) x.f1.f1 && !countsF own reads snap first (prs L) x.f1.f2
theorem grown_of_below {W W' : World} (hb : Below W.heap.size W W') : W.grownBy W' none := ⟨hb.os, hb.tape, hb.output, hb.size, fun k hk _ => hb.block k hk⟩
theorem seen_any (own : Int) (reads : Bool) (snap first : Int) (AL : Option Addr) (L : List S44) (cL : Nat) (A : Option Addr) (n c : Nat) (w : World) :
    Calls Try.prog 35 #[.agg (lookC own reads snap first AL L cL), .slice A n c] w fun e w' => e = .returned (.func (.func 45) #[] #[.pointer (some ⟨w.heap.size + 1, 0, none⟩), .pointer (some ⟨w.heap.size, 0, none⟩)]) ∧ w' = (w.alloc (.cells (lookC own reads snap first AL L cL) 72)).alloc (.cells #[.slice A n c] 51) := by
  go_enter Try.func35, Try.ntmps35
  go_wp2
  go_ret
  exact ⟨rfl, rfl⟩
set_option maxRecDepth 100000 in
set_option maxHeartbeats 4000000 in
theorem iter_in (n : Nat) (hnn : 3 ≤ n) (own : Int) (reads : Bool) (snap first : Int) (AL : Option Addr) (L : List S44) (cL : Nat) (A : Option Addr) (l : List S61) (c : Nat) (lp Bl Bk : Nat) (w : World)
    (hC : Kd.C k61 w A l.length l) (hn : l.length ≤ 1000) (hF : Kd.C k44 w AL L.length L) (hcL : L.length ≤ cL) (hright : rightF first (prs L) = true)
    (hBl : w.cell? ⟨Bl, 0, none⟩ = some (.slice A l.length c)) (hBk : Blk w Bk 72 (lookC own reads snap first AL L cL)) (J Jx : List S61 → World → Prop) (W : World) (hW : Below w.heap.size w W) (hJ : AbidesFrom W.heap.size J)
    (hY : ∀ pre x W1, J pre W1 → pre.length < l.length → YieldAt Fence.wide (n - 1) Try.prog lp #[stored x] W1 fun e W' =>
      (e = .returned (.bool true) ∧ J (pre ++ [x]) W' ∧ Below w.heap.size W1 W') ∨ (e = .returned (.bool false) ∧ Jx (pre ++ [x]) W'))
    (h0 : J [] W) :
    CallsIn Fence.wide n Try.prog 45 #[.func (.yield lp) #[] #[], .pointer (some ⟨Bl, 0, none⟩), .pointer (some ⟨Bk, 0, none⟩)] W fun e W' => (∃ v, e = .returned v) ∧
      ((∃ xs, xs = l.filter (seesB own reads snap first L) ∧ J xs W') ∨ (∃ pre, pre <+: l.filter (seesB own reads snap first L) ∧ Jx pre W')) := by
  have hS : ∀ (x : S61) (W1 : World), Below w.heap.size w W1 → Hid (Calls Try.prog 29 #[.agg (lookC own reads snap first AL L cL), .agg #[.int .u32 x.f1.f0, .int .u64 x.f1.f1, .int .u64 x.f1.f2, .int .i64 x.f1.f3.f0, .int .i64 x.f1.f3.f1, .int .i64 x.f1.f3.f2, .int .i64 x.f1.f3.f3, .int .i64 x.f1.f4]] W1 fun e w' => e = .returned (.bool (seesB own reads snap first L x)) ∧ Below W1.heap.size W1 w') := fun x W1 hb =>
    Lib.hid (vision_look_sees.calls own reads snap first AL cL L x.f1.f0 x.f1.f1 x.f1.f2 x.f1.f3.f0 x.f1.f3.f1 x.f1.f3.f2 x.f1.f3.f3 x.f1.f4 _ W1 (Kd.C_below hF hb) hcL (by unfold vision_look_sees.f seesB; rw [if_pos hright]))
  generalize seesB own reads snap first L = p at hS ⊢
  have hBl' := keep_cell hW hBl
  refine callsIn_of_wp Try.func45 rfl trivial ?_ rfl
  simp only [Try.ntmps45, List.size_toArray, List.length_cons, List.length_nil, Nat.reduceAdd, Nat.reduceSub, Array.replicate_succ, Array.replicate_zero, List.push_toArray, List.append_toArray, List.nil_append, List.cons_append]
  gi_wp2
  gi_loopw [8] (fun v8 wr => ∃ i : Int, 0 ≤ i ∧ i ≤ l.length ∧ v8 = .int .i64 i ∧ J ((l.take i.toNat).filter p) wr ∧ Below w.heap.size w wr) (fun v8 _ => l.length - (intOf v8).toNat)
  case atStart => exact ⟨0, Int.le_refl _, by omega, rfl, h0, hW⟩
  case round =>
    obtain ⟨i, i0, i1, rfl, hJs, hB⟩ := hrel
    by_cases hlt : i < l.length
    · have hd : decide (i < (l.length : Int)) = true := decide_eq_true hlt
      have hw := wrap_sm (z := i + 1) (by omega) (by omega)
      obtain ⟨ad, rfl, x0, x1, x2, x3, x4, x5, x6, x7, x8, x9⟩ := at_T61 (Kd.C_below hC hB) i i0 hlt
      have p0 : (0 ≤ i) = True := eq_true i0
      have p1 : (i < (l.length : Int)) = True := eq_true hlt
      have bk := hBk.keep hB
      have ht : (l.take (i + 1).toNat).filter p = (l.take i.toNat).filter p ++ (if p (rd_T61 l i) = true then [rd_T61 l i] else []) := by
        have e : (i + 1).toNat = i.toNat + 1 := by omega
        have hl : i.toNat < l.length := by omega
        have er : rd_T61 l i = l[i.toNat] := by unfold rd_T61; rw [List.getD_eq_getElem?_getD, List.getElem?_eq_getElem hl]; rfl
        rw [e, List.take_succ_eq_append_getElem hl, List.filter_append, er]
        congr 1
        simp only [List.filter_cons, List.filter_nil]
      have hlen : ((l.take i.toNat).filter p).length < l.length := by
        have h1 := List.length_filter_le p (l.take i.toNat)
        have h2 := List.length_take_le i.toNat l
        have h3 : (l.take i.toNat).length ≤ i.toNat := by simp; omega
        omega
      generalize hx : rd_T61 l i = x at *
      have hSx := fun W1 hb => hS x W1 hb
      have bk' := bk.alloc (.cells #[.int .i64 x.f0.f0, .int .i64 x.f0.f1, .int .u32 x.f1.f0, .int .u64 x.f1.f1, .int .u64 x.f1.f2, .int .i64 x.f1.f3.f0, .int .i64 x.f1.f3.f1, .int .i64 x.f1.f3.f2, .int .i64 x.f1.f3.f3, .int .i64 x.f1.f4] 61)
      have k0 := bk'.cell 0
      have k1 := bk'.cell 1
      have k2 := bk'.cell 2
      have k3 := bk'.cell 3
      have k4 := bk'.cell 4
      simp at k0 k1 k2 k3 k4
      cases hp : p x
      · rw [hp] at hSx ht
        simp only [Bool.false_eq_true, if_false, List.append_nil] at ht
        gi_wp2_with fail
        refine ⟨trivial, fun _ => by omega, (callsIn_wide.2 (hSx _ (keep_below_alloc _ hB)).out).mono ?_⟩
        rintro e w1 ⟨rfl, hb1⟩
        have hbr := below_step (below_alloc (Below.refl _ wr) _) hb1
        have hJ1 := hJ _ _ _ none hJs (grown_of_below hbr) (by simp)
        gi_wp2
        refine ⟨fun _ h => (by cases h), ?_⟩
        gi_wp2
        go_roundw
        case rel => exact ⟨i + 1, by omega, by omega, by simp [hw], by rw [ht]; exact hJ1, keep_below hB hbr⟩
        case measure => simp [intOf, hw]; omega
      · rw [hp] at hSx ht
        simp only [if_true] at ht
        gi_wp2_with fail
        refine ⟨trivial, fun _ => by omega, (callsIn_wide.2 (hSx _ (keep_below_alloc _ hB)).out).mono ?_⟩
        rintro e w1 ⟨rfl, hb1⟩
        have bx := (Blk.new wr 61 #[.int .i64 x.f0.f0, .int .i64 x.f0.f1, .int .u32 x.f1.f0, .int .u64 x.f1.f1, .int .u64 x.f1.f2, .int .i64 x.f1.f3.f0, .int .i64 x.f1.f3.f1, .int .i64 x.f1.f3.f2, .int .i64 x.f1.f3.f3, .int .i64 x.f1.f4]).keep hb1
        have e0 := bx.cell 0
        have e1 := bx.cell 1
        have e2 := bx.cell 2
        have e3 := bx.cell 3
        have e4 := bx.cell 4
        have e5 := bx.cell 5
        have e6 := bx.cell 6
        have e7 := bx.cell 7
        have e8 := bx.cell 8
        have e9 := bx.cell 9
        simp at e0 e1 e2 e3 e4 e5 e6 e7 e8 e9
        have hbr := below_step (below_alloc (Below.refl _ wr) _) hb1
        obtain ⟨fn, tmps, assign, body, hy, hR⟩ := hY _ x w1 (hJ _ _ _ none hJs (grown_of_below hbr) (by simp)) hlen
        gi_wp2
        refine ⟨fun _ => by omega, hR.mono ?_⟩
        rintro e W3 (⟨rfl, hJ3, hk3⟩ | ⟨rfl, hJx3⟩)
        · gi_wp2
          go_roundw
          case rel => exact ⟨i + 1, by omega, by omega, by simp [hw], by rw [ht]; exact hJ3, (keep_below hB hbr).trans hk3⟩
          case measure => simp [intOf, hw]; omega
        · gi_wp2
          refine bodyPost_ret (results_none rfl _ _ _) rfl ?_
          refine ⟨⟨_, rfl⟩, .inr ⟨_, ?_, hJx3⟩⟩
          rw [← ht]
          exact (List.take_prefix _ _).filter p
    · have hd : decide (i < (l.length : Int)) = false := decide_eq_false hlt
      have e : i = l.length := by omega
      subst e
      rw [Int.toNat_natCast, List.take_length] at hJs
      gi_wp2
      go_end0
      first
        | exact ⟨⟨_, rfl⟩, .inl ⟨_, rfl, hJs⟩⟩
        | exact ⟨⟨_, rfl⟩, .inl hJs⟩
end Go.Proofs.Ytfggjefncnhikaa.V
namespace Go.Proofs.Ytfggjefncnhikaa.V
open Go.RowKit Go.Shelf Go.Proofs.YtfggjefncnhikaaW.PrintWords Go.Proofs.YtfggjefncnhikaaW.PrintLast Go.Proofs.YtfggjefncnhikaaW.PrintMore
attribute [local go_sem] Oper.semAt_some
abbrev cellsOf (x : S61) : List Value := [.int .i64 x.f0.f0, .int .i64 x.f0.f1, .int .u32 x.f1.f0, .int .u64 x.f1.f1, .int .u64 x.f1.f2, .int .i64 x.f1.f3.f0, .int .i64 x.f1.f3.f1, .int .i64 x.f1.f3.f2, .int .i64 x.f1.f3.f3, .int .i64 x.f1.f4]
def rowOf (l : List S61) : List Value := l.flatMap cellsOf
theorem rowOf_snoc (l : List S61) (x : S61) : rowOf (l ++ [x]) = rowOf l ++ cellsOf x := by simp [rowOf]
theorem rowOf_len : ∀ l : List S61, (rowOf l).length = l.length * 10
  | [] => rfl
  | x :: l => by
    have := rowOf_len l
    unfold rowOf at this ⊢
    rw [List.flatMap_cons, List.length_append, this, List.length_cons]
    simp
    omega
theorem rowOf_at : ∀ (l : List S61) (j : Nat) (p : S61), l[j]? = some p → ((rowOf l).drop (j * 10)).take 10 = cellsOf p
  | x :: l, 0, p, h => by
    simp at h
    subst h
    rfl
  | x :: l, j + 1, p, h => by
    have := rowOf_at l j p (by simpa using h)
    have e : rowOf (x :: l) = cellsOf x ++ rowOf l := rfl
    rw [e, show (j + 1) * 10 = 10 + j * 10 by omega, ← List.drop_drop]
    exact this
theorem R_of_row {W : World} {n₀ : Nat} {v : Value} {l : List S61} (h : W.ownsRow n₀ 61 10 v l.length (rowOf l)) : Kd.R k61 61 W n₀ (fun _ => True) v l :=
  ⟨fun _ _ => trivial, rowOf l, h, rowOf_len l, fun j p hp => by
    show k61.M W n₀ _ p ((rowOf l).drop (j * 10) |>.take 10)
    rw [rowOf_at l j p hp]
    exact k61_mkM _ _ _ _⟩
theorem cells_at (W : World) (x : S61) : ∀ j u, (cellsOf x)[j]? = some u → (W.alloc (.cells (cellsOf x).toArray 61)).cell? ((⟨W.heap.size, 0, none⟩ : Addr).add j) = some u := by
  intro j u h
  have e : (⟨W.heap.size, 0, none⟩ : Addr).add j = ⟨W.heap.size, j, none⟩ := by unfold Addr.add; split <;> simp_all
  rw [e, (Blk.new W 61 (cellsOf x).toArray).cell j, List.getElem?_toArray]
  exact h
section
variable (own : Int) (reads : Bool) (snap first : Int) (AL : Option Addr) (L : List S44) (cL : Nat) (A : Option Addr) (l : List S61) (c : Nat) (Bl Bk : Nat) (w : World)
theorem iter_stops (n : Nat) (hnn : 3 ≤ n) (hC : Kd.C k61 w A l.length l) (hn : l.length ≤ 1000) (hF : Kd.C k44 w AL L.length L) (hcL : L.length ≤ cL) (hright : rightF first (prs L) = true)
    (hBl : w.cell? ⟨Bl, 0, none⟩ = some (.slice A l.length c)) (hBk : Blk w Bk 72 (lookC own reads snap first AL L cL)) :
    SeqStopsK Fence.wide n Try.prog 45 #[.pointer (some ⟨Bl, 0, none⟩), .pointer (some ⟨Bk, 0, none⟩)] (fun x : S61 => #[stored x]) (Below w.heap.size) (fun xs => xs = l.filter (seesB own reads snap first L)) (fun pre => pre <+: l.filter (seesB own reads snap first L)) l.length w :=
  fun lp J Jx W hW hJ hJx hY h0 => iter_in n hnn own reads snap first AL L cL A l c lp Bl Bk w hC hn hF hcL hright hBl hBk J Jx W hW hJ hY h0
set_option maxRecDepth 100000 in
set_option maxHeartbeats 4000000 in
theorem appendSeq_any (hC : Kd.C k61 w A l.length l) (hn : l.length ≤ 1000) (hF : Kd.C k44 w AL L.length L) (hcL : L.length ≤ cL) (hright : rightF first (prs L) = true)
    (hBl : w.cell? ⟨Bl, 0, none⟩ = some (.slice A l.length c)) (hBk : Blk w Bk 72 (lookC own reads snap first AL L cL)) :
    Calls Try.prog 44 #[.slice none 0 0, .func (.func 45) #[] #[.pointer (some ⟨Bl, 0, none⟩), .pointer (some ⟨Bk, 0, none⟩)]] w fun e w' => ∃ v, e = .returned v ∧ w'.ownsRow w.heap.size 61 10 v (l.filter (seesB own reads snap first L)).length (rowOf (l.filter (seesB own reads snap first L))) ∧ Below w.heap.size w w' := by
  have hS := iter_stops own reads snap first AL L cL A l c Bl Bk w 7 (by omega) hC hn hF hcL hright hBl hBk
  generalize l.filter (seesB own reads snap first L) = R at hS ⊢
  obtain ⟨i0, hi0, hz0, hz1, hz2⟩ := info_parts info61
  refine (callsIn_wide (n := 8)).1 ?_
  refine callsIn_of_wp_marks Try.func44 rfl trivial ?_ rfl
  simp only [Try.ntmps44, List.size_toArray, List.length_cons, List.length_nil, Nat.reduceAdd, Nat.reduceSub, Array.replicate_succ, Array.replicate_zero, List.push_toArray, List.append_toArray, List.nil_append, List.cons_append]
  gi_wp2
  have b0 := Boxed.new w 51 (.slice none 0 0)
  have hB0 : Below w.heap.size w (w.alloc (.cells #[.slice none 0 0] 51)) := below_alloc (Below.refl _ _) _
  refine wpIn_rangeFunc_ownH rfl (by omega) (gf := 45) (lb := #[.pointer (some ⟨Bl, 0, none⟩), .pointer (some ⟨Bk, 0, none⟩)]) rfl trivial (enters_of Try.func45 (by kernel_rfl) rfl)
    hS belowK_t (belowK_b (by simp)) hB0 (fun _ => rfl)
    (fun pre W => (∃ v, Boxed W w.heap.size 51 v ∧ W.ownsRow w.heap.size 61 10 v pre.length (rowOf pre) ∧ True) ∧ Below w.heap.size w W)
    (fun _ _ _ => False)
    (OwnFrom.and (Own.from (holdsRow_own w.heap.size w.heap.size 51 61 10 (fun pre : List S61 => pre.length) rowOf (fun _ _ => True)) _) (ownFrom_below (Nat.le_refl _) (by simp)))
    (fun _ _ _ _ _ hs _ _ => hs)
    ⟨⟨.slice none 0 0, b0, World.ownsRow_nil _ _ _ _, trivial⟩, hB0⟩
    (fun x a' W => ∃ Bx, w.heap.size < Bx ∧ Blk W Bx 61 (cellsOf x).toArray ∧ a' = { tmps := #[.slice none 0 0, .func (.func 45) #[] #[.pointer (some ⟨Bl, 0, none⟩), .pointer (some ⟨Bk, 0, none⟩)], .pointer (some ⟨w.heap.size, 0, none⟩), undef, .slice none 0 0, .pointer (some ⟨Bx, 0, none⟩), .func (.func 45) #[] #[.pointer (some ⟨Bl, 0, none⟩), .pointer (some ⟨Bk, 0, none⟩)], stored x, undef, undef, undef, undef, undef], defers := [] })
    (fun x a' _ X Y row hs hg hr => by
      obtain ⟨Bx, h1, h2, h3⟩ := hs
      refine ⟨Bx, h1, (hg.block Bx h2.lt fun e => ?_).trans h2, h3⟩
      obtain ⟨o, ho, hc⟩ := (hr Bx e.symm).2
      unfold Blk at h2
      rw [h2] at ho
      cases ho
      cases hc)
    ?assign ?body ?done ?stop
  case assign =>
    rintro lp pre x W K ⟨⟨v, bv, ho, _⟩, hB⟩ hK
    gi_wp2
    exact hK _ _ ((KeepsOthers.alloc _ _).from _) ((Below.refl _ W).alloc hB.size _) ⟨⟨v, bv.alloc _, ho.alloc _, trivial⟩, hB.alloc hB.size _⟩ ⟨W.heap.size, bv.lt, Blk.new W 61 _, rfl⟩
  case body =>
    rintro lp pre x a' W hl ⟨r, hr⟩ ⟨⟨v, bv, ho, _⟩, hB⟩ ⟨Bx, hBx, bX, rfl⟩ hlt
    have cv := bv.cell
    have e0 := bX.cell 0
    have e1 := bX.cell 1
    have e2 := bX.cell 2
    have e3 := bX.cell 3
    have e4 := bX.cell 4
    have e5 := bX.cell 5
    have e6 := bX.cell 6
    have e7 := bX.cell 7
    have e8 := bX.cell 8
    have e9 := bX.cell 9
    simp at e0 e1 e2 e3 e4 e5 e6 e7 e8 e9
    gi_wp2_with (gi_at_builtin; refine wpListIn_append_own _ rfl _ _ 51 rfl w.heap.size 61 i0 _ 10 80 Try.underlying51 hi0 hz0 hz1 hz2 rfl (by decide) v pre.length (rowOf pre) rfl (ho.alloc _) ⟨W.heap.size, 0, none⟩ 1 1 (cellsOf x) rfl rfl (cells_at W x) (by simp [Value.oneCell']) (by unfold maxLen; omega) (by omega) (by have := hB.size; simp; omega) ?_; intro v' w1 hown' hgrow _; obtain ⟨g', cap', rfl⟩ := ownsRow_succ hown'; obtain ⟨hv1, hv2, hr2, hk2, hb2⟩ := bv.appended (by decide) ho hB.size (Nat.le_refl _) hown' hgrow; have hc1 := hv1.cell; have hf1 := hv1.frozen)
    exact ⟨hk2.from _, hb2, ⟨⟨_, hv2, by rw [rowOf_snoc, List.length_append]; exact hr2, trivial⟩, hB.trans hb2⟩⟩
  case done =>
    rintro D ys W hD rfl ⟨⟨v, bv, ho, _⟩, hB⟩ hK
    have cv := bv.cell
    gi_wp2
    refine ⟨by simp, .inl ⟨_, _, rfl, run_takeDeferred hK, ?_⟩⟩
    refine ⟨v, by simp [results, Try.results44, go_sem], v, rfl, ownsRow_putObj ho (.deferred none) hK rfl, hB.trans (belowK_b (w := w) (Nat.le_refl _) W D _ _ (by simp at hD; omega) hK rfl rfl)⟩
  case stop =>
    rintro D c pre W _ _ h _
    exact h.elim
end
end Go.Proofs.Ytfggjefncnhikaa.V
namespace Go.Proofs.Ytfggjefncnhikaa.V
open Go.RowKit Go.Proofs.YtfggjefncnhikaaW.PrintWords Go.Proofs.YtfggjefncnhikaaW.PrintLast Go.Proofs.YtfggjefncnhikaaW.PrintMore
section
variable (own : Int) (reads : Bool) (snap first : Int) (AL : Option Addr) (L : List S44) (cL : Nat) (A : Option Addr) (l : List S61) (c : Nat) (Bl Bk : Nat) (w : World)
set_option maxHeartbeats 2000000 in
theorem collect_any (hC : Kd.C k61 w A l.length l) (hn : l.length ≤ 1000) (hF : Kd.C k44 w AL L.length L) (hcL : L.length ≤ cL) (hright : rightF first (prs L) = true)
    (hBl : w.cell? ⟨Bl, 0, none⟩ = some (.slice A l.length c)) (hBk : Blk w Bk 72 (lookC own reads snap first AL L cL)) :
    Calls Try.prog 34 #[.func (.func 45) #[] #[.pointer (some ⟨Bl, 0, none⟩), .pointer (some ⟨Bk, 0, none⟩)]] w fun e w' => ∃ v, e = .returned v ∧ w'.ownsRow w.heap.size 61 10 v (l.filter (seesB own reads snap first L)).length (rowOf (l.filter (seesB own reads snap first L))) ∧ Below w.heap.size w w' := by
  have H := Lib.hid (appendSeq_any own reads snap first AL L cL A l c Bl Bk w hC hn hF hcL hright hBl hBk)
  clear hC hF hBl hBk hright
  generalize l.filter (seesB own reads snap first L) = R at H ⊢
  go_enter Try.func34, Try.ntmps34
  go_wp2_with (go_at_call 44; (with_reducible refine H.out.mono ?_); rintro e w1 ⟨v, rfl, ho, hb1⟩)
  go_ret
  exact ⟨v, rfl, ho, hb1⟩
end
def vision_Seen.f (a0_0 : Int) (l0_1 : List S44) (a1_0 : Int) (a1_1 : Bool) (a1_2 : Int) (l2 : List S61) : Option (List S61 × Int) :=
  (vision_ready.f a0_0 l0_1 l2).bind fun e => if ¬ e = 0 then some ([], e) else if rightF a0_0 (prs l0_1) = true then some (l2.filter (seesB a1_0 a1_1 a1_2 a0_0 l0_1), 0) else none
theorem ready_len {a0_0 : Int} {l0_1 : List S44} {l1 : List S61} {e : Int} (h : vision_ready.f a0_0 l0_1 l1 = some e) : l1.length ≤ 1000 := by
  unfold vision_ready.f at h
  by_cases hn : l1.length ≤ 1000
  · exact hn
  · rw [if_neg hn] at h; cases h
set_option maxHeartbeats 4000000 in
theorem vision_Seen_any (a0_0 : Int) (A0_1 : Option Addr) (c0_1 : Nat) (l0_1 : List S44) (a1_0 : Int) (a1_1 : Bool) (a1_2 : Int) (A2 : Option Addr) (c2 : Nat) (l2 : List S61) (r1 : List S61) (r2 : Int) (w : World) (hr0_1 : Kd.C k44 w A0_1 l0_1.length l0_1) (hc0_1 : l0_1.length ≤ c0_1) (hr2 : Kd.C k61 w A2 l2.length l2) (hc2 : l2.length ≤ c2) (h : vision_Seen.f a0_0 l0_1 a1_0 a1_1 a1_2 l2 = some (r1, r2)) :
    Calls Try.prog 21 #[.agg #[.int .u64 a0_0, .slice A0_1 l0_1.length c0_1], .agg #[.int .u64 a1_0, .bool a1_1, .int .u64 a1_2], .slice A2 l2.length c2] w fun e w' => ∃ v0_ : Value, e = .returned (.tuple #[v0_, .int .i64 r2]) ∧ Kd.R k61 61 w' w.heap.size (fun _ => True) v0_ r1 ∧ Below w.heap.size w w' := by
  unfold vision_Seen.f at h
  obtain ⟨e, he, h⟩ := Option.bind_eq_some_iff.1 h
  have hn := ready_len he
  have H1 := fun W (hb : Below w.heap.size w W) => Lib.hid (vision_ready_any a0_0 A0_1 c0_1 l0_1 A2 c2 l2 e W (Kd.C_below hr0_1 hb) hc0_1 (Kd.C_below hr2 hb) hc2 he)
  have HL := Lib.hid hr0_1
  have HC := Lib.hid hr2
  clear he hr0_1 hr2
  have hb0 : ∀ o1 o2 : Obj, Below w.heap.size w ((w.alloc o1).alloc o2) := fun o1 o2 => keep_below_alloc _ (below_alloc (Below.refl _ _) _)
  by_cases h0 : e = 0
  · rw [if_neg (fun h => h h0)] at h
    by_cases hR : rightF a0_0 (prs l0_1) = true
    case neg => rw [if_neg hR] at h; cases h
    rw [if_pos hR] at h
    injection h with h
    injection h with h1 h2
    subst h2 h0
    go_enter Try.func21, Try.ntmps21
    go_wp2_with (first
      | (go_at_call 33; (with_reducible refine (H1 _ (hb0 _ _)).out.mono ?_); rintro e w1 ⟨rfl, hb1⟩; have q3 := ((Blk.new w 25 #[.int .u64 a0_0, .slice A0_1 l0_1.length c0_1]).alloc (.cells #[.int .u64 a1_0, .bool a1_1, .int .u64 a1_2] 27)).keep hb1; have q4 := (Blk.new (w.alloc (.cells #[.int .u64 a0_0, .slice A0_1 l0_1.length c0_1] 25)) 27 #[.int .u64 a1_0, .bool a1_1, .int .u64 a1_2]).keep hb1; rw [World.size_alloc] at q4; have g0 := q3.cell 0; have g1 := q3.cell 1; have g2 := q4.cell 0; have g3 := q4.cell 1; have g4 := q4.cell 2; simp at g0 g1 g2 g3 g4)
      | (go_at_call 35; (with_reducible refine (seen_any a1_0 a1_1 a1_2 a0_0 A0_1 l0_1 c0_1 _ _ _ _).mono ?_); rintro e w2 ⟨rfl, rfl⟩)
      | (go_at_call 34; refine (collect_any a1_0 a1_1 a1_2 a0_0 A0_1 l0_1 c0_1 A2 l2 c2 (w1.heap.size + 1) w1.heap.size _ (Kd.C_below HC.out (keep_below_alloc _ (keep_below_alloc _ (keep_below (hb0 _ _) hb1)))) hn (Kd.C_below HL.out (keep_below_alloc _ (keep_below_alloc _ (keep_below (hb0 _ _) hb1)))) hc0_1 hR (by have := (Blk.new (w1.alloc (.cells (lookC a1_0 a1_1 a1_2 a0_0 A0_1 l0_1 c0_1) 72)) 51 #[.slice A2 l2.length c2]).cell 0; rw [World.size_alloc] at this; exact this) ((Blk.new w1 72 (lookC a1_0 a1_1 a1_2 a0_0 A0_1 l0_1 c0_1)).alloc _)).mono ?_; rintro e w4 ⟨v, rfl, ho, hb4⟩))
    have hB3 : Below w.heap.size w ((w1.alloc (.cells (lookC a1_0 a1_1 a1_2 a0_0 A0_1 l0_1 c0_1) 72)).alloc (.cells #[.slice A2 l2.length c2] 51)) := keep_below_alloc _ (keep_below_alloc _ (keep_below (hb0 _ _) hb1))
    rw [h1] at ho
    refine bodyPost_ret (v := .tuple #[v, .int .i64 0]) (by simp [results, Try.results21, go_sem, *]) rfl ⟨v, rfl, Kd.R_lower (R_of_row ho) hB3.size, keep_below hB3 hb4⟩
  · rw [if_pos h0] at h
    injection h with h
    injection h with h1 h2
    subst h1 h2
    have f1 : (e != 0) = true := bne_iff_ne.mpr h0
    have f2 : (e == 0) = false := beq_eq_false_iff_ne.mpr h0
    go_enter Try.func21, Try.ntmps21
    go_wp2_with (go_at_call 33; (with_reducible refine (H1 _ (hb0 _ _)).out.mono ?_); rintro e w1 ⟨rfl, hb1⟩)
    refine bodyPost_ret (v := .tuple #[.slice none 0 0, .int .i64 e]) (by simp [results, Try.results21, go_sem, *]) rfl ⟨_, rfl, Kd.R_nil _ _ _ _ _, keep_below (hb0 _ _) hb1⟩
end Go.Proofs.Ytfggjefncnhikaa.V
namespace Go.Proofs.Ytfggjefncnhikaa.V
open Go.RowKit Go.Shelf Go.Proofs.YtfggjefncnhikaaW.PrintWords Go.Proofs.YtfggjefncnhikaaW.PrintLast Go.Proofs.YtfggjefncnhikaaW.PrintMore
attribute [local go_sem] Oper.semAt_some
set_option maxRecDepth 100000 in
set_option maxHeartbeats 4000000 in
theorem iter_gen (n : Nat) (hnn : 3 ≤ n) (own : Int) (reads : Bool) (snap first : Int) (AL : Option Addr) (L : List S44) (cL : Nat) (A : Option Addr) (l : List S61) (c : Nat) (lp Bl Bk : Nat) (w : World)
    (hC : Kd.C k61 w A l.length l) (hn : l.length ≤ 1000) (hF : Kd.C k44 w AL L.length L) (hcL : L.length ≤ cL) (hright : rightF first (prs L) = true)
    (J Jx : List S61 → World → Prop) (W : World) (hBl : W.cell? ⟨Bl, 0, none⟩ = some (.slice A l.length c)) (hBk : Blk W Bk 72 (lookC own reads snap first AL L cL)) (hW : Below w.heap.size w W) (hJ : AbidesFrom W.heap.size J)
    (hY : ∀ pre x W1, J pre W1 → pre.length < l.length → YieldAt Fence.wide (n - 1) Try.prog lp #[stored x] W1 fun e W' =>
      (e = .returned (.bool true) ∧ J (pre ++ [x]) W' ∧ Below w.heap.size W1 W' ∧ W'.heap[Bk]? = W1.heap[Bk]?) ∨ (e = .returned (.bool false) ∧ Jx (pre ++ [x]) W'))
    (h0 : J [] W) :
    CallsIn Fence.wide n Try.prog 45 #[.func (.yield lp) #[] #[], .pointer (some ⟨Bl, 0, none⟩), .pointer (some ⟨Bk, 0, none⟩)] W fun e W' => (∃ v, e = .returned v) ∧
      ((∃ xs, xs = l.filter (seesB own reads snap first L) ∧ J xs W') ∨ (∃ pre, pre <+: l.filter (seesB own reads snap first L) ∧ Jx pre W')) := by
  have hS : ∀ (x : S61) (W1 : World), Below w.heap.size w W1 → Hid (Calls Try.prog 29 #[.agg (lookC own reads snap first AL L cL), .agg #[.int .u32 x.f1.f0, .int .u64 x.f1.f1, .int .u64 x.f1.f2, .int .i64 x.f1.f3.f0, .int .i64 x.f1.f3.f1, .int .i64 x.f1.f3.f2, .int .i64 x.f1.f3.f3, .int .i64 x.f1.f4]] W1 fun e w' => e = .returned (.bool (seesB own reads snap first L x)) ∧ Below W1.heap.size W1 w') := fun x W1 hb =>
    Lib.hid (vision_look_sees.calls own reads snap first AL cL L x.f1.f0 x.f1.f1 x.f1.f2 x.f1.f3.f0 x.f1.f3.f1 x.f1.f3.f2 x.f1.f3.f3 x.f1.f4 _ W1 (Kd.C_below hF hb) hcL (by unfold vision_look_sees.f seesB; rw [if_pos hright]))
  generalize seesB own reads snap first L = p at hS ⊢
  refine callsIn_of_wp Try.func45 rfl trivial ?_ rfl
  simp only [Try.ntmps45, List.size_toArray, List.length_cons, List.length_nil, Nat.reduceAdd, Nat.reduceSub, Array.replicate_succ, Array.replicate_zero, List.push_toArray, List.append_toArray, List.nil_append, List.cons_append]
  gi_wp2
  gi_loopw [8] (fun v8 wr => ∃ i : Int, 0 ≤ i ∧ i ≤ l.length ∧ v8 = .int .i64 i ∧ J ((l.take i.toNat).filter p) wr ∧ Below w.heap.size w wr ∧ Blk wr Bk 72 (lookC own reads snap first AL L cL)) (fun v8 _ => l.length - (intOf v8).toNat)
  case atStart => exact ⟨0, Int.le_refl _, by omega, rfl, h0, hW, hBk⟩
  case round =>
    obtain ⟨i, i0, i1, rfl, hJs, hB, bk⟩ := hrel
    by_cases hlt : i < l.length
    · have hd : decide (i < (l.length : Int)) = true := decide_eq_true hlt
      have hw := wrap_sm (z := i + 1) (by omega) (by omega)
      obtain ⟨ad, rfl, x0, x1, x2, x3, x4, x5, x6, x7, x8, x9⟩ := at_T61 (Kd.C_below hC hB) i i0 hlt
      have p0 : (0 ≤ i) = True := eq_true i0
      have p1 : (i < (l.length : Int)) = True := eq_true hlt
      have ht : (l.take (i + 1).toNat).filter p = (l.take i.toNat).filter p ++ (if p (rd_T61 l i) = true then [rd_T61 l i] else []) := by
        have e : (i + 1).toNat = i.toNat + 1 := by omega
        have hl : i.toNat < l.length := by omega
        have er : rd_T61 l i = l[i.toNat] := by unfold rd_T61; rw [List.getD_eq_getElem?_getD, List.getElem?_eq_getElem hl]; rfl
        rw [e, List.take_succ_eq_append_getElem hl, List.filter_append, er]
        congr 1
        simp only [List.filter_cons, List.filter_nil]
      have hlen : ((l.take i.toNat).filter p).length < l.length := by
        have h1 := List.length_filter_le p (l.take i.toNat)
        have h2 := List.length_take_le i.toNat l
        have h3 : (l.take i.toNat).length ≤ i.toNat := by simp; omega
        omega
      generalize hx : rd_T61 l i = x at *
      have hSx := fun W1 hb => hS x W1 hb
      have bk' := bk.alloc (.cells #[.int .i64 x.f0.f0, .int .i64 x.f0.f1, .int .u32 x.f1.f0, .int .u64 x.f1.f1, .int .u64 x.f1.f2, .int .i64 x.f1.f3.f0, .int .i64 x.f1.f3.f1, .int .i64 x.f1.f3.f2, .int .i64 x.f1.f3.f3, .int .i64 x.f1.f4] 61)
      have k0 := bk'.cell 0
      have k1 := bk'.cell 1
      have k2 := bk'.cell 2
      have k3 := bk'.cell 3
      have k4 := bk'.cell 4
      simp at k0 k1 k2 k3 k4
      cases hp : p x
      · rw [hp] at hSx ht
        simp only [Bool.false_eq_true, if_false, List.append_nil] at ht
        gi_wp2_with fail
        refine ⟨trivial, fun _ => by omega, (callsIn_wide.2 (hSx _ (keep_below_alloc _ hB)).out).mono ?_⟩
        rintro e w1 ⟨rfl, hb1⟩
        have hbr := below_step (below_alloc (Below.refl _ wr) _) hb1
        have hJ1 := hJ _ _ _ none hJs (grown_of_below hbr) (by simp)
        gi_wp2
        refine ⟨fun _ h => (by cases h), ?_⟩
        gi_wp2
        go_roundw
        case rel => exact ⟨i + 1, by omega, by omega, by simp [hw], by rw [ht]; exact hJ1, keep_below hB hbr, bk.keep hbr⟩
        case measure => simp [intOf, hw]; omega
      · rw [hp] at hSx ht
        simp only [if_true] at ht
        gi_wp2_with fail
        refine ⟨trivial, fun _ => by omega, (callsIn_wide.2 (hSx _ (keep_below_alloc _ hB)).out).mono ?_⟩
        rintro e w1 ⟨rfl, hb1⟩
        have bx := (Blk.new wr 61 #[.int .i64 x.f0.f0, .int .i64 x.f0.f1, .int .u32 x.f1.f0, .int .u64 x.f1.f1, .int .u64 x.f1.f2, .int .i64 x.f1.f3.f0, .int .i64 x.f1.f3.f1, .int .i64 x.f1.f3.f2, .int .i64 x.f1.f3.f3, .int .i64 x.f1.f4]).keep hb1
        have e0 := bx.cell 0
        have e1 := bx.cell 1
        have e2 := bx.cell 2
        have e3 := bx.cell 3
        have e4 := bx.cell 4
        have e5 := bx.cell 5
        have e6 := bx.cell 6
        have e7 := bx.cell 7
        have e8 := bx.cell 8
        have e9 := bx.cell 9
        simp at e0 e1 e2 e3 e4 e5 e6 e7 e8 e9
        have hbr := below_step (below_alloc (Below.refl _ wr) _) hb1
        obtain ⟨fn, tmps, assign, body, hy, hR⟩ := hY _ x w1 (hJ _ _ _ none hJs (grown_of_below hbr) (by simp)) hlen
        gi_wp2
        refine ⟨fun _ => by omega, hR.mono ?_⟩
        rintro e W3 (⟨rfl, hJ3, hk3, hk4⟩ | ⟨rfl, hJx3⟩)
        · gi_wp2
          go_roundw
          case rel => exact ⟨i + 1, by omega, by omega, by simp [hw], by rw [ht]; exact hJ3, (keep_below hB hbr).trans hk3, hk4.trans (bk.keep hbr)⟩
          case measure => simp [intOf, hw]; omega
        · gi_wp2
          refine bodyPost_ret (results_none rfl _ _ _) rfl ?_
          refine ⟨⟨_, rfl⟩, .inr ⟨_, ?_, hJx3⟩⟩
          rw [← ht]
          exact (List.take_prefix _ _).filter p
    · have hd : decide (i < (l.length : Int)) = false := decide_eq_false hlt
      have e : i = l.length := by omega
      subst e
      rw [Int.toNat_natCast, List.take_length] at hJs
      gi_wp2
      go_end0
      first
        | exact ⟨⟨_, rfl⟩, .inl ⟨_, rfl, hJs⟩⟩
        | exact ⟨⟨_, rfl⟩, .inl hJs⟩
theorem iter_stops2 (n : Nat) (hnn : 3 ≤ n) (own : Int) (reads : Bool) (snap first : Int) (AL : Option Addr) (L : List S44) (cL : Nat) (A : Option Addr) (l : List S61) (c : Nat) (Bl Bk : Nat) (w w0 : World)
    (hC : Kd.C k61 w A l.length l) (hn : l.length ≤ 1000) (hF : Kd.C k44 w AL L.length L) (hcL : L.length ≤ cL) (hright : rightF first (prs L) = true) (hw : Below w.heap.size w w0)
    (hBl : w0.cell? ⟨Bl, 0, none⟩ = some (.slice A l.length c)) (hBk : Blk w0 Bk 72 (lookC own reads snap first AL L cL)) :
    SeqStopsK Fence.wide n Try.prog 45 #[.pointer (some ⟨Bl, 0, none⟩), .pointer (some ⟨Bk, 0, none⟩)] (fun x : S61 => #[stored x]) (fun W W' => Below w.heap.size W W' ∧ W'.heap[Bk]? = W.heap[Bk]?) (fun xs => xs = l.filter (seesB own reads snap first L)) (fun pre => pre <+: l.filter (seesB own reads snap first L)) l.length w0 :=
  fun lp J Jx W hW hJ hJx hY h0 => iter_gen n hnn own reads snap first AL L cL A l c lp Bl Bk w hC hn hF hcL hright J Jx W (keep_cell hW hBl) (hBk.keep hW) (keep_below hw hW) hJ hY h0
end Go.Proofs.Ytfggjefncnhikaa.V
namespace Go.Proofs.Ytfggjefncnhikaa.V
open Go.RowKit Go.Shelf Go.Proofs.YtfggjefncnhikaaW.PrintWords Go.Proofs.YtfggjefncnhikaaW.PrintLast Go.Proofs.YtfggjefncnhikaaW.PrintMore
attribute [local go_sem] Oper.semAt_some
def mB (a b c d : Int) (x : S61) : Bool := (key_Meets.f x.f1.f3.f0 x.f1.f3.f1 x.f1.f3.f2 x.f1.f3.f3 a b c d).getD false
theorem meets_some (a b c d : Int) (x : S61) : key_Meets.f x.f1.f3.f0 x.f1.f3.f1 x.f1.f3.f2 x.f1.f3.f3 a b c d = some (mB a b c d x) := by
  have : ∃ r, key_Meets.f x.f1.f3.f0 x.f1.f3.f1 x.f1.f3.f2 x.f1.f3.f3 a b c d = some r := by
    unfold key_Meets.f key_box.f
    by_cases h1 : x.f1.f3.f0 ≤ x.f1.f3.f1 <;> by_cases h2 : x.f1.f3.f2 ≤ x.f1.f3.f3 <;> by_cases h3 : a ≤ b <;> by_cases h4 : c ≤ d <;> simp only [h1, h2, h3, h4, if_true, if_false, Option.bind_some, decide_true, decide_false, Bool.false_eq_true] <;> (repeat' split) <;> exact ⟨_, rfl⟩
  obtain ⟨r, hr⟩ := this
  unfold mB
  rw [hr]
  rfl
theorem blk_own {β : Type} (g : Nat) (t : TypeId) (cs : Array Value) : Own (fun (_ : β) W => Blk W g t cs) := fun s A B row hs hg hr => (hg.block g (Blk.lt hs) fun e => by
  obtain ⟨o, ho, hc⟩ := hr g e.symm
  unfold Blk at hs
  rw [hs] at ho
  cases ho
  cases hc).trans hs
theorem keeps_below {W W' : World} (hb : Below W.heap.size W W') : KeepsOthers W W' := KeepsOthers.of_grownBy (grown_of_below hb) (fun j o e _ => by cases e)
set_option maxRecDepth 100000 in
set_option maxHeartbeats 4000000 in
theorem in_any (a0_0 : Int) (A0_1 : Option Addr) (c0_1 : Nat) (l0_1 : List S44) (a1_0 : Int) (a1_1 : Bool) (a1_2 : Int) (A2 : Option Addr) (c2 : Nat) (l2 : List S61) (x0 x1 y0 y1 : Int) (w : World) (hr0_1 : Kd.C k44 w A0_1 l0_1.length l0_1) (hc0_1 : l0_1.length ≤ c0_1) (hr2 : Kd.C k61 w A2 l2.length l2) (hc2 : l2.length ≤ c2)
    (hk : key_Check.f 1 x0 x1 y0 y1 = some 0) (hc : vision_Check.f a0_0 l0_1 = some 0) (he : vision_ready.f a0_0 l0_1 l2 = some 0) (hR : rightF a0_0 (prs l0_1) = true) :
    Calls Try.prog 22 #[.agg #[.int .u64 a0_0, .slice A0_1 l0_1.length c0_1], .agg #[.int .u64 a1_0, .bool a1_1, .int .u64 a1_2], .slice A2 l2.length c2, .agg #[.int .i64 x0, .int .i64 x1, .int .i64 y0, .int .i64 y1]] w fun e w' => ∃ v0_ : Value, e = .returned (.tuple #[v0_, .int .i64 0]) ∧ Kd.R k61 61 w' w.heap.size (fun _ => True) v0_ ((l2.filter (seesB a1_0 a1_1 a1_2 a0_0 l0_1)).filter (mB x0 x1 y0 y1)) ∧ Below w.heap.size w w' := by
  have hn := ready_len he
  have H0 := fun W (hb : Below w.heap.size w W) => Lib.hid (vision_Check.calls a0_0 A0_1 c0_1 l0_1 0 W (Kd.C_below hr0_1 hb) hc0_1 hc)
  have H1 := fun W (hb : Below w.heap.size w W) => Lib.hid (vision_ready_any a0_0 A0_1 c0_1 l0_1 A2 c2 l2 0 W (Kd.C_below hr0_1 hb) hc0_1 (Kd.C_below hr2 hb) hc2 he)
  have H2 := fun W => Lib.hid (key_Check.calls 1 x0 x1 y0 y1 0 W hk)
  have H3 := fun (x : S61) W => Lib.hid (key_Meets.calls _ _ _ _ _ _ _ _ _ W (meets_some x0 x1 y0 y1 x))
  clear he hc hk
  obtain ⟨i0, hi0, hz0, hz1, hz2⟩ := info_parts info61
  have hS0 := fun (Bl Bk : Nat) (W0 : World) (hw : Below w.heap.size w W0) (hBl : W0.cell? ⟨Bl, 0, none⟩ = some (.slice A2 l2.length c2)) (hBk : Blk W0 Bk 72 (lookC a1_0 a1_1 a1_2 a0_0 A0_1 l0_1 c0_1)) => iter_stops2 8 (by omega) a1_0 a1_1 a1_2 a0_0 A0_1 l0_1 c0_1 A2 l2 c2 Bl Bk w W0 hr2 hn hr0_1 hc0_1 hR hw hBl hBk
  generalize l2.filter (seesB a1_0 a1_1 a1_2 a0_0 l0_1) = R at hS0 ⊢
  generalize mB x0 x1 y0 y1 = m at H3 ⊢
  refine (callsIn_wide (n := 9)).1 ?_
  refine callsIn_of_wp_marks Try.func22 rfl trivial ?_ rfl
  simp only [Try.ntmps22, List.size_toArray, List.length_cons, List.length_nil, Nat.reduceAdd, Nat.reduceSub, Array.replicate_succ, Array.replicate_zero, List.push_toArray, List.append_toArray, List.nil_append, List.cons_append]
  gi_wp2_with fail
  have hb0 : ∀ o1 o2 o3 : Obj, Below w.heap.size w (((w.alloc o1).alloc o2).alloc o3) := fun o1 o2 o3 => keep_below_alloc _ (keep_below_alloc _ (below_alloc (Below.refl _ _) _))
  have qf := ((Blk.new w 25 #[.int .u64 a0_0, .slice A0_1 l0_1.length c0_1]).alloc (.cells #[.int .u64 a1_0, .bool a1_1, .int .u64 a1_2] 27)).alloc (.cells #[.int .i64 x0, .int .i64 x1, .int .i64 y0, .int .i64 y1] 30)
  have qe := (Blk.new (w.alloc (.cells #[.int .u64 a0_0, .slice A0_1 l0_1.length c0_1] 25)) 27 #[.int .u64 a1_0, .bool a1_1, .int .u64 a1_2]).alloc (.cells #[.int .i64 x0, .int .i64 x1, .int .i64 y0, .int .i64 y1] 30)
  have qw := Blk.new ((w.alloc (.cells #[.int .u64 a0_0, .slice A0_1 l0_1.length c0_1] 25)).alloc (.cells #[.int .u64 a1_0, .bool a1_1, .int .u64 a1_2] 27)) 30 #[.int .i64 x0, .int .i64 x1, .int .i64 y0, .int .i64 y1]
  simp only [World.size_alloc] at qf qe qw
  refine ⟨trivial, (callsIn_wide.2 (H0 _ (hb0 _ _ _)).out).mono ?_⟩
  rintro e w1 ⟨rfl, hb1⟩
  replace qf := qf.keep hb1
  replace qe := qe.keep hb1
  replace qw := qw.keep hb1
  have hB1 := keep_below (hb0 _ _ _) hb1
  clear hb1 hb0
  have d0 := qw.cell 0
  have d1 := qw.cell 1
  have d2 := qw.cell 2
  have d3 := qw.cell 3
  simp at d0 d1 d2 d3
  gi_wp2_with fail
  refine ⟨trivial, (callsIn_wide.2 (H2 _).out).mono ?_⟩
  rintro e w2 ⟨rfl, hb2⟩
  replace qf := qf.keep hb2
  replace qe := qe.keep hb2
  replace qw := qw.keep hb2
  replace hB1 := keep_below hB1 hb2
  clear hb2 d0 d1 d2 d3
  have f0 := qf.cell 0
  have f1 := qf.cell 1
  simp at f0 f1
  gi_wp2_with fail
  refine ⟨trivial, (callsIn_wide.2 (H1 _ hB1).out).mono ?_⟩
  rintro e w3 ⟨rfl, hb3⟩
  replace qf := qf.keep hb3
  replace qe := qe.keep hb3
  replace qw := qw.keep hb3
  replace hB1 := keep_below hB1 hb3
  clear hb3 f0 f1
  have qf' := qf.alloc (.cells #[.slice none 0 0] 51)
  have qe' := qe.alloc (.cells #[.slice none 0 0] 51)
  have f0 := qf'.cell 0
  have f1 := qf'.cell 1
  have g0 := qe'.cell 0
  have g1 := qe'.cell 1
  have g2 := qe'.cell 2
  simp at f0 f1 g0 g1 g2
  gi_wp2_with fail
  refine ⟨trivial, (callsIn_wide.2 (seen_any a1_0 a1_1 a1_2 a0_0 A0_1 l0_1 c0_1 _ _ _ _)).mono ?_⟩
  rintro e w4 ⟨rfl, rfl⟩
  clear f0 f1 g0 g1 g2 qf' qe' qf qe
  gi_wp2
  have b0 := ((Boxed.new w3 51 (.slice none 0 0)).alloc (.cells (lookC a1_0 a1_1 a1_2 a0_0 A0_1 l0_1 c0_1) 72)).alloc (.cells #[.slice A2 l2.length c2] 51)
  have bk0 := (Blk.new (w3.alloc (.cells #[.slice none 0 0] 51)) 72 (lookC a1_0 a1_1 a1_2 a0_0 A0_1 l0_1 c0_1)).alloc (.cells #[.slice A2 l2.length c2] 51)
  have bl0 := (Blk.new ((w3.alloc (.cells #[.slice none 0 0] 51)).alloc (.cells (lookC a1_0 a1_1 a1_2 a0_0 A0_1 l0_1 c0_1) 72)) 51 #[.slice A2 l2.length c2]).cell 0
  have hB3 : Below w3.heap.size w3 (((w3.alloc (.cells #[.slice none 0 0] 51)).alloc (.cells (lookC a1_0 a1_1 a1_2 a0_0 A0_1 l0_1 c0_1) 72)).alloc (.cells #[.slice A2 l2.length c2] 51)) := keep_below_alloc _ (keep_below_alloc _ (below_alloc (Below.refl _ _) _))
  have hsz : (((w3.alloc (.cells #[.slice none 0 0] 51)).alloc (.cells (lookC a1_0 a1_1 a1_2 a0_0 A0_1 l0_1 c0_1) 72)).alloc (.cells #[.slice A2 l2.length c2] 51)).heap.size = w3.heap.size + 3 := by simp
  simp only [World.size_alloc] at bk0 bl0
  obtain ⟨W0, hW0⟩ : ∃ W0, ((w3.alloc (.cells #[.slice none 0 0] 51)).alloc (.cells (lookC a1_0 a1_1 a1_2 a0_0 A0_1 l0_1 c0_1) 72)).alloc (.cells #[.slice A2 l2.length c2] 51) = W0 := ⟨_, rfl⟩
  rw [hW0] at b0 bk0 bl0 hB3 hsz ⊢
  clear hW0
  have hBW := keep_below hB1 hB3
  have hle := hB1.size
  have hS := hS0 (w3.heap.size + 1 + 1) (w3.heap.size + 1) W0 hBW (by simpa using bl0) bk0
  refine wpIn_rangeFunc_ownH rfl (by omega) (gf := 45) (lb := #[.pointer (some ⟨w3.heap.size + 1 + 1, 0, none⟩), .pointer (some ⟨w3.heap.size + 1, 0, none⟩)]) rfl trivial (enters_of Try.func45 (by kernel_rfl) rfl)
    hS (fun h1 h2 => ⟨h1.1.trans h2.1, h2.2.trans h1.2⟩)
    (fun W q o o' hl ho hc hwk => ⟨belowK_b (w := W0) (by omega) W q o o' hl ho hc hwk, (belowK_b (n₀ := w3.heap.size + 1 + 1) (w := W0) (by omega) W q o o' hl ho hc hwk).block _ (by omega)⟩) (Below.refl _ _) (fun _ => rfl)
    (fun pre W => ((∃ v, Boxed W w3.heap.size 51 v ∧ W.ownsRow w3.heap.size 61 10 v (pre.filter m).length (rowOf (pre.filter m)) ∧ True) ∧ Blk W (w3.heap.size + 1) 72 (lookC a1_0 a1_1 a1_2 a0_0 A0_1 l0_1 c0_1)) ∧ Below w3.heap.size w3 W)
    (fun _ _ _ => False)
    (OwnFrom.and (OwnFrom.and (Own.from (holdsRow_own w3.heap.size w3.heap.size 51 61 10 (fun pre : List S61 => (pre.filter m).length) (fun pre => rowOf (pre.filter m)) (fun _ _ => True)) _) (Own.from (blk_own _ _ _) _)) (ownFrom_below (Nat.le_refl _) (by omega)))
    (fun _ _ _ _ _ hs _ _ => hs)
    ⟨⟨⟨.slice none 0 0, b0, World.ownsRow_nil _ _ _ _, trivial⟩, bk0⟩, hB3⟩
    (fun x a' W => ∃ Bx, w3.heap.size < Bx ∧ Blk W Bx 61 (cellsOf x).toArray ∧ a' = { tmps := #[.agg #[.int .u64 a0_0, .slice A0_1 l0_1.length c0_1], .agg #[.int .u64 a1_0, .bool a1_1, .int .u64 a1_2], .slice A2 l2.length c2, .agg #[.int .i64 x0, .int .i64 x1, .int .i64 y0, .int .i64 y1], .pointer (some ⟨w.heap.size, 0, none⟩), .pointer (some ⟨w.heap.size + 1, 0, none⟩), undef, .pointer (some ⟨w.heap.size + 1 + 1, 0, none⟩), .slice none 0 0, .int .i64 0, .int .i64 0, .pointer (some ⟨w3.heap.size, 0, none⟩), .pointer (some ⟨Bx, 0, none⟩), .agg #[.int .u64 a0_0, .slice A0_1 l0_1.length c0_1], .int .i64 0, .bool true, .bool true, .agg #[.int .i64 x0, .int .i64 x1, .int .i64 y0, .int .i64 y1], .int .i64 0, .bool false, .bool false, .agg #[.int .u64 a0_0, .slice A0_1 l0_1.length c0_1], .slice A2 l2.length c2, .int .i64 0, .int .i64 0, .bool false, undef, .agg #[.int .u64 a1_0, .bool a1_1, .int .u64 a1_2], .agg #[.int .u64 a0_0, .slice A0_1 l0_1.length c0_1], .agg (lookC a1_0 a1_1 a1_2 a0_0 A0_1 l0_1 c0_1), .slice A2 l2.length c2, .func (.func 45) #[] #[.pointer (some ⟨w3.heap.size + 1 + 1, 0, none⟩), .pointer (some ⟨w3.heap.size + 1, 0, none⟩)], stored x, undef, undef, undef, undef, undef, undef, undef, undef, undef, undef], defers := [] })
    (fun x a' _ X Y row hs hg hr => by
      obtain ⟨Bx, h1, h2, h3⟩ := hs
      exact ⟨Bx, h1, blk_own Bx 61 (cellsOf x).toArray () X Y row h2 hg (fun r e => (hr r e).2), h3⟩)
    ?assign ?body ?done ?stop
  case assign =>
    rintro lp pre x W K ⟨⟨⟨v, bv, ho, _⟩, bk⟩, hB⟩ hK
    gi_wp2
    have hsW := hB.size
    exact hK _ _ ((KeepsOthers.alloc _ _).from _) ⟨(Below.refl _ W).alloc (by omega) _, (bk.alloc _).trans bk.symm⟩ ⟨⟨⟨v, bv.alloc _, ho.alloc _, trivial⟩, bk.alloc _⟩, hB.alloc hB.size _⟩ ⟨W.heap.size, bv.lt, Blk.new W 61 _, rfl⟩
  case body =>
    rintro lp pre x a' W hl ⟨r, hr⟩ ⟨⟨⟨v, bv, ho, _⟩, bk⟩, hB⟩ ⟨Bx, hBx, bX, rfl⟩ hlt
    have hsW := hB.size
    have qW := qw.keep hB
    have d0 := qW.cell 0
    have d1 := qW.cell 1
    have d2 := qW.cell 2
    have d3 := qW.cell 3
    have e5 := bX.cell 5
    have e6 := bX.cell 6
    have e7 := bX.cell 7
    have e8 := bX.cell 8
    simp at d0 d1 d2 d3 e5 e6 e7 e8
    gi_wp2_with fail
    refine ⟨trivial, (CallsIn.inRound lp (callsIn_wide.2 (H3 x W).out)).mono ?_⟩
    rintro e W1 ⟨rfl, hb1⟩
    have bv1 : Boxed W1 w3.heap.size 51 v := (hb1.block _ bv.lt).trans bv
    have ho1 := own_move ho (fun k hk => hb1.block k (ho.lt k hk).2)
    have bk1 := bk.keep hb1
    have bX1 := bX.keep hb1
    have hB1' := keep_below hB hb1
    have hs1 := hb1.size
    clear d0 d1 d2 d3 e5 e6 e7 e8
    cases hm2 : m x
    · have hf : (pre ++ [x]).filter m = pre.filter m := by rw [List.filter_append]; simp [hm2]
      gi_wp2
      exact ⟨(keeps_below hb1).from _, ⟨hb1.mono (by omega), bk1.trans bk.symm⟩, ⟨⟨⟨v, bv1, by rw [hf]; exact ho1, trivial⟩, bk1⟩, hB1'⟩⟩
    · have hf : (pre ++ [x]).filter m = pre.filter m ++ [x] := by rw [List.filter_append]; simp [hm2]
      have hfl := List.length_filter_le m pre
      have cv := bv1.cell
      have e0 := bX1.cell 0
      have e1 := bX1.cell 1
      have e2 := bX1.cell 2
      have e3 := bX1.cell 3
      have e4 := bX1.cell 4
      have e5 := bX1.cell 5
      have e6 := bX1.cell 6
      have e7 := bX1.cell 7
      have e8 := bX1.cell 8
      have e9 := bX1.cell 9
      simp at e0 e1 e2 e3 e4 e5 e6 e7 e8 e9
      gi_wp2_with (gi_at_builtin; refine wpListIn_append_own _ rfl _ _ 51 rfl w3.heap.size 61 i0 _ 10 80 Try.underlying51 hi0 hz0 hz1 hz2 rfl (by decide) v (pre.filter m).length (rowOf (pre.filter m)) rfl (ho1.alloc _) ⟨W1.heap.size, 0, none⟩ 1 1 (cellsOf x) rfl rfl (cells_at W1 x) (by simp [Value.oneCell']) (by unfold maxLen; omega) (by omega) (by have := hB1'.size; simp; omega) ?_; intro v' w1' hown' hgrow _; obtain ⟨g', cap', rfl⟩ := ownsRow_succ hown'; obtain ⟨hv1, hv2, hr2, hk2, hb2⟩ := bv1.appended (by decide) ho1 hB1'.size (Nat.le_refl _) hown' hgrow; have hc1 := hv1.cell; have hf1 := hv1.frozen; have bk2 := ((bk1.alloc _).grown hgrow (fun e => own_blk_ne ho1 bk1 (by decide) e.symm)).far (p := ⟨w3.heap.size, 0, none⟩) (by simp) (.slice (some ⟨g', 0, none⟩) ((pre.filter m).length + 1) cap'))
      exact ⟨((keeps_below hb1).trans hk2).from _, ⟨(hb1.mono (by omega)).trans (hb2.mono (by omega)), bk2.trans bk.symm⟩, ⟨⟨⟨_, hv2, by rw [hf, rowOf_snoc, List.length_append]; exact hr2, trivial⟩, bk2⟩, hB1'.trans hb2⟩⟩
  case done =>
    rintro D ys W hD rfl ⟨⟨⟨v, bv, ho, _⟩, bk⟩, hB⟩ hK
    have cv := bv.cell
    gi_wp2
    refine ⟨by simp, .inl ⟨_, _, rfl, run_takeDeferred hK, ?_⟩⟩
    have hBD := keep_below hB1 hB
    refine ⟨.tuple #[v, .int .i64 0], by simp [results, Try.results22, go_sem], v, rfl, Kd.R_lower (R_of_row (ownsRow_putObj ho (.deferred none) hK rfl)) hle, hBD.trans (belowK_b (w := W0) (by omega) W D _ _ hD hK rfl rfl)⟩
  case stop =>
    rintro D c pre W _ _ h _
    exact h.elim
end Go.Proofs.Ytfggjefncnhikaa.V
namespace Go.Proofs.Ytfggjefncnhikaa.V
open Go.RowKit Go.Shelf Go.Proofs.YtfggjefncnhikaaW.PrintWords Go.Proofs.YtfggjefncnhikaaW.PrintLast Go.Proofs.YtfggjefncnhikaaW.PrintMore
attribute [local go_sem] Oper.semAt_some
abbrev zeroC : Array Value := #[.int .i64 0, .int .i64 0, .int .u32 0, .int .u64 0, .int .u64 0, .int .i64 0, .int .i64 0, .int .i64 0, .int .i64 0, .int .i64 0]
abbrev st10 (W : World) (g : Nat) (x : S61) : World := ((((((((((W.setCell ⟨g, 0, none⟩ (.int .i64 x.f0.f0)).setCell ⟨g, 1, none⟩ (.int .i64 x.f0.f1)).setCell ⟨g, 2, none⟩ (.int .u32 x.f1.f0)).setCell ⟨g, 3, none⟩ (.int .u64 x.f1.f1)).setCell ⟨g, 4, none⟩ (.int .u64 x.f1.f2)).setCell ⟨g, 5, none⟩ (.int .i64 x.f1.f3.f0)).setCell ⟨g, 6, none⟩ (.int .i64 x.f1.f3.f1)).setCell ⟨g, 7, none⟩ (.int .i64 x.f1.f3.f2)).setCell ⟨g, 8, none⟩ (.int .i64 x.f1.f3.f3)).setCell ⟨g, 9, none⟩ (.int .i64 x.f1.f4))
section
variable {W w : World} {g g' n : Nat} {t : TypeId} {cs : Array Value} (x : S61)
theorem set10 (h : Blk W g 61 zeroC) : Blk (st10 W g x) g 61 (cellsOf x).toArray := by simpa using ((((((((((h.set_ 0 (.int .i64 x.f0.f0)).set_ 1 (.int .i64 x.f0.f1)).set_ 2 (.int .u32 x.f1.f0)).set_ 3 (.int .u64 x.f1.f1)).set_ 4 (.int .u64 x.f1.f2)).set_ 5 (.int .i64 x.f1.f3.f0)).set_ 6 (.int .i64 x.f1.f3.f1)).set_ 7 (.int .i64 x.f1.f3.f2)).set_ 8 (.int .i64 x.f1.f3.f3)).set_ 9 (.int .i64 x.f1.f4))
theorem far10 (h : Blk W g' t cs) (hne : g' ≠ g) : Blk (st10 W g x) g' t cs := ((((((((((h.far (p := ⟨g, 0, none⟩) hne (.int .i64 x.f0.f0)).far (p := ⟨g, 1, none⟩) hne (.int .i64 x.f0.f1)).far (p := ⟨g, 2, none⟩) hne (.int .u32 x.f1.f0)).far (p := ⟨g, 3, none⟩) hne (.int .u64 x.f1.f1)).far (p := ⟨g, 4, none⟩) hne (.int .u64 x.f1.f2)).far (p := ⟨g, 5, none⟩) hne (.int .i64 x.f1.f3.f0)).far (p := ⟨g, 6, none⟩) hne (.int .i64 x.f1.f3.f1)).far (p := ⟨g, 7, none⟩) hne (.int .i64 x.f1.f3.f2)).far (p := ⟨g, 8, none⟩) hne (.int .i64 x.f1.f3.f3)).far (p := ⟨g, 9, none⟩) hne (.int .i64 x.f1.f4))
theorem keeps10 : KeepsOthers W (st10 W g x) := (((((((((((KeepsOthers.refl W).trans (KeepsOthers.setCell _ _ _)).trans (KeepsOthers.setCell _ _ _)).trans (KeepsOthers.setCell _ _ _)).trans (KeepsOthers.setCell _ _ _)).trans (KeepsOthers.setCell _ _ _)).trans (KeepsOthers.setCell _ _ _)).trans (KeepsOthers.setCell _ _ _)).trans (KeepsOthers.setCell _ _ _)).trans (KeepsOthers.setCell _ _ _)).trans (KeepsOthers.setCell _ _ _))
theorem below10 (h : Below n w W) (hg : n ≤ g) : Below n w (st10 W g x) := ((((((((((h.setCell (p := ⟨g, 0, none⟩) hg (.int .i64 x.f0.f0)).setCell (p := ⟨g, 1, none⟩) hg (.int .i64 x.f0.f1)).setCell (p := ⟨g, 2, none⟩) hg (.int .u32 x.f1.f0)).setCell (p := ⟨g, 3, none⟩) hg (.int .u64 x.f1.f1)).setCell (p := ⟨g, 4, none⟩) hg (.int .u64 x.f1.f2)).setCell (p := ⟨g, 5, none⟩) hg (.int .i64 x.f1.f3.f0)).setCell (p := ⟨g, 6, none⟩) hg (.int .i64 x.f1.f3.f1)).setCell (p := ⟨g, 7, none⟩) hg (.int .i64 x.f1.f3.f2)).setCell (p := ⟨g, 8, none⟩) hg (.int .i64 x.f1.f3.f3)).setCell (p := ⟨g, 9, none⟩) hg (.int .i64 x.f1.f4))
end
set_option maxRecDepth 100000 in
set_option maxHeartbeats 4000000 in
theorem one_any (a0_0 : Int) (A0_1 : Option Addr) (c0_1 : Nat) (l0_1 : List S44) (a1_0 : Int) (a1_1 : Bool) (a1_2 : Int) (A2 : Option Addr) (c2 : Nat) (l2 : List S61) (row : Int) (w : World) (hr0_1 : Kd.C k44 w A0_1 l0_1.length l0_1) (hc0_1 : l0_1.length ≤ c0_1) (hr2 : Kd.C k61 w A2 l2.length l2) (hc2 : l2.length ≤ c2)
    (he : vision_ready.f a0_0 l0_1 l2 = some 0) (hR : rightF a0_0 (prs l0_1) = true) :
    Calls Try.prog 23 #[.agg #[.int .u64 a0_0, .slice A0_1 l0_1.length c0_1], .agg #[.int .u64 a1_0, .bool a1_1, .int .u64 a1_2], .slice A2 l2.length c2, .int .u32 row] w fun e w' => e = .returned (match (l2.filter (seesB a1_0 a1_1 a1_2 a0_0 l0_1)).find? (fun x => x.f1.f0 == row) with | some x => .tuple #[stored x, .bool true, .int .i64 0] | none => .tuple #[.agg zeroC, .bool false, .int .i64 0]) ∧ Below w.heap.size w w' := by
  have hn := ready_len he
  have H1 := fun W (hb : Below w.heap.size w W) => Lib.hid (vision_ready_any a0_0 A0_1 c0_1 l0_1 A2 c2 l2 0 W (Kd.C_below hr0_1 hb) hc0_1 (Kd.C_below hr2 hb) hc2 he)
  clear he
  have hS0 := fun (Bl Bk : Nat) (W0 : World) (hw : Below w.heap.size w W0) (hBl : W0.cell? ⟨Bl, 0, none⟩ = some (.slice A2 l2.length c2)) (hBk : Blk W0 Bk 72 (lookC a1_0 a1_1 a1_2 a0_0 A0_1 l0_1 c0_1)) => iter_stops2 8 (by omega) a1_0 a1_1 a1_2 a0_0 A0_1 l0_1 c0_1 A2 l2 c2 Bl Bk w W0 hr2 hn hr0_1 hc0_1 hR hw hBl hBk
  generalize l2.filter (seesB a1_0 a1_1 a1_2 a0_0 l0_1) = R at hS0 ⊢
  generalize hres : (match R.find? (fun x => x.f1.f0 == row) with | some x => Value.tuple #[stored x, .bool true, .int .i64 0] | none => Value.tuple #[.agg zeroC, .bool false, .int .i64 0]) = res
  have HR := Lib.hid hres
  clear hres
  refine (callsIn_wide (n := 9)).1 ?_
  refine callsIn_of_wp_marks Try.func23 rfl trivial ?_ rfl
  simp only [Try.ntmps23, List.size_toArray, List.length_cons, List.length_nil, Nat.reduceAdd, Nat.reduceSub, Array.replicate_succ, Array.replicate_zero, List.push_toArray, List.append_toArray, List.nil_append, List.cons_append]
  have q0 := ((((((Blk.new w 25 #[.int .u64 a0_0, .slice A0_1 l0_1.length c0_1]).alloc (.cells #[.int .u64 a1_0, .bool a1_1, .int .u64 a1_2] 27)).alloc (.cells #[.int .u32 row] 28)).alloc (.cells zeroC 61)).alloc (.cells #[.bool false] 4)).alloc (.cells #[.int .i64 0] 34))
  have q1 := (((((Blk.new (w.alloc (.cells #[.int .u64 a0_0, .slice A0_1 l0_1.length c0_1] 25)) 27 #[.int .u64 a1_0, .bool a1_1, .int .u64 a1_2]).alloc (.cells #[.int .u32 row] 28)).alloc (.cells zeroC 61)).alloc (.cells #[.bool false] 4)).alloc (.cells #[.int .i64 0] 34))
  have q2 := ((((Blk.new ((w.alloc (.cells #[.int .u64 a0_0, .slice A0_1 l0_1.length c0_1] 25)).alloc (.cells #[.int .u64 a1_0, .bool a1_1, .int .u64 a1_2] 27)) 28 #[.int .u32 row]).alloc (.cells zeroC 61)).alloc (.cells #[.bool false] 4)).alloc (.cells #[.int .i64 0] 34))
  have q3 := (((Blk.new (((w.alloc (.cells #[.int .u64 a0_0, .slice A0_1 l0_1.length c0_1] 25)).alloc (.cells #[.int .u64 a1_0, .bool a1_1, .int .u64 a1_2] 27)).alloc (.cells #[.int .u32 row] 28)) 61 zeroC).alloc (.cells #[.bool false] 4)).alloc (.cells #[.int .i64 0] 34))
  have q4 := ((Blk.new ((((w.alloc (.cells #[.int .u64 a0_0, .slice A0_1 l0_1.length c0_1] 25)).alloc (.cells #[.int .u64 a1_0, .bool a1_1, .int .u64 a1_2] 27)).alloc (.cells #[.int .u32 row] 28)).alloc (.cells zeroC 61)) 4 #[.bool false]).alloc (.cells #[.int .i64 0] 34))
  have q5 := (Blk.new (((((w.alloc (.cells #[.int .u64 a0_0, .slice A0_1 l0_1.length c0_1] 25)).alloc (.cells #[.int .u64 a1_0, .bool a1_1, .int .u64 a1_2] 27)).alloc (.cells #[.int .u32 row] 28)).alloc (.cells zeroC 61)).alloc (.cells #[.bool false] 4)) 34 #[.int .i64 0])
  simp only [World.size_alloc] at q0 q1 q2 q3 q4 q5
  have hB1 : Below w.heap.size w ((((((w.alloc (.cells #[.int .u64 a0_0, .slice A0_1 l0_1.length c0_1] 25)).alloc (.cells #[.int .u64 a1_0, .bool a1_1, .int .u64 a1_2] 27)).alloc (.cells #[.int .u32 row] 28)).alloc (.cells zeroC 61)).alloc (.cells #[.bool false] 4)).alloc (.cells #[.int .i64 0] 34)) := keep_below_alloc _ (keep_below_alloc _ (keep_below_alloc _ (keep_below_alloc _ (keep_below_alloc _ (below_alloc (Below.refl _ _) _)))))
  gi_wp2_with fail
  refine ⟨trivial, (callsIn_wide.2 (H1 _ hB1).out).mono ?_⟩
  rintro e w3 ⟨rfl, hb3⟩
  replace q0 := q0.keep hb3
  replace q1 := q1.keep hb3
  replace q2 := q2.keep hb3
  replace q3 := q3.keep hb3
  replace q4 := q4.keep hb3
  replace q5 := q5.keep hb3
  replace hB1 := keep_below hB1 hb3
  clear hb3
  have f0 := q0.cell 0
  have f1 := q0.cell 1
  have g0 := q1.cell 0
  have g1 := q1.cell 1
  have g2 := q1.cell 2
  simp at f0 f1 g0 g1 g2
  gi_wp2_with fail
  refine ⟨trivial, (callsIn_wide.2 (seen_any a1_0 a1_1 a1_2 a0_0 A0_1 l0_1 c0_1 _ _ _ _)).mono ?_⟩
  rintro e w4 ⟨rfl, rfl⟩
  clear f0 f1 g0 g1 g2
  gi_wp2
  have bk0 := (Blk.new w3 72 (lookC a1_0 a1_1 a1_2 a0_0 A0_1 l0_1 c0_1)).alloc (.cells #[.slice A2 l2.length c2] 51)
  have bl0 := (Blk.new (w3.alloc (.cells (lookC a1_0 a1_1 a1_2 a0_0 A0_1 l0_1 c0_1) 72)) 51 #[.slice A2 l2.length c2]).cell 0
  have hB3 : Below w3.heap.size w3 ((w3.alloc (.cells (lookC a1_0 a1_1 a1_2 a0_0 A0_1 l0_1 c0_1) 72)).alloc (.cells #[.slice A2 l2.length c2] 51)) := keep_below_alloc _ (below_alloc (Below.refl _ _) _)
  have hsz : ((w3.alloc (.cells (lookC a1_0 a1_1 a1_2 a0_0 A0_1 l0_1 c0_1) 72)).alloc (.cells #[.slice A2 l2.length c2] 51)).heap.size = w3.heap.size + 2 := by simp
  simp only [World.size_alloc] at bk0 bl0
  obtain ⟨W0, hW0⟩ : ∃ W0, (w3.alloc (.cells (lookC a1_0 a1_1 a1_2 a0_0 A0_1 l0_1 c0_1) 72)).alloc (.cells #[.slice A2 l2.length c2] 51) = W0 := ⟨_, rfl⟩
  rw [hW0] at bk0 bl0 hB3 hsz ⊢
  clear hW0
  have hBW := keep_below hB1 hB3
  have lt5 := q5.lt
  replace q2 := q2.keep hB3
  replace q3 := q3.keep hB3
  replace q4 := q4.keep hB3
  replace q5 := q5.keep hB3
  have hS := hS0 (w3.heap.size + 1) w3.heap.size W0 hBW (by simpa using bl0) bk0
  clear hS0 q0 q1
  refine wpIn_rangeFunc_ownH rfl (by omega) (gf := 45) (lb := #[.pointer (some ⟨w3.heap.size + 1, 0, none⟩), .pointer (some ⟨w3.heap.size, 0, none⟩)]) rfl trivial (enters_of Try.func45 (by kernel_rfl) rfl)
    hS (fun h1 h2 => ⟨h1.1.trans h2.1, h2.2.trans h1.2⟩)
    (fun W q o o' hl ho hc hwk => ⟨belowK_b (w := W0) (by omega) W q o o' hl ho hc hwk, (belowK_b (n₀ := w3.heap.size + 1) (w := W0) (by omega) W q o o' hl ho hc hwk).block _ (by omega)⟩) (Below.refl _ _) (fun _ => rfl)
    (fun pre W => ((∀ y ∈ pre, y.f1.f0 ≠ row) ∧ Blk W (w.heap.size + 1 + 1) 28 #[.int .u32 row] ∧ Blk W (w.heap.size + 1 + 1 + 1) 61 zeroC ∧ Blk W (w.heap.size + 1 + 1 + 1 + 1) 4 #[.bool false] ∧ Blk W (w.heap.size + 1 + 1 + 1 + 1 + 1) 34 #[.int .i64 0] ∧ Blk W w3.heap.size 72 (lookC a1_0 a1_1 a1_2 a0_0 A0_1 l0_1 c0_1)) ∧ Below w.heap.size w W)
    (fun c pre W => ∃ pre' x, pre = pre' ++ [x] ∧ c = .ret ∧ x.f1.f0 = row ∧ (∀ y ∈ pre', y.f1.f0 ≠ row) ∧ (Blk W (w.heap.size + 1 + 1 + 1) 61 (cellsOf x).toArray ∧ Blk W (w.heap.size + 1 + 1 + 1 + 1) 4 #[.bool true] ∧ Blk W (w.heap.size + 1 + 1 + 1 + 1 + 1) 34 #[.int .i64 0]) ∧ Below w.heap.size w W)
    (fun s A B rr hs hg hr => ⟨⟨hs.1.1, blk_own _ _ _ () A B rr hs.1.2.1 hg (fun r e => (hr r e).2), blk_own _ _ _ () A B rr hs.1.2.2.1 hg (fun r e => (hr r e).2), blk_own _ _ _ () A B rr hs.1.2.2.2.1 hg (fun r e => (hr r e).2), blk_own _ _ _ () A B rr hs.1.2.2.2.2.1 hg (fun r e => (hr r e).2), blk_own _ _ _ () A B rr hs.1.2.2.2.2.2 hg (fun r e => (hr r e).2)⟩, ownFrom_below (Nat.le_refl _) (by omega) s A B rr hs.2 hg hr⟩)
    (fun c s A B rr hs hg hr => by
      obtain ⟨pre', x, h1, h2, h3, h4, ⟨h5, h6, h7⟩, h8⟩ := hs
      exact ⟨pre', x, h1, h2, h3, h4, ⟨blk_own _ _ _ () A B rr h5 hg (fun r e => (hr r e).2), blk_own _ _ _ () A B rr h6 hg (fun r e => (hr r e).2), blk_own _ _ _ () A B rr h7 hg (fun r e => (hr r e).2)⟩, ownFrom_below (Nat.le_refl _) (by omega) s A B rr h8 hg hr⟩)
    ⟨⟨fun y hy => (by cases hy), q2, q3, q4, q5, bk0⟩, hBW⟩
    (fun x a' W => ∃ Bx, w3.heap.size < Bx ∧ Blk W Bx 61 (cellsOf x).toArray ∧ a' = { tmps := #[.agg #[.int .u64 a0_0, .slice A0_1 l0_1.length c0_1], .agg #[.int .u64 a1_0, .bool a1_1, .int .u64 a1_2], .slice A2 l2.length c2, .int .u32 row, .pointer (some ⟨w.heap.size, 0, none⟩), .pointer (some ⟨w.heap.size + 1, 0, none⟩), undef, .pointer (some ⟨w.heap.size + 1 + 1, 0, none⟩), .pointer (some ⟨w.heap.size + 1 + 1 + 1, 0, none⟩), .pointer (some ⟨w.heap.size + 1 + 1 + 1 + 1, 0, none⟩), .pointer (some ⟨w.heap.size + 1 + 1 + 1 + 1 + 1, 0, none⟩), .int .i64 0, .pointer (some ⟨Bx, 0, none⟩), .agg #[.int .u64 a0_0, .slice A0_1 l0_1.length c0_1], .slice A2 l2.length c2, .int .i64 0, .int .i64 0, .bool false, undef, undef, .agg #[.int .u64 a1_0, .bool a1_1, .int .u64 a1_2], .agg #[.int .u64 a0_0, .slice A0_1 l0_1.length c0_1], .agg (lookC a1_0 a1_1 a1_2 a0_0 A0_1 l0_1 c0_1), .slice A2 l2.length c2, .func (.func 45) #[] #[.pointer (some ⟨w3.heap.size + 1, 0, none⟩), .pointer (some ⟨w3.heap.size, 0, none⟩)], stored x, undef, undef, undef, undef, undef, undef, undef], defers := [] })
    (fun x a' _ X Y rr hs hg hr => by
      obtain ⟨Bx, h1, h2, h3⟩ := hs
      exact ⟨Bx, h1, blk_own Bx 61 (cellsOf x).toArray () X Y rr h2 hg (fun r e => (hr r e).2), h3⟩)
    ?assign ?body ?done ?stop
  case assign =>
    rintro lp pre x W K ⟨⟨hne, r2, r3, r4, r5, bk⟩, hB⟩ hK
    gi_wp2
    have hsW := hB.size
    have hlt := bk.lt
    exact hK _ _ ((KeepsOthers.alloc _ _).from _) ⟨(Below.refl _ W).alloc (by omega) _, (bk.alloc _).trans bk.symm⟩ ⟨⟨hne, r2.alloc _, r3.alloc _, r4.alloc _, r5.alloc _, bk.alloc _⟩, hB.alloc hB.size _⟩ ⟨W.heap.size, hlt, Blk.new W 61 _, rfl⟩
  case body =>
    rintro lp pre x a' W hl ⟨r, hr⟩ ⟨⟨hne, r2, r3, r4, r5, bk⟩, hB⟩ ⟨Bx, hBx, bX, rfl⟩ hlt
    have d0 := r2.cell 0
    have e0 := bX.cell 0
    have e1 := bX.cell 1
    have e2 := bX.cell 2
    have e3 := bX.cell 3
    have e4 := bX.cell 4
    have e5 := bX.cell 5
    have e6 := bX.cell 6
    have e7 := bX.cell 7
    have e8 := bX.cell 8
    have e9 := bX.cell 9
    simp at d0 e0 e1 e2 e3 e4 e5 e6 e7 e8 e9
    by_cases hx : x.f1.f0 = row
    · subst hx
      have c3 := r3.cell 0
      have c4 := r4.cell 0
      have c5 := r5.cell 0
      have z0 := r3.frozen 0
      have z1 := r3.frozen 1
      have z2 := r3.frozen 2
      have z3 := r3.frozen 3
      have z4 := r3.frozen 4
      have z5 := r3.frozen 5
      have z6 := r3.frozen 6
      have z7 := r3.frozen 7
      have z8 := r3.frozen 8
      have z9 := r3.frozen 9
      have y3 := r4.frozen 0
      have y4 := r5.frozen 0
      have u0 := r3.cell 0
      have u1 := r3.cell 1
      have u2 := r3.cell 2
      have u3 := r3.cell 3
      have u4 := r3.cell 4
      have u5 := r3.cell 5
      have u6 := r3.cell 6
      have u7 := r3.cell 7
      have u8 := r3.cell 8
      have u9 := r3.cell 9
      simp at c3 c4 c5 u0 u1 u2 u3 u4 u5 u6 u7 u8 u9
      gi_wp2
      have s3 := ((set10 x r3).far (p := ⟨w.heap.size + 1 + 1 + 1 + 1, 0, none⟩) (by simp) (.bool true)).far (p := ⟨w.heap.size + 1 + 1 + 1 + 1 + 1, 0, none⟩) (by first | (simp; done) | (simp; omega)) (.int .i64 0)
      have s4 := ((far10 x r4 (g := w.heap.size + 1 + 1 + 1) (by omega)).set_ 0 (.bool true)).far (p := ⟨w.heap.size + 1 + 1 + 1 + 1 + 1, 0, none⟩) (by simp) (.int .i64 0)
      have s5 := ((far10 x r5 (g := w.heap.size + 1 + 1 + 1) (by omega)).far (p := ⟨w.heap.size + 1 + 1 + 1 + 1, 0, none⟩) (by simp) (.bool true)).set_ 0 (.int .i64 0)
      exact ⟨(((keeps10 x).trans (KeepsOthers.setCell _ _ _)).trans (KeepsOthers.setCell _ _ _)).from _, pre, x, rfl, rfl, rfl, hne, ⟨s3, by simpa using s4, by simpa using s5⟩, ((below10 x hB (by omega)).setCell (by first | (simp; done) | (simp; omega)) _).setCell (by first | (simp; done) | (simp; omega)) _⟩
    · have d1 : (x.f1.f0 == row) = false := beq_eq_false_iff_ne.mpr hx
      gi_wp2
      exact ⟨KeepsFrom.refl _ _, ⟨Below.refl _ _, rfl⟩, ⟨⟨fun y hy => by
        rcases List.mem_append.1 hy with h | h
        · exact hne y h
        · simp at h; subst h; exact hx, r2, r3, r4, r5, bk⟩, hB⟩⟩
  case done =>
    rintro D ys W hD rfl ⟨⟨hne, r2, r3, r4, r5, bk⟩, hB⟩ hK
    have hnone : ys.find? (fun x => x.f1.f0 == row) = none := List.find?_eq_none.mpr fun y hy => by simpa using hne y hy
    have HR2 := HR.out
    rw [hnone] at HR2
    have HR3 := Lib.hid HR2
    clear HR2 HR hnone
    have c4 := r4.cell 0
    have c5 := r5.cell 0
    have y3 := r4.frozen 0
    have y4 := r5.frozen 0
    have z0 := r3.frozen 0
    have u0 := r3.cell 0
    have z1 := r3.frozen 1
    have u1 := r3.cell 1
    have z2 := r3.frozen 2
    have u2 := r3.cell 2
    have z3 := r3.frozen 3
    have u3 := r3.cell 3
    have z4 := r3.frozen 4
    have u4 := r3.cell 4
    have z5 := r3.frozen 5
    have u5 := r3.cell 5
    have z6 := r3.frozen 6
    have u6 := r3.cell 6
    have z7 := r3.frozen 7
    have u7 := r3.cell 7
    have z8 := r3.frozen 8
    have u8 := r3.cell 8
    have z9 := r3.frozen 9
    have u9 := r3.cell 9
    simp at c4 c5 u0 u1 u2 u3 u4 u5 u6 u7 u8 u9
    gi_wp2
    have hsz2 := bk.lt
    obtain ⟨x, hx⟩ : ∃ x : S61, x = ⟨⟨0, 0⟩, ⟨0, 0, 0, ⟨0, 0, 0, 0⟩, 0⟩⟩ := ⟨_, rfl⟩
    have s3 := ((set10 ⟨⟨0, 0⟩, ⟨0, 0, 0, ⟨0, 0, 0, 0⟩, 0⟩⟩ r3).far (p := ⟨w.heap.size + 1 + 1 + 1 + 1, 0, none⟩) (by simp) (.bool false)).far (p := ⟨w.heap.size + 1 + 1 + 1 + 1 + 1, 0, none⟩) (by first | (simp; done) | (simp; omega)) (.int .i64 0)
    have s4 := ((far10 ⟨⟨0, 0⟩, ⟨0, 0, 0, ⟨0, 0, 0, 0⟩, 0⟩⟩ r4 (g := w.heap.size + 1 + 1 + 1) (by omega)).set_ 0 (.bool false)).far (p := ⟨w.heap.size + 1 + 1 + 1 + 1 + 1, 0, none⟩) (by simp) (.int .i64 0)
    have s5 := ((far10 ⟨⟨0, 0⟩, ⟨0, 0, 0, ⟨0, 0, 0, 0⟩, 0⟩⟩ r5 (g := w.heap.size + 1 + 1 + 1) (by omega)).far (p := ⟨w.heap.size + 1 + 1 + 1 + 1, 0, none⟩) (by simp) (.bool false)).set_ 0 (.int .i64 0)
    have hKp := (((keeps10 (W := W) (g := w.heap.size + 1 + 1 + 1) ⟨⟨0, 0⟩, ⟨0, 0, 0, ⟨0, 0, 0, 0⟩, 0⟩⟩).trans (KeepsOthers.setCell _ ⟨w.heap.size + 1 + 1 + 1 + 1, 0, none⟩ (.bool false))).trans (KeepsOthers.setCell _ ⟨w.heap.size + 1 + 1 + 1 + 1 + 1, 0, none⟩ (.int .i64 0))).same D _ hK rfl
    have hBF := ((below10 ⟨⟨0, 0⟩, ⟨0, 0, 0, ⟨0, 0, 0, 0⟩, 0⟩⟩ hB (g := w.heap.size + 1 + 1 + 1) (by omega)).setCell (p := ⟨w.heap.size + 1 + 1 + 1 + 1, 0, none⟩) (by first | (simp; done) | (simp; omega)) (.bool false)).setCell (p := ⟨w.heap.size + 1 + 1 + 1 + 1 + 1, 0, none⟩) (by first | (simp; done) | (simp; omega)) (.int .i64 0)
    refine ⟨by simp, .inl ⟨_, _, rfl, run_takeDeferred hKp, ?_⟩⟩
    have hkb := belowK_b (n₀ := W0.heap.size) (w := W0) (Nat.le_refl _) _ D (.deferred (some [])) (.deferred none) hD hKp rfl rfl
    have s3' := (hkb.block (w.heap.size + 1 + 1 + 1) (by omega)).trans s3
    have s4' := (hkb.block (w.heap.size + 1 + 1 + 1 + 1) (by omega)).trans s4
    have s5' := (hkb.block (w.heap.size + 1 + 1 + 1 + 1 + 1) (by omega)).trans s5
    have hBD := hBF.trans (hkb.mono (by omega))
    have c0 := Blk.cell s3' 0
    have c1 := Blk.cell s3' 1
    have c2' := Blk.cell s3' 2
    have c3 := Blk.cell s3' 3
    have d4 := Blk.cell s3' 4
    have d5 := Blk.cell s3' 5
    have c6 := Blk.cell s3' 6
    have c7 := Blk.cell s3' 7
    have c8 := Blk.cell s3' 8
    have c9 := Blk.cell s3' 9
    have c10 := Blk.cell s4' 0
    have c11 := Blk.cell s5' 0
    simp at c0 c1 c2' c3 d4 d5 c6 c7 c8 c9 c10 c11
    have HR4 := HR3.out
    subst HR4
    refine ⟨.tuple #[.agg zeroC, .bool false, .int .i64 0], ?_, rfl, hBD⟩
    simp [results, Try.results23, go_sem, *]
  case stop =>
    rintro D c pre W hD hpre ⟨pre', x, rfl, rfl, hx, hne, ⟨s3, s4, s5⟩, hB⟩ hK
    gi_wp2
    refine ⟨by simp, .inl ⟨_, _, rfl, run_takeDeferred hK, ?_⟩⟩
    obtain ⟨rest, rfl⟩ := hpre
    have hsome : (pre' ++ [x] ++ rest).find? (fun x => x.f1.f0 == row) = some x := by
      have h1 : pre'.find? (fun x => x.f1.f0 == row) = none := List.find?_eq_none.mpr fun y hy => by simpa using hne y hy
      simp [List.find?_append, h1, hx]
    have hkb := belowK_b (n₀ := W0.heap.size) (w := W0) (Nat.le_refl _) W D (.deferred (some [])) (.deferred none) hD hK rfl rfl
    have s3' : Blk (W.putObj D (.deferred none)) _ _ _ := (hkb.block (w.heap.size + 1 + 1 + 1) (by omega)).trans s3
    have s4' : Blk (W.putObj D (.deferred none)) _ _ _ := (hkb.block (w.heap.size + 1 + 1 + 1 + 1) (by omega)).trans s4
    have s5' : Blk (W.putObj D (.deferred none)) _ _ _ := (hkb.block (w.heap.size + 1 + 1 + 1 + 1 + 1) (by omega)).trans s5
    have hBD := hB.trans (hkb.mono (by omega))
    have HR2 := HR.out
    rw [hsome] at HR2
    subst HR2
    have c0 := s3'.cell 0
    have c1 := s3'.cell 1
    have c2' := s3'.cell 2
    have c3 := s3'.cell 3
    have c4 := s3'.cell 4
    have c5 := s3'.cell 5
    have c6 := s3'.cell 6
    have c7 := s3'.cell 7
    have c8 := s3'.cell 8
    have c9 := s3'.cell 9
    have c10 := s4'.cell 0
    have c11 := s5'.cell 0
    simp at c0 c1 c2' c3 c4 c5 c6 c7 c8 c9 c10 c11
    refine ⟨.tuple #[stored x, .bool true, .int .i64 0], ?_, rfl, hBD⟩
    simp [results, Try.results23, go_sem, *]
end Go.Proofs.Ytfggjefncnhikaa.V
namespace Go.Proofs.Ytfggjefncnhikaa.V
open Go.RowKit Go.Proofs.YtfggjefncnhikaaW.PrintWords Go.Proofs.YtfggjefncnhikaaW.PrintLast Go.Proofs.YtfggjefncnhikaaW.PrintMore
def vision_In.f (a0_0 : Int) (l0_1 : List S44) (a1_0 : Int) (a1_1 : Bool) (a1_2 : Int) (l2 : List S61) (a3_0 a3_1 a3_2 a3_3 : Int) : Option (List S61 × Int) :=
  (vision_Check.f a0_0 l0_1).bind fun e => (key_Check.f 1 a3_0 a3_1 a3_2 a3_3).bind fun k => if e = 0 ∧ ¬ k = 0 then some ([], 2) else (vision_ready.f a0_0 l0_1 l2).bind fun r => if ¬ r = 0 then some ([], r) else
    if e = 0 ∧ rightF a0_0 (prs l0_1) = true then some ((l2.filter (seesB a1_0 a1_1 a1_2 a0_0 l0_1)).filter (mB a3_0 a3_1 a3_2 a3_3), 0) else none
set_option maxHeartbeats 4000000 in
theorem vision_In_any (a0_0 : Int) (A0_1 : Option Addr) (c0_1 : Nat) (l0_1 : List S44) (a1_0 : Int) (a1_1 : Bool) (a1_2 : Int) (A2 : Option Addr) (c2 : Nat) (l2 : List S61) (a3_0 a3_1 a3_2 a3_3 : Int) (r1 : List S61) (r2 : Int) (w : World) (hr0_1 : Kd.C k44 w A0_1 l0_1.length l0_1) (hc0_1 : l0_1.length ≤ c0_1) (hr2 : Kd.C k61 w A2 l2.length l2) (hc2 : l2.length ≤ c2) (h : vision_In.f a0_0 l0_1 a1_0 a1_1 a1_2 l2 a3_0 a3_1 a3_2 a3_3 = some (r1, r2)) :
    Calls Try.prog 22 #[.agg #[.int .u64 a0_0, .slice A0_1 l0_1.length c0_1], .agg #[.int .u64 a1_0, .bool a1_1, .int .u64 a1_2], .slice A2 l2.length c2, .agg #[.int .i64 a3_0, .int .i64 a3_1, .int .i64 a3_2, .int .i64 a3_3]] w fun e w' => ∃ v0_ : Value, e = .returned (.tuple #[v0_, .int .i64 r2]) ∧ Kd.R k61 61 w' w.heap.size (fun _ => True) v0_ r1 ∧ Below w.heap.size w w' := by
  unfold vision_In.f at h
  obtain ⟨e, he, h⟩ := Option.bind_eq_some_iff.1 h
  obtain ⟨k, hk, h⟩ := Option.bind_eq_some_iff.1 h
  have H0 := fun W (hb : Below w.heap.size w W) => Lib.hid (vision_Check.calls a0_0 A0_1 c0_1 l0_1 e W (Kd.C_below hr0_1 hb) hc0_1 he)
  have H2 := fun W => Lib.hid (key_Check.calls 1 a3_0 a3_1 a3_2 a3_3 k W hk)
  have hb0 : ∀ o1 o2 o3 : Obj, Below w.heap.size w (((w.alloc o1).alloc o2).alloc o3) := fun o1 o2 o3 => keep_below_alloc _ (keep_below_alloc _ (below_alloc (Below.refl _ _) _))
  have qw := Blk.new ((w.alloc (.cells #[.int .u64 a0_0, .slice A0_1 l0_1.length c0_1] 25)).alloc (.cells #[.int .u64 a1_0, .bool a1_1, .int .u64 a1_2] 27)) 30 #[.int .i64 a3_0, .int .i64 a3_1, .int .i64 a3_2, .int .i64 a3_3]
  have qf := ((Blk.new w 25 #[.int .u64 a0_0, .slice A0_1 l0_1.length c0_1]).alloc (.cells #[.int .u64 a1_0, .bool a1_1, .int .u64 a1_2] 27)).alloc (.cells #[.int .i64 a3_0, .int .i64 a3_1, .int .i64 a3_2, .int .i64 a3_3] 30)
  simp only [World.size_alloc] at qf qw
  by_cases c1 : e = 0 ∧ ¬ k = 0
  · rw [if_pos c1] at h
    injection h with h
    injection h with h1 h2
    subst h1 h2
    obtain ⟨rfl, hk0⟩ := c1
    have f1 : (k != 0) = true := bne_iff_ne.mpr hk0
    have f2 : (k == 0) = false := beq_eq_false_iff_ne.mpr hk0
    go_enter Try.func22, Try.ntmps22
    go_wp2_with (first
      | (go_at_call 10; (with_reducible refine (H0 _ (hb0 _ _ _)).out.mono ?_); rintro e w1 ⟨rfl, hb1⟩; have qw1 := qw.keep hb1; have d0 := qw1.cell 0; have d1 := qw1.cell 1; have d2 := qw1.cell 2; have d3 := qw1.cell 3; simp at d0 d1 d2 d3)
      | (go_at_call 36; (with_reducible refine (H2 _).out.mono ?_); rintro e w2 ⟨rfl, hb2⟩))
    refine bodyPost_ret (v := .tuple #[.slice none 0 0, .int .i64 2]) (by simp [results, Try.results22, go_sem, *]) rfl ⟨_, rfl, Kd.R_nil _ _ _ _ _, keep_below (keep_below (hb0 _ _ _) hb1) hb2⟩
  rw [if_neg c1] at h
  obtain ⟨r, hr, h⟩ := Option.bind_eq_some_iff.1 h
  have H1 := fun W (hb : Below w.heap.size w W) => Lib.hid (vision_ready_any a0_0 A0_1 c0_1 l0_1 A2 c2 l2 r W (Kd.C_below hr0_1 hb) hc0_1 (Kd.C_below hr2 hb) hc2 hr)
  by_cases c2' : r = 0
  · subst c2'
    rw [if_neg (by simp)] at h
    by_cases c3 : e = 0 ∧ rightF a0_0 (prs l0_1) = true
    case neg => rw [if_neg c3] at h; cases h
    rw [if_pos c3] at h
    injection h with h
    injection h with h1 h2
    subst h1 h2
    obtain ⟨rfl, hR⟩ := c3
    have hk0 : k = 0 := by
      by_cases hk0 : k = 0
      · exact hk0
      · exact absurd ⟨rfl, hk0⟩ c1
    subst hk0
    exact in_any a0_0 A0_1 c0_1 l0_1 a1_0 a1_1 a1_2 A2 c2 l2 a3_0 a3_1 a3_2 a3_3 w hr0_1 hc0_1 hr2 hc2 hk he hr hR
  rw [if_pos c2'] at h
  injection h with h
  injection h with h1 h2
  subst h1 h2
  have g1 : (r != 0) = true := bne_iff_ne.mpr c2'
  have g2 : (r == 0) = false := beq_eq_false_iff_ne.mpr c2'
  clear hr he hk
  by_cases h0 : e = 0
  · subst h0
    have hk0 : k = 0 := by
      by_cases hk0 : k = 0
      · exact hk0
      · exact absurd ⟨rfl, hk0⟩ c1
    subst hk0
    go_enter Try.func22, Try.ntmps22
    go_wp2_with (first
      | (go_at_call 10; (with_reducible refine (H0 _ (hb0 _ _ _)).out.mono ?_); rintro e w1 ⟨rfl, hb1⟩; have qw1 := qw.keep hb1; have d0 := qw1.cell 0; have d1 := qw1.cell 1; have d2 := qw1.cell 2; have d3 := qw1.cell 3; simp at d0 d1 d2 d3)
      | (go_at_call 36; (with_reducible refine (H2 _).out.mono ?_); rintro e w2 ⟨rfl, hb2⟩; have qf1 := (qf.keep hb1).keep hb2; have u0 := qf1.cell 0; have u1 := qf1.cell 1; simp at u0 u1)
      | (go_at_call 33; (with_reducible refine (H1 _ (keep_below (keep_below (hb0 _ _ _) hb1) hb2)).out.mono ?_); rintro e w3 ⟨rfl, hb3⟩))
    refine bodyPost_ret (v := .tuple #[.slice none 0 0, .int .i64 r]) (by simp [results, Try.results22, go_sem, *]) rfl ⟨_, rfl, Kd.R_nil _ _ _ _ _, keep_below (keep_below (keep_below (hb0 _ _ _) hb1) hb2) hb3⟩
  · have f1 : (e != 0) = true := bne_iff_ne.mpr h0
    have f2 : (e == 0) = false := beq_eq_false_iff_ne.mpr h0
    go_enter Try.func22, Try.ntmps22
    go_wp2_with (first
      | (go_at_call 10; (with_reducible refine (H0 _ (hb0 _ _ _)).out.mono ?_); rintro e w1 ⟨rfl, hb1⟩; have qf1 := qf.keep hb1; have u0 := qf1.cell 0; have u1 := qf1.cell 1; simp at u0 u1)
      | (go_at_call 33; (with_reducible refine (H1 _ (keep_below (hb0 _ _ _) hb1)).out.mono ?_); rintro e w3 ⟨rfl, hb3⟩))
    refine bodyPost_ret (v := .tuple #[.slice none 0 0, .int .i64 r]) (by simp [results, Try.results22, go_sem, *]) rfl ⟨_, rfl, Kd.R_nil _ _ _ _ _, keep_below (keep_below (hb0 _ _ _) hb1) hb3⟩
def oneV (r : Int) (o : Option S61) : Value := if r = 0 then (match o with | some x => .tuple #[stored x, .bool true, .int .i64 0] | none => .tuple #[.agg zeroC, .bool false, .int .i64 0]) else .tuple #[.agg zeroC, .bool false, .int .i64 r]
set_option maxHeartbeats 4000000 in
theorem vision_One_any (a0_0 : Int) (A0_1 : Option Addr) (c0_1 : Nat) (l0_1 : List S44) (a1_0 : Int) (a1_1 : Bool) (a1_2 : Int) (A2 : Option Addr) (c2 : Nat) (l2 : List S61) (row r : Int) (w : World) (hr0_1 : Kd.C k44 w A0_1 l0_1.length l0_1) (hc0_1 : l0_1.length ≤ c0_1) (hr2 : Kd.C k61 w A2 l2.length l2) (hc2 : l2.length ≤ c2) (hr : vision_ready.f a0_0 l0_1 l2 = some r) (hR : r = 0 → rightF a0_0 (prs l0_1) = true) :
    Calls Try.prog 23 #[.agg #[.int .u64 a0_0, .slice A0_1 l0_1.length c0_1], .agg #[.int .u64 a1_0, .bool a1_1, .int .u64 a1_2], .slice A2 l2.length c2, .int .u32 row] w fun e w' => e = .returned (oneV r ((l2.filter (seesB a1_0 a1_1 a1_2 a0_0 l0_1)).find? (fun x => x.f1.f0 == row))) ∧ Below w.heap.size w w' := by
  by_cases h0 : r = 0
  · subst h0
    exact one_any a0_0 A0_1 c0_1 l0_1 a1_0 a1_1 a1_2 A2 c2 l2 row w hr0_1 hc0_1 hr2 hc2 hr (hR rfl)
  · have H1 := fun W (hb : Below w.heap.size w W) => Lib.hid (vision_ready_any a0_0 A0_1 c0_1 l0_1 A2 c2 l2 r W (Kd.C_below hr0_1 hb) hc0_1 (Kd.C_below hr2 hb) hc2 hr)
    have g1 : (r != 0) = true := bne_iff_ne.mpr h0
    have g2 : (r == 0) = false := beq_eq_false_iff_ne.mpr h0
    have e1 : ∀ o, oneV r o = .tuple #[.agg zeroC, .bool false, .int .i64 r] := fun o => if_neg h0
    rw [e1]
    clear hr hR e1
    have q3 := (((Blk.new (((w.alloc (.cells #[.int .u64 a0_0, .slice A0_1 l0_1.length c0_1] 25)).alloc (.cells #[.int .u64 a1_0, .bool a1_1, .int .u64 a1_2] 27)).alloc (.cells #[.int .u32 row] 28)) 61 zeroC).alloc (.cells #[.bool false] 4)).alloc (.cells #[.int .i64 0] 34))
    have q4 := ((Blk.new ((((w.alloc (.cells #[.int .u64 a0_0, .slice A0_1 l0_1.length c0_1] 25)).alloc (.cells #[.int .u64 a1_0, .bool a1_1, .int .u64 a1_2] 27)).alloc (.cells #[.int .u32 row] 28)).alloc (.cells zeroC 61)) 4 #[.bool false]).alloc (.cells #[.int .i64 0] 34))
    have q5 := (Blk.new (((((w.alloc (.cells #[.int .u64 a0_0, .slice A0_1 l0_1.length c0_1] 25)).alloc (.cells #[.int .u64 a1_0, .bool a1_1, .int .u64 a1_2] 27)).alloc (.cells #[.int .u32 row] 28)).alloc (.cells zeroC 61)).alloc (.cells #[.bool false] 4)) 34 #[.int .i64 0])
    simp only [World.size_alloc] at q3 q4 q5
    have hB1 : Below w.heap.size w ((((((w.alloc (.cells #[.int .u64 a0_0, .slice A0_1 l0_1.length c0_1] 25)).alloc (.cells #[.int .u64 a1_0, .bool a1_1, .int .u64 a1_2] 27)).alloc (.cells #[.int .u32 row] 28)).alloc (.cells zeroC 61)).alloc (.cells #[.bool false] 4)).alloc (.cells #[.int .i64 0] 34)) := keep_below_alloc _ (keep_below_alloc _ (keep_below_alloc _ (keep_below_alloc _ (keep_below_alloc _ (below_alloc (Below.refl _ _) _)))))
    go_enter Try.func23, Try.ntmps23
    go_wp2_with (go_at_call 33; (with_reducible refine (H1 _ hB1).out.mono ?_); rintro e w3 ⟨rfl, hb3⟩; have q3' := q3.keep hb3; have q4' := q4.keep hb3; have q5' := q5.keep hb3; have u0 := q3'.cell 0; have u1 := q3'.cell 1; have u2 := q3'.cell 2; have u3 := q3'.cell 3; have u4 := q3'.cell 4; have u5 := q3'.cell 5; have u6 := q3'.cell 6; have u7 := q3'.cell 7; have u8 := q3'.cell 8; have u9 := q3'.cell 9; have z0 := q3'.frozen 0; have z1 := q3'.frozen 1; have z2 := q3'.frozen 2; have z3 := q3'.frozen 3; have z4 := q3'.frozen 4; have z5 := q3'.frozen 5; have z6 := q3'.frozen 6; have z7 := q3'.frozen 7; have z8 := q3'.frozen 8; have z9 := q3'.frozen 9; have u10 := q4'.cell 0; have z10 := q4'.frozen 0; have u11 := q5'.cell 0; have z11 := q5'.frozen 0; simp at u0 u1 u2 u3 u4 u5 u6 u7 u8 u9 u10 u11)
    clear u0 u1 u2 u3 u4 u5 u6 u7 u8 u9 z0 z1 z2 z3 z4 z5 z6 z7 z8 z9 u10 z10 u11 z11
    have hB3 := keep_below hB1 hb3
    have s3 := ((set10 ⟨⟨0, 0⟩, ⟨0, 0, 0, ⟨0, 0, 0, 0⟩, 0⟩⟩ q3').far (p := ⟨w.heap.size + 1 + 1 + 1 + 1, 0, none⟩) (by simp) (.bool false)).far (p := ⟨w.heap.size + 1 + 1 + 1 + 1 + 1, 0, none⟩) (by first | (simp; done) | (simp; omega)) (.int .i64 r)
    have s4 := ((far10 ⟨⟨0, 0⟩, ⟨0, 0, 0, ⟨0, 0, 0, 0⟩, 0⟩⟩ q4' (g := w.heap.size + 1 + 1 + 1) (by omega)).set_ 0 (.bool false)).far (p := ⟨w.heap.size + 1 + 1 + 1 + 1 + 1, 0, none⟩) (by simp) (.int .i64 r)
    have s5 := ((far10 ⟨⟨0, 0⟩, ⟨0, 0, 0, ⟨0, 0, 0, 0⟩, 0⟩⟩ q5' (g := w.heap.size + 1 + 1 + 1) (by omega)).far (p := ⟨w.heap.size + 1 + 1 + 1 + 1, 0, none⟩) (by simp) (.bool false)).set_ 0 (.int .i64 r)
    have hBF := ((below10 ⟨⟨0, 0⟩, ⟨0, 0, 0, ⟨0, 0, 0, 0⟩, 0⟩⟩ hB3 (g := w.heap.size + 1 + 1 + 1) (by omega)).setCell (p := ⟨w.heap.size + 1 + 1 + 1 + 1, 0, none⟩) (by first | (simp; done) | (simp; omega)) (.bool false)).setCell (p := ⟨w.heap.size + 1 + 1 + 1 + 1 + 1, 0, none⟩) (by first | (simp; done) | (simp; omega)) (.int .i64 r)
    have k0 := Blk.cell s3 0
    have k1 := Blk.cell s3 1
    have k2 := Blk.cell s3 2
    have k3 := Blk.cell s3 3
    have k4 := Blk.cell s3 4
    have k5 := Blk.cell s3 5
    have k6 := Blk.cell s3 6
    have k7 := Blk.cell s3 7
    have k8 := Blk.cell s3 8
    have k9 := Blk.cell s3 9
    have k10 := Blk.cell s4 0
    have k11 := Blk.cell s5 0
    simp only [st10] at k0 k1 k2 k3 k4 k5 k6 k7 k8 k9 k10 k11
    simp only [List.getElem?_toArray, Array.getElem?_setIfInBounds, List.size_toArray, List.length_cons, List.length_nil] at k0 k1 k2 k3 k4 k5 k6 k7 k8 k9 k10 k11
    simp at k0 k1 k2 k3 k4 k5 k6 k7 k8 k9 k10 k11
    refine bodyPost_ret (v := .tuple #[.agg zeroC, .bool false, .int .i64 r]) (by simp [results, Try.results23, go_sem, *]) rfl ⟨rfl, hBF⟩
end Go.Proofs.Ytfggjefncnhikaa.V
namespace Go.Proofs.Ytfggjefncnhikaa.V
open Go.RowKit Go.Proofs.YtfggjefncnhikaaW.PrintWords Go.Proofs.YtfggjefncnhikaaW.PrintLast Go.Proofs.YtfggjefncnhikaaW.PrintMore
section
variable {P : Program} {ops : Array Oper} {Q : Exit → Act → World → Prop}
theorem goesC {oi : Oper} {N : Option Tmp} {a : Act} {w : World} {K : Act → World → Prop} {f : FuncId} {fn : Func} {x : Operand} {cap : Array Value} {ax : Array Operand} {ts : Array TypeId} (hf : P.funcs[f]? = some fn) (hname : (fn.name == "runtime.NumGoroutine") = false) (hb : fn.body.isSome = true) (args : Array Value)
    (hw : Region.wanted oi (yielded ops a.tmps) = true) (hN : oi.dst = N) (hop : oi.op = .call { callee := .value x, args := ax, argTypes := ts }) (hx : a.eval x = .func (.func f) #[] cap) (hargs : ax.map a.eval ++ cap = args)
    (h : Calls P f args w fun e w' => ∃ v, e = .returned v ∧ K (a.put N v) w') : if Region.wanted oi (yielded ops a.tmps) = true then Oper.wp P oi a w K Q else K (a.put N undef) w := by
  have he := run_enters hf hname hb args w
  have hrun : (execOp a.eval oi).run P w = .ok (.enter f args) w := by
    unfold execOp
    simp [hop, resolve, Deferred.ofValue, invoke, hx, hargs, he]
  rw [if_pos hw]
  subst hN
  unfold Oper.wp
  rw [hrun, Oper.upon_enter]
  refine h.mono fun e w'' hh => ?_
  obtain ⟨v, rfl, hk⟩ := hh
  exact hk
theorem goesC0 {oi : Oper} {N : Option Tmp} {a : Act} {w : World} {K : Act → World → Prop} {f : FuncId} {fn : Func} {x : Operand} {ts : Array TypeId} (hf : P.funcs[f]? = some fn) (hname : (fn.name == "runtime.NumGoroutine") = false) (hb : fn.body.isSome = true) (cap : Array Value)
    (hw : Region.wanted oi (yielded ops a.tmps) = true) (hN : oi.dst = N) (hop : oi.op = .call { callee := .value x, args := #[], argTypes := ts }) (hx : a.eval x = .func (.func f) #[] cap)
    (h : Calls P f cap w fun e w' => ∃ v, e = .returned v ∧ K (a.put N v) w') : if Region.wanted oi (yielded ops a.tmps) = true then Oper.wp P oi a w K Q else K (a.put N undef) w :=
  goesC hf hname hb cap hw hN hop hx (by simp) h
end
set_option maxHeartbeats 2000000 in
theorem own_any (A : Option Addr) (c : Nat) (l : List S61) (b : Nat) (w : World) (hC : Kd.C k61 w A l.length l) (hn : l.length ≤ 1000) (hb : w.cell? ⟨b, 0, none⟩ = some (.slice A l.length c)) :
    Calls Try.prog 20 #[.pointer (some ⟨b, 0, none⟩)] w fun e w' => ∃ v : Value, e = .returned v ∧ Kd.R k61 61 w' w.heap.size (fun _ => True) v l ∧ Below w.heap.size w w' := by
  have HC := Lib.hid hC
  clear hC
  have hlt := lt_cell hb
  go_enter Try.func20, Try.ntmps20
  go_wp2_with (first
    | ((with_reducible refine gate_dst (N := 2) rfl ?_); refine Kd.R_lit k61 _ 61 ?hg (N := 2) ?hd (xs := ([] : List (S61))) (inner := []) (ok := fun _ => True) (okp := fun _ => True) ?hr ?hp (fun _ hk => hk) trivial (Below.refl _ _) (Nat.le_refl _) (by simp) ?_; (case hd => rfl); (case hg => rfl); (case hr => first | (go_simp; done) | (go_simp; rfl)); (case hp => exact (Reps.none _ _)); intro v128 w5 ho6 hb5 hg_ hnew_; have hb1 := keep_cell hb5 hb; have HO := Lib.hid ho6; have HB := Lib.hid hb5; clear ho6 hb5)
    | ((with_reducible refine gate_builtin (b := .append) (xs := #[.tmp 2, .tmp 3]) rfl ?_); at_builtin; refine Kd.R_append_rows k61 (w0 := w) w.heap.size rfl (.tmp 2) (.tmp 3) 51 61 (.agg zeroC) 80 rfl Try.underlying51 info61 rfl (by decide) (by omega) v128 [] l _ _ _ (fun _ => True) (fun _ => False) rfl rfl ?aO ?aR (fun _ _ h => h) (fun _ h => h.elim) ?aF ?aB ?aS ?aL ?_; (case aR => exact Kd.C_below HC.out HB.out); (case aB => exact HB.out); (case aF => exact (fun _ _ => trivial)); (case aO => exact HO.out); (case aS => exact HB.out.size); (case aL => simp; omega); intro v131 w9 ho hb9 hg hat))
  refine bodyPost_ret (v := v131) (by simp [results, Try.results20, go_sem, *]) rfl ⟨_, rfl, ho, hb9⟩
end Go.Proofs.Ytfggjefncnhikaa.V
