/- What the row of this claim reaches. No condition. -/
import Derived.Test.YtiamkgoajkfofaaDoorXSRefuse
import Derived.Test.YtiamkgoajkfofaaDoorXSPlain
set_option linter.unusedVariables false
set_option linter.unusedSimpArgs false
section
namespace Go.Proofs.YtiamkgoajkfofaaDoor.S
open Go.RowKit Go.Proofs.YtiamkgoajkfofaaDoorW.PrintWords Go.Proofs.YtiamkgoajkfofaaDoorW.PrintLast Go.Proofs.YtiamkgoajkfofaaDoorW.PrintMore
attribute [local go_sem] max2_int min2_int max_two min_two max_three min_three max_four min_four   -- for this text's walks alone
def session_refuse.f (k : Nat) (a0_0 : Int) (a0_1 : Int) (a0_2 : Bool) (a0_3 : Int) (a0_4 : Int) (a0_5 : Bool) (a0_6 : Int) (a0_7 : Int) (a0_8 : Int) (a0_9 : Int) (a0_10 : Int) (a0_11 : Int) (a0_12 : Int) (a0_13 : Int) (a0_14 : Int) (a0_15 : Int) (a0_16 : Int) (l0_17 : List (S63)) (l0_18 : List Int) (l0_19 : List Int) (a1 : Int) (a2_0 : Int) (a2_1 : Bool) (a2_2 : Int) (a2_3 : Int) (a2_4 : Int) (a2_5 : Int) (a2_6 : Int) (a2_7 : Int) : Option Int := some (refuseG a0_0 a0_2 a1 a2_0 a2_2 a2_3 a2_4 a2_5 a2_6)
theorem session_refuse.calls (k : Nat) (a0_0 : Int) (a0_1 : Int) (a0_2 : Bool) (a0_3 : Int) (a0_4 : Int) (a0_5 : Bool) (a0_6 : Int) (a0_7 : Int) (a0_8 : Int) (a0_9 : Int) (a0_10 : Int) (a0_11 : Int) (a0_12 : Int) (a0_13 : Int) (a0_14 : Int) (a0_15 : Int) (a0_16 : Int) (A0_17 : Option Addr) (c0_17 : Nat) (l0_17 : List (S63)) (A0_18 : Option Addr) (c0_18 : Nat) (l0_18 : List Int) (A0_19 : Option Addr) (c0_19 : Nat) (l0_19 : List Int) (a1 : Int) (a2_0 : Int) (a2_1 : Bool) (a2_2 : Int) (a2_3 : Int) (a2_4 : Int) (a2_5 : Int) (a2_6 : Int) (a2_7 : Int) (r : Int) (w : World) (hr0_17 : Kd.C k63 w A0_17 l0_17.length l0_17) (hc0_17 : l0_17.length ≤ c0_17) (hr0_18 : Kd.C (Kd.int .u32) w A0_18 l0_18.length l0_18) (hc0_18 : l0_18.length ≤ c0_18) (hr0_19 : Kd.C (Kd.int .u32) w A0_19 l0_19.length l0_19) (hc0_19 : l0_19.length ≤ c0_19) (h : session_refuse.f k a0_0 a0_1 a0_2 a0_3 a0_4 a0_5 a0_6 a0_7 a0_8 a0_9 a0_10 a0_11 a0_12 a0_13 a0_14 a0_15 a0_16 l0_17 l0_18 l0_19 a1 a2_0 a2_1 a2_2 a2_3 a2_4 a2_5 a2_6 a2_7 = some r) :
    Calls Tryd.prog 30 #[.agg #[.int .i64 a0_0, .int .u64 a0_1, .bool a0_2, .int .u64 a0_3, .int .i64 a0_4, .bool a0_5, .int .u32 a0_6, .int .i64 a0_7, .int .i64 a0_8, .int .i64 a0_9, .int .i64 a0_10, .int .i64 a0_11, .int .i64 a0_12, .int .i64 a0_13, .int .i64 a0_14, .int .i64 a0_15, .int .i64 a0_16, .slice A0_17 l0_17.length c0_17, .slice A0_18 l0_18.length c0_18, .slice A0_19 l0_19.length c0_19], .int .i64 a1, .agg #[.int .i64 a2_0, .bool a2_1, .int .u32 a2_2, .int .i64 a2_3, .int .i64 a2_4, .int .i64 a2_5, .int .i64 a2_6, .int .i64 a2_7]] w fun e w' => e = .returned (.int .i64 r) ∧ Below w.heap.size w w' := by
  injection h with h
  subst h
  exact refuse_walk _ a0_0 a0_2 rfl rfl a1 a2_0 a2_1 a2_2 a2_3 a2_4 a2_5 a2_6 a2_7 w
end Go.Proofs.YtiamkgoajkfofaaDoor.S
end
section
namespace Go.Proofs.YtiamkgoajkfofaaDoor.S
open Go.RowKit Go.Proofs.YtiamkgoajkfofaaDoorW.PrintWords Go.Proofs.YtiamkgoajkfofaaDoorW.PrintLast Go.Proofs.YtiamkgoajkfofaaDoorW.PrintMore
attribute [local go_sem] max2_int min2_int max_two min_two max_three min_three max_four min_four   -- for this text's walks alone
def session_plain.f (a0_0 : Int) (a0_1 : Bool) (a0_2 : Int) (a0_3 : Int) (a0_4 : Int) (a0_5 : Int) (a0_6 : Int) (a0_7 : Int) : Option (Int × Bool × Int × Int × Int × Int × Int × Int) := some (plainF a0_0 a0_1 a0_2 a0_3 a0_4 a0_5 a0_6 a0_7)
theorem session_plain.calls (a0_0 : Int) (a0_1 : Bool) (a0_2 : Int) (a0_3 : Int) (a0_4 : Int) (a0_5 : Int) (a0_6 : Int) (a0_7 : Int) (r1 : Int) (r2 : Bool) (r3 : Int) (r4 : Int) (r5 : Int) (r6 : Int) (r7 : Int) (r8 : Int) (w : World) (h : session_plain.f a0_0 a0_1 a0_2 a0_3 a0_4 a0_5 a0_6 a0_7 = some (r1, r2, r3, r4, r5, r6, r7, r8)) :
    Calls Tryd.prog 32 #[.agg #[.int .i64 a0_0, .bool a0_1, .int .u32 a0_2, .int .i64 a0_3, .int .i64 a0_4, .int .i64 a0_5, .int .i64 a0_6, .int .i64 a0_7]] w fun e w' => e = .returned (.agg #[.int .i64 r1, .bool r2, .int .u32 r3, .int .i64 r4, .int .i64 r5, .int .i64 r6, .int .i64 r7, .int .i64 r8]) ∧ Below w.heap.size w w' :=
  plain_any a0_0 a0_1 a0_2 a0_3 a0_4 a0_5 a0_6 a0_7 w (r1, r2, r3, r4, r5, r6, r7, r8) (Option.some.inj h)
end Go.Proofs.YtiamkgoajkfofaaDoor.S
end
section
namespace Go.Proofs.YtiamkgoajkfofaaDoor.S
open Go.RowKit Go.Proofs.YtiamkgoajkfofaaDoorW.PrintWords Go.Proofs.YtiamkgoajkfofaaDoorW.PrintLast Go.Proofs.YtiamkgoajkfofaaDoorW.PrintMore
attribute [local go_sem] max2_int min2_int max_two min_two max_three min_three max_four min_four   -- for this text's walks alone
def session_rises_uint32.l0 : Nat → List Int → Int → List Int → Int → Int → Option (Bool)
  | 0, _, _, _, _, _ => none
  | k + 1, x0, x3, x6, x7, x8 => if x8 < x7 then (if 0 ≤ x8 then (if x8 < (x6.length : Int) then (if (rd x6 x8) = x3 then (some false) else (if x8 > 0 then (if 0 ≤ (wrap64 (x8 - 1)) then (if (wrap64 (x8 - 1)) < (x0.length : Int) then (if (rd x0 (wrap64 (x8 - 1))) ≥ (rd x6 x8) then (some false) else (session_rises_uint32.l0 k x0 x3 x6 x7 (wrap64 (x8 + 1)))) else (none)) else (none)) else (session_rises_uint32.l0 k x0 x3 x6 x7 (wrap64 (x8 + 1))))) else (none)) else (none)) else (some true)
def session_rises_uint32.f (k : Nat) (l0 : List Int) : Option (Bool) := session_rises_uint32.l0 k l0 0 l0 (l0.length : Int) 0
set_option maxHeartbeats 8000000 in
set_option maxRecDepth 100000 in
theorem session_rises_uint32.calls (k : Nat) (A0 : Option Addr) (c0 : Nat) (l0 : List Int) (r : Bool) (w : World) (hr0 : Kd.C (Kd.int .u32) w A0 l0.length l0) (hc0 : l0.length ≤ c0) (h : session_rises_uint32.f k l0 = some r) :
    Calls Tryd.prog 46 #[.slice A0 l0.length c0] w fun e w' => e = .returned (.bool r) ∧ Drawn0 w w' := by
  have HR0 := Aside0.mk hr0
  have HC0 := Aside0.mk hc0
  clear hr0 hc0
  have H : (session_rises_uint32.l0 k l0 0 l0 (l0.length : Int) 0) = some r := h
  clear h
  have H' := Aside0.mk H
  clear H
  go_enter Tryd.func46, Tryd.ntmps46
  go_wp2
  go_loopg [8] k (fun kq v8 w' => ∃ (x8_1 : Int), v8 = .int .i64 x8_1 ∧ Aside0 (session_rises_uint32.l0 kq l0 0 l0 (l0.length : Int) x8_1 = some r) ∧ Aside0 (kq ≤ k) ∧ Drawn0 w w')
  case atStart => exact ⟨(0), (by first | rfl | (simp; done) | (simp [*]; done)), H', ⟨Nat.le_refl _⟩, by repeat (first | exact Drawn0.refl _ | apply Drawn0.step)⟩
  case round =>
    clear H'
    obtain ⟨x8_1, rfl, HA, HK1, ⟨m1, rfl⟩⟩ := hrel
    cases gk with
    | zero => exact absurd HA.out (by simp [session_rises_uint32.l0])
    | succ k1 =>
      have H := HA.out
      clear HA
      simp only [session_rises_uint32.l0] at H
      by_cases c2 : x8_1 < (l0.length : Int)
      · rw [if_pos c2] at H
        have c2b0 : decide (x8_1 < (l0.length : Int)) = true := decide_eq_true c2
        clear c2
        by_cases c3 : 0 ≤ x8_1
        · rw [if_pos c3] at H
          have c3b0 : decide (0 ≤ x8_1) = true := decide_eq_true c3
          clear c3
          by_cases c4 : x8_1 < (l0.length : Int)
          · rw [if_pos c4] at H
            have c4b0 : decide (x8_1 < (l0.length : Int)) = true := decide_eq_true c4
            clear c4
            by_cases c5 : (rd l0 x8_1) = 0
            · rw [if_pos c5] at H
              have c5b0 : ((rd l0 x8_1) == 0) = true := beq_iff_eq.mpr c5
              have c5b1 : ((rd l0 x8_1) != 0) = false := bne_eq_false_iff_eq.mpr c5
              clear c5
              obtain rfl := Option.some.inj H
              have p116 : 0 ≤ (x8_1 : Int) := of_decide_eq_true (by first | (with_reducible assumption) | assumption)
              have q116 : x8_1 < (l0.length : Int) := of_decide_eq_true (by first | (with_reducible assumption) | assumption)
              obtain ⟨ad116, e116, hx116_0⟩ := Kd.at_int HR0.out x8_1 p116 q116
              cases e116
              replace p116 := eq_true p116
              replace q116 := eq_true q116
              go_wp2
              go_ret
              exact ⟨by first | rfl | (simp; done) | (simp [*]; done), by repeat (first | exact Drawn0.refl _ | apply Drawn0.step)⟩
            · rw [if_neg c5] at H
              have c5b0 : ((rd l0 x8_1) == 0) = false := beq_eq_false_iff_ne.mpr c5
              have c5b1 : ((rd l0 x8_1) != 0) = true := bne_iff_ne.mpr c5
              by_cases c6 : x8_1 > 0
              · rw [if_pos c6] at H
                have c6b0 : decide (0 < x8_1) = true := decide_eq_true c6
                clear c6
                obtain ⟨ji7, hji7⟩ : ∃ j_ : Int, (wrap64 (x8_1 - 1)) = j_ := ⟨_, rfl⟩
                replace H : (if 0 ≤ (ji7) then (if (ji7) < (l0.length : Int) then (if (rd l0 (ji7)) ≥ (rd l0 x8_1) then (some false) else (session_rises_uint32.l0 k1 l0 0 l0 (l0.length : Int) (wrap64 (x8_1 + 1)))) else (none)) else (none)) = some r := by first | (rw [hji7] at H; exact H) | (simp only [hji7] at H ⊢; exact H)
                have hji7w : (IntKind.i64.wrap (x8_1 - 1)) = ji7 := (i64_w _).trans hji7
                by_cases c8 : 0 ≤ (ji7)
                · rw [if_pos c8] at H
                  have c8b0 : decide (0 ≤ (ji7)) = true := decide_eq_true c8
                  clear c8
                  by_cases c9 : (ji7) < (l0.length : Int)
                  · rw [if_pos c9] at H
                    have c9b0 : decide ((ji7) < (l0.length : Int)) = true := decide_eq_true c9
                    clear c9
                    by_cases c10 : (rd l0 (ji7)) ≥ (rd l0 x8_1)
                    · rw [if_pos c10] at H
                      have c10b0 : decide ((rd l0 x8_1) ≤ (rd l0 (ji7))) = true := decide_eq_true c10
                      clear c10
                      obtain rfl := Option.some.inj H
                      have p116 : 0 ≤ (x8_1 : Int) := of_decide_eq_true (by first | (with_reducible assumption) | assumption)
                      have q116 : x8_1 < (l0.length : Int) := of_decide_eq_true (by first | (with_reducible assumption) | assumption)
                      obtain ⟨ad116, e116, hx116_0⟩ := Kd.at_int HR0.out x8_1 p116 q116
                      cases e116
                      replace p116 := eq_true p116
                      replace q116 := eq_true q116
                      have p117 : 0 ≤ ((ji7) : Int) := of_decide_eq_true (by first | (with_reducible assumption) | assumption)
                      have q117 : (ji7) < (l0.length : Int) := of_decide_eq_true (by first | (with_reducible assumption) | assumption)
                      obtain ⟨ad117, e117, hx117_0⟩ := Kd.at_int HR0.out (ji7) p117 q117
                      obtain rfl : ad116 = ad117 := (by injection e117)
                      replace p117 := eq_true p117
                      replace q117 := eq_true q117
                      go_wp2
                      go_ret
                      exact ⟨by first | rfl | (simp; done) | (simp only [← hji7] <;> (first | rfl | simp)) | (simp [*]; done), by repeat (first | exact Drawn0.refl _ | apply Drawn0.step)⟩
                    · rw [if_neg c10] at H
                      have c10b0 : decide ((rd l0 x8_1) ≤ (rd l0 (ji7))) = false := decide_eq_false c10
                      clear c10
                      have H' := Aside0.mk H
                      clear H
                      have p116 : 0 ≤ (x8_1 : Int) := of_decide_eq_true (by first | (with_reducible assumption) | assumption)
                      have q116 : x8_1 < (l0.length : Int) := of_decide_eq_true (by first | (with_reducible assumption) | assumption)
                      obtain ⟨ad116, e116, hx116_0⟩ := Kd.at_int HR0.out x8_1 p116 q116
                      cases e116
                      replace p116 := eq_true p116
                      replace q116 := eq_true q116
                      have p117 : 0 ≤ ((ji7) : Int) := of_decide_eq_true (by first | (with_reducible assumption) | assumption)
                      have q117 : (ji7) < (l0.length : Int) := of_decide_eq_true (by first | (with_reducible assumption) | assumption)
                      obtain ⟨ad117, e117, hx117_0⟩ := Kd.at_int HR0.out (ji7) p117 q117
                      obtain rfl : ad116 = ad117 := (by injection e117)
                      replace p117 := eq_true p117
                      replace q117 := eq_true q117
                      go_wp2
                      go_roundg k1
                      case measure => have := HK1.out; omega
                      case rel => exact ⟨(wrap64 (x8_1 + 1)), (by first | rfl | (simp; done) | (simp [*]; done)), H', ⟨by have := HK1.out; omega⟩, by repeat (first | exact Drawn0.refl _ | apply Drawn0.step)⟩
                  · rw [if_neg c9] at H
                    exact absurd H (by simp)
                · rw [if_neg c8] at H
                  exact absurd H (by simp)
              · rw [if_neg c6] at H
                have c6b0 : decide (0 < x8_1) = false := decide_eq_false c6
                clear c6
                have H' := Aside0.mk H
                clear H
                have p116 : 0 ≤ (x8_1 : Int) := of_decide_eq_true (by first | (with_reducible assumption) | assumption)
                have q116 : x8_1 < (l0.length : Int) := of_decide_eq_true (by first | (with_reducible assumption) | assumption)
                obtain ⟨ad116, e116, hx116_0⟩ := Kd.at_int HR0.out x8_1 p116 q116
                cases e116
                replace p116 := eq_true p116
                replace q116 := eq_true q116
                go_wp2
                go_roundg k1
                case measure => have := HK1.out; omega
                case rel => exact ⟨(wrap64 (x8_1 + 1)), (by first | rfl | (simp; done) | (simp [*]; done)), H', ⟨by have := HK1.out; omega⟩, by repeat (first | exact Drawn0.refl _ | apply Drawn0.step)⟩
          · rw [if_neg c4] at H
            exact absurd H (by simp)
        · rw [if_neg c3] at H
          exact absurd H (by simp)
      · rw [if_neg c2] at H
        have c2b0 : decide (x8_1 < (l0.length : Int)) = false := decide_eq_false c2
        clear c2
        obtain rfl := Option.some.inj H
        go_wp2
        go_ret
        exact ⟨by first | rfl | (simp; done) | (simp [*]; done), by repeat (first | exact Drawn0.refl _ | apply Drawn0.step)⟩
end Go.Proofs.YtiamkgoajkfofaaDoor.S
end
section
namespace Go.Proofs.YtiamkgoajkfofaaDoor.S
open Go.RowKit Go.Proofs.YtiamkgoajkfofaaDoorW.PrintWords Go.Proofs.YtiamkgoajkfofaaDoorW.PrintLast Go.Proofs.YtiamkgoajkfofaaDoorW.PrintMore
attribute [local go_sem] max2_int min2_int max_two min_two max_three min_three max_four min_four   -- for this text's walks alone
theorem wrap_sm {z : Int} (h : -9223372036854775808 ≤ z) (h2 : z < 9223372036854775808) : IntKind.i64.wrap z = z := by
  rw [IntKind.wrap_i64]; omega
def zeroAt : List S63 → Int → Int
  | [], _ => -1
  | x :: xs, i => if x.f0 = 0 then i else zeroAt xs (i + 1)
theorem drop_seen {l : List S63} {n : Int} (h0 : 0 ≤ n) (h1 : n < l.length) : l.drop n.toNat = rd_T63 l n :: l.drop (n + 1).toNat := by
  have e : (n + 1).toNat = n.toNat + 1 := by omega
  have hl : n.toNat < l.length := by omega
  rw [e, List.drop_eq_getElem_cons hl]
  unfold rd_T63
  rw [List.getD_eq_getElem?_getD, List.getElem?_eq_getElem hl]
  rfl
theorem zero_fn (a b : Int) (w : World) : Calls Tryd.prog 60 #[.agg #[.int .u32 a, .int .u64 b]] w fun e w' => e = .returned (.bool (a == 0)) ∧ Below w.heap.size w w' := by
  have hx := Blk.new w 63 #[.int .u32 a, .int .u64 b]
  have e0 := hx.cell 0
  simp at e0
  go_enter Tryd.func60, Tryd.ntmps60
  go_wp2
  go_ret
  exact ⟨rfl, keep_below_alloc _ (Below.refl _ _)⟩
set_option maxHeartbeats 4000000 in
theorem zero_index (A : Option Addr) (c : Nat) (l : List S63) (w : World) (hr : Kd.C k63 w A l.length l) (hn : l.length ≤ 1000) :
    Calls Tryd.prog 63 #[.slice A l.length c, .func (.func 60) #[] #[]] w fun e w' => e = .returned (.int .i64 (zeroAt l 0)) ∧ Below w.heap.size w w' := by
  have HR := Aside0.mk hr
  clear hr
  obtain ⟨z0, hz0⟩ : ∃ z, zeroAt l 0 = z := ⟨_, rfl⟩
  rw [hz0]
  go_enter Tryd.func63, Tryd.ntmps63
  go_wp2
  go_loopw [8] (fun v8 wr => ∃ i : Int, v8 = .int .i64 i ∧ 0 ≤ i ∧ i ≤ l.length ∧ Aside0 (zeroAt (l.drop i.toNat) i = z0) ∧ Below w.heap.size w wr) (fun v8 _ => l.length - (intOf v8).toNat)
  case atStart => exact ⟨0, rfl, Int.le_refl _, by omega, ⟨by simpa using hz0⟩, Below.refl _ _⟩
  case round =>
    obtain ⟨i, rfl, i0, i1, HI, hB⟩ := hrel
    by_cases hlt : i < l.length
    · have hd : decide (i < (l.length : Int)) = true := decide_eq_true hlt
      have hw := wrap_sm (z := i + 1) (by omega) (by omega)
      obtain ⟨ad, rfl, x0, x1⟩ := at_T63 (Kd.C_below HR.out hB) i i0 hlt
      have p0 : (0 ≤ i) = True := eq_true i0
      have p1 : (i < (l.length : Int)) = True := eq_true hlt
      have HX := HI.out
      rw [drop_seen i0 hlt] at HX
      unfold zeroAt at HX
      have HC := fun W => Aside0.mk (zero_fn (rd_T63 l i).f0 (rd_T63 l i).f1 W)
      clear HI
      by_cases hz : (rd_T63 l i).f0 = 0
      · rw [if_pos hz] at HX
        have hzb : ((rd_T63 l i).f0 == 0) = true := beq_iff_eq.mpr hz
        subst HX
        have HZ := Aside0.mk hzb
        clear hz hzb
        go_wp2_with (go_at_call 60; (with_reducible refine (HC _).out.mono ?_); rintro e w1 ⟨rfl, hb1⟩; rw [HZ.out])
        go_ret
        exact ⟨rfl, hB.trans (hb1.mono hB.size)⟩
      · rw [if_neg hz] at HX
        have hzb : ((rd_T63 l i).f0 == 0) = false := beq_eq_false_iff_ne.mpr hz
        have HZ := Aside0.mk hzb
        have HXX := Aside0.mk HX
        clear HX hz hzb
        go_wp2_with (go_at_call 60; (with_reducible refine (HC _).out.mono ?_); rintro e w1 ⟨rfl, hb1⟩; rw [HZ.out])
        go_roundw
        case rel => exact ⟨i + 1, by simp [hw], by omega, by omega, HXX, hB.trans (hb1.mono hB.size)⟩
        case measure => simp [intOf, hw]; omega
    · have hd : decide (i < (l.length : Int)) = false := decide_eq_false hlt
      have HX := HI.out
      rw [List.drop_eq_nil_of_le (by omega)] at HX
      unfold zeroAt at HX
      subst HX
      clear HI
      go_wp2
      go_ret
      exact ⟨rfl, hB⟩
set_option maxHeartbeats 2000000 in
theorem zero_contains (A : Option Addr) (c : Nat) (l : List S63) (w : World) (hr : Kd.C k63 w A l.length l) (hn : l.length ≤ 1000) :
    Calls Tryd.prog 59 #[.slice A l.length c, .func (.func 60) #[] #[]] w fun e w' => e = .returned (.bool (decide (0 ≤ zeroAt l 0))) ∧ Below w.heap.size w w' := by
  have H := fun W hW => Aside0.mk (zero_index A c l W (Kd.C_below hr hW) hn)
  go_enter Tryd.func59, Tryd.ntmps59
  go_wp2_with (go_at_call 63; (with_reducible refine (H _ (Below.refl _ _)).out.mono ?_); rintro e w1 ⟨rfl, hb1⟩)
  go_ret
  exact ⟨rfl, hb1⟩
def risesAt (l : List Int) (i : Nat) : Bool := decide (0 < rd l (i : Int)) && (decide (i = 0) || decide (rd l ((i : Int) - 1) < rd l (i : Int)))
def risesTo (l : List Int) (i : Nat) : Bool := (List.range i).all (risesAt l)
theorem risesTo_next (l : List Int) (i : Nat) : risesTo l (i + 1) = (risesTo l i && risesAt l i) := by
  unfold risesTo
  rw [List.range_succ, List.all_append]
  simp
def cursor_Check.f (a0_0 : Int) (a0_1 : Int) (a0_2 : Int) (a0_3 : Int) (l0_4 : List (S63)) (l0_5 : List Int) : Option Int :=
  if l0_4.length ≤ 1000 ∧ l0_5.length ≤ 1000 then (key_Check.f 1 a0_0 a0_1 a0_2 a0_3).bind fun e => some (if (decide (e = 0) && decide (l0_4.length ≤ 128) && decide (¬ 0 ≤ zeroAt l0_4 0) && risesTo l0_5 l0_5.length) = true then 0 else 230) else none
set_option maxHeartbeats 8000000 in
set_option maxRecDepth 100000 in
theorem cursor_Check.calls (a0_0 : Int) (a0_1 : Int) (a0_2 : Int) (a0_3 : Int) (A0_4 : Option Addr) (c0_4 : Nat) (l0_4 : List (S63)) (A0_5 : Option Addr) (c0_5 : Nat) (l0_5 : List Int) (r : Int) (w : World) (hr0_4 : Kd.C k63 w A0_4 l0_4.length l0_4) (hc0_4 : l0_4.length ≤ c0_4) (hr0_5 : Kd.C (Kd.int .u32) w A0_5 l0_5.length l0_5) (hc0_5 : l0_5.length ≤ c0_5) (h : cursor_Check.f a0_0 a0_1 a0_2 a0_3 l0_4 l0_5 = some r) :
    Calls Tryd.prog 45 #[.agg #[.int .i64 a0_0, .int .i64 a0_1, .int .i64 a0_2, .int .i64 a0_3, .slice A0_4 l0_4.length c0_4, .slice A0_5 l0_5.length c0_5]] w fun e w' => e = .returned (.int .i64 r) ∧ Below w.heap.size w w' := by
  unfold cursor_Check.f at h
  by_cases hn : l0_4.length ≤ 1000 ∧ l0_5.length ≤ 1000
  case neg => rw [if_neg hn] at h; cases h
  rw [if_pos hn] at h
  obtain ⟨n4, n5⟩ := hn
  obtain ⟨e0, he, h⟩ := Option.bind_eq_some_iff.1 h
  injection h with h
  obtain ⟨W0, hW0⟩ : ∃ W, w.alloc (.cells #[.int .i64 a0_0, .int .i64 a0_1, .int .i64 a0_2, .int .i64 a0_3, .slice A0_4 l0_4.length c0_4, .slice A0_5 l0_5.length c0_5] 31) = W := ⟨_, rfl⟩
  have hb0 : Blk W0 w.heap.size 31 #[.int .i64 a0_0, .int .i64 a0_1, .int .i64 a0_2, .int .i64 a0_3, .slice A0_4 l0_4.length c0_4, .slice A0_5 l0_5.length c0_5] := by rw [← hW0]; exact Blk.new _ _ _
  have hB0 : Below w.heap.size w W0 := by rw [← hW0]; exact keep_below_alloc _ (Below.refl _ _)
  have HK := fun W => Aside0.mk (key_Check.calls 1 a0_0 a0_1 a0_2 a0_3 e0 W he)
  have HZ := fun (W : World) (hb : Below w.heap.size w W) => Aside0.mk (zero_contains A0_4 c0_4 l0_4 W (Kd.C_below hr0_4 hb) n4)
  have HR := Aside0.mk hr0_5
  have HH := Aside0.mk h
  have HW := Aside0.mk hW0
  clear hr0_4 hr0_5 h he hW0
  obtain ⟨b1, hb1⟩ : ∃ b, (e0 == 0) = b := ⟨_, rfl⟩
  obtain ⟨b2, hb2⟩ : ∃ b, decide ((l0_4.length : Int) ≤ 128) = b := ⟨_, rfl⟩
  obtain ⟨b3, hb3⟩ : ∃ b, decide (0 ≤ zeroAt l0_4 0) = b := ⟨_, rfl⟩
  have hr : (if (b1 && b2 && !b3 && risesTo l0_5 l0_5.length) = true then 0 else 230) = r := by
    rw [← HH.out, ← hb1, ← hb2, ← hb3]
    congr 2
    by_cases g1 : e0 = 0 <;> by_cases g2 : l0_4.length ≤ 128 <;> by_cases g3 : 0 ≤ zeroAt l0_4 0 <;> simp [g1, g2, g3] <;> omega
  clear HH
  have HR2 := Aside0.mk hr
  clear hr
  go_enter Tryd.func45, Tryd.ntmps45
  go_upto_region 1 with fail
  rw [HW.out]
  clear HW
  go_cut [3] (fun s3 wx => ∃ W : World, W = wx ∧ s3 = .bool (b1 && b2) ∧ Below W0.heap.size W0 wx)
  case first =>
    have k0 := hb0.cell 0
    have k1 := hb0.cell 1
    have k2 := hb0.cell 2
    have k3 := hb0.cell 3
    simp at k0 k1 k2 k3
    cases b1
    · go_wp2_with (go_at_call 55; (with_reducible refine (HK _).out.mono ?_); rintro e w1 ⟨rfl, hc1⟩; have k4 := (hb0.keep hc1).cell 4; simp at k4)
      go_meet
      go_split_ands
      exact ⟨_, rfl, rfl, hc1⟩
    · go_wp2_with (go_at_call 55; (with_reducible refine (HK _).out.mono ?_); rintro e w1 ⟨rfl, hc1⟩; have k4 := (hb0.keep hc1).cell 4; simp at k4)
      go_meet
      go_split_ands
      exact ⟨_, rfl, rfl, hc1⟩
  case rest =>
    obtain ⟨w1, rfl, rfl, hc1⟩ := hcut
    have hb4 := hb0.keep hc1
    have hB1 := keep_below hB0 hc1
    obtain ⟨b12, hb12⟩ : ∃ b, (b1 && b2) = b := ⟨_, rfl⟩
    rw [hb12] at HR2
    rw [hb12]
    clear hb12 hb1 hb2
    go_upto_region 2 with fail
    go_cut [3] (fun s3 wx => ∃ W : World, W = wx ∧ s3 = .bool (b12 && !b3) ∧ Below w1.heap.size w1 wx)
    case first =>
      have k4 := hb4.cell 4
      simp at k4
      cases b12
      · go_wp2
        go_meet
        go_split_ands
        exact ⟨_, rfl, rfl, Below.refl _ _⟩
      · go_wp2_with (go_at_call 59; (with_reducible refine (HZ _ hB1).out.mono ?_); rintro e w2 ⟨rfl, hc2⟩; rw [hb3])
        go_meet
        go_split_ands
        exact ⟨_, rfl, rfl, hc2⟩
    case rest =>
      obtain ⟨w2, rfl, rfl, hc2⟩ := hcut
      have hb5 := hb4.keep hc2
      have hB2 := keep_below hB1 hc2
      obtain ⟨b, hb⟩ : ∃ b, (b12 && !b3) = b := ⟨_, rfl⟩
      rw [hb] at HR2
      rw [hb]
      clear hb hb3 hb0 hb4 hc1 hc2 HK HZ
      have k5 := hb5.cell 5
      simp at k5
      go_wp2
      go_loopw [26, 3] (fun v26 v3 wr => ∃ i : Nat, v26 = .int .i64 (i : Int) ∧ i ≤ l0_5.length ∧ v3 = .bool (b && risesTo l0_5 i) ∧ Below w2.heap.size w2 wr) (fun v26 _ _ => l0_5.length - (intOf v26).toNat)
      case atStart => exact ⟨0, rfl, by omega, by simp [risesTo], Below.refl _ _⟩
      case round =>
        obtain ⟨i, rfl, hi, rfl, hBr⟩ := hrel
        have hbr := hb5.keep hBr
        have hBw := keep_below hB2 hBr
        clear k5
        have k5 := hbr.cell 5
        simp at k5
        obtain ⟨c, hc⟩ : ∃ c, (b && risesTo l0_5 i) = c := ⟨_, rfl⟩
        rw [hc]
        by_cases hlt : i < l0_5.length
        · have hd : decide ((i : Int) < (l0_5.length : Int)) = true := decide_eq_true (by omega)
          have hw := wrap_sm (z := (i : Int) + 1) (by omega) (by omega)
          obtain ⟨ad, hA, x0⟩ := Kd.at_int (Kd.C_below HR.out hBw) (i : Int) (by omega) (by omega)
          have p0 : (0 ≤ (i : Int)) = True := eq_true (by omega)
          have p1 : ((i : Int) < (l0_5.length : Int)) = True := eq_true (by omega)
          have hnx : ∀ d : Bool, risesAt l0_5 i = d → (b && risesTo l0_5 (i + 1)) = (c && d) := fun d h => by rw [risesTo_next, ← hc, ← h, Bool.and_assoc]
          have HN := Aside0.mk hnx
          clear hnx hc
          have hrm : ∀ w' : World, Below w2.heap.size w2 w' → ∀ c' : Bool, (∃ d, risesAt l0_5 i = d ∧ c' = (c && d)) → ∃ i' : Nat, Value.int .i64 ((i : Int) + 1) = .int .i64 (i' : Int) ∧ i' ≤ l0_5.length ∧ Value.bool c' = .bool (b && risesTo l0_5 i') ∧ Below w2.heap.size w2 w' := fun w' hw' c' ⟨d, h1, h2⟩ => ⟨i + 1, by simp, by omega, by rw [HN.out d h1, h2], hw'⟩
          have HM := Aside0.mk hrm
          clear hrm
          cases A0_5 with
          | none => cases hA
          | some ad0 =>
          injection hA with hA
          subst hA
          have x1 : wr.cell? (ad0.add i) = some (.int .u32 (rd l0_5 (i : Int))) := by simpa using x0
          clear x0
          cases c
          · go_wp2
            go_roundw
            case rel => simpa only [hw] using HM.out _ hBr false ⟨_, rfl, by simp⟩
            case measure => simp [intOf, hw]; omega
          · by_cases hx : 0 < rd l0_5 (i : Int)
            · have hx1 : decide (0 < rd l0_5 (i : Int)) = true := decide_eq_true hx
              by_cases h0 : i = 0
              · have h1 : ((i : Int) == 0) = true := by simp [h0]
                have H0 := Aside0.mk h0
                have HX := Aside0.mk hx
                clear h0 hx
                go_wp2
                go_roundw
                case rel => simpa only [hw] using HM.out _ hBr true ⟨_, rfl, by have h9 := HX.out; rw [H0.out] at h9; simp at h9; simp [risesAt, H0.out, h9]⟩
                case measure => simp [intOf, hw]; omega
              · have h1 : ((i : Int) == 0) = false := by simp [h0]
                obtain ⟨jj, hj⟩ : ∃ jj : Nat, (i : Int) - 1 = (jj : Int) := ⟨i - 1, by omega⟩
                have hwm : IntKind.i64.wrap ((i : Int) - 1) = (jj : Int) := (wrap_sm (by omega) (by omega)).trans hj
                obtain ⟨ad1, hA1, y0⟩ := Kd.at_int (Kd.C_below HR.out hBw) (jj : Int) (by omega) (by omega)
                injection hA1 with hA1
                subst hA1
                have y1 : wr.cell? (ad0.add jj) = some (.int .u32 (rd l0_5 (jj : Int))) := by simpa using y0
                clear y0
                have p2 : (0 ≤ (jj : Int)) = True := eq_true (by omega)
                have p3 : ((jj : Int) < (l0_5.length : Int)) = True := eq_true (by omega)
                obtain ⟨d, hdl⟩ : ∃ d, decide (rd l0_5 (jj : Int) < rd l0_5 (i : Int)) = d := ⟨_, rfl⟩
                have HJ := Aside0.mk hj
                clear hj
                have HD := Aside0.mk hdl
                have H0 := Aside0.mk h0
                have HX := Aside0.mk hx
                clear h0 hx
                go_wp2
                go_roundw
                case rel => simpa only [hw] using HM.out _ hBr d ⟨_, rfl, by simp [risesAt, HX.out, H0.out, HJ.out, HD.out]⟩
                case measure => simp [intOf, hw]; omega
            · have hx1 : decide (0 < rd l0_5 (i : Int)) = false := decide_eq_false hx
              have HX := Aside0.mk hx
              clear hx
              go_wp2
              go_roundw
              case rel => simpa only [hw] using HM.out _ hBr false ⟨_, rfl, by simp [risesAt, HX.out]⟩
              case measure => simp [intOf, hw]; omega
        · have hd : decide ((i : Int) < (l0_5.length : Int)) = false := decide_eq_false (by omega)
          obtain rfl : i = l0_5.length := by omega
          have hr := HR2.out
          rw [hc] at hr
          clear HR2 hc
          cases c
          · simp at hr
            subst hr
            go_wp2
            go_ret
            exact ⟨rfl, hBw⟩
          · simp at hr
            subst hr
            go_wp2
            go_ret
            exact ⟨rfl, hBw⟩
end Go.Proofs.YtiamkgoajkfofaaDoor.S
end
