/- What the row of this claim reaches. No condition. -/
import Derived.Laws.BytesArg
import Derived.WalkKit
import Derived.StillTailTactics
import Derived.Deep.RegionHeld3
import Derived.Laws.Bits64b
import Derived.Test.YthlhmijgbjcloaaLKeyFairNest
import Derived.Test.YthlhmijgbjcloaaLKeyFairPart
import Derived.Test.YthlhmijgbjcloaaCX5
set_option linter.unusedVariables false
set_option linter.unusedSimpArgs false
section
namespace Go.Proofs.Ythlhmijgbjcloaa.A
open Go.RowKit Go.Proofs.YthlhmijgbjcloaaW.PrintWords Go.Proofs.YthlhmijgbjcloaaW.PrintLast Go.Proofs.YthlhmijgbjcloaaW.PrintMore
attribute [local go_sem] max2_int min2_int max_two min_two max_three min_three max_four min_four   -- for this text's walks alone
theorem gazetteerlaw09_wakes.mono : ∀ k, LeO (gazetteerlaw09_wakes.f k ) (gazetteerlaw09_wakes.f (k + 1) ) := by
  intro  k
  unfold gazetteerlaw09_wakes.f
  repeat' first
      | (with_reducible exact key_Part.mono _ _)
      | (with_reducible exact LeO.refl _)
      | (with_reducible exact LeO.none _)
      | (with_reducible refine LeO.ite ?_ ?_)
      | (with_reducible refine LeO.bind ?_ (fun _ => ?_))
      | exact key_Part.mono _ _
      | exact LeO.none _
      | refine LeO.ite ?_ ?_
      | refine LeO.bind ?_ (fun _ => ?_)
mutual
def gazetteerlaw09_KeyFair.j0 : Nat → List (S35) → List Int → List Int → Bool → Option (Bool)
  | 0, _, _, _, _ => none
  | k + 1, x0, x3, x4, x55 => if x55 = true then (some false) else (if 0 ≤ (x0.length : Int) then (if ((x0.length : Int) : Int).toNat ≤ 281474976710656 then ((some (([x3, x4] : List (List Int)) : List (List Int))).bind fun y178 => (gazetteerlaw09_KeyFair.l0 k x0 (List.replicate ((x0.length : Int) : Int).toNat false) y178 (y178.length : Int) 0)) else (none)) else (none))
def gazetteerlaw09_KeyFair.l0 : Nat → List (S35) → List Bool → List (List Int) → Int → Int → Option (Bool)
  | 0, _, _, _, _, _ => none
  | k + 1, x0, x7, x61, x62, x63 => if x63 < x62 then (if 0 ≤ x63 then (if x63 < (x61.length : Int) then (gazetteerlaw09_KeyFair.l1 k x0 x7 (rd_L7 x61 x63) x61 x62 x63 (rd_L7 x61 x63) ((rd_L7 x61 x63).length : Int) 0) else (none)) else (none)) else (some true)
def gazetteerlaw09_KeyFair.l1 : Nat → List (S35) → List Bool → List Int → List (List Int) → Int → Int → List Int → Int → Int → Option (Bool)
  | 0, _, _, _, _, _, _, _, _, _ => none
  | k + 1, x0, x7, x9, x61, x62, x63, x67, x68, x69 => if x69 < x68 then (if 0 ≤ x69 then (if x69 < (x67.length : Int) then (if (rd x67 x69) < 0 then (some false) else (if (rd x67 x69) ≥ (x0.length : Int) then (some false) else (if 0 ≤ (rd x67 x69) then (if (rd x67 x69) < (x7.length : Int) then (if rdOf false x7 (rd x67 x69) = true then (some false) else (if x69 > 0 then (if 0 ≤ (wrap64 (x69 - 1)) then (if (wrap64 (x69 - 1)) < (x9.length : Int) then (if (rd x9 (wrap64 (x69 - 1))) ≥ (rd x67 x69) then (some false) else (gazetteerlaw09_KeyFair.l1 k x0 (x7.set ((rd x67 x69) : Int).toNat true) x9 x61 x62 x63 x67 x68 (wrap64 (x69 + 1)))) else (none)) else (none)) else (gazetteerlaw09_KeyFair.l1 k x0 (x7.set ((rd x67 x69) : Int).toNat true) x9 x61 x62 x63 x67 x68 (wrap64 (x69 + 1))))) else (none)) else (none)))) else (none)) else (none)) else (gazetteerlaw09_KeyFair.l0 k x0 x7 x61 x62 (wrap64 (x63 + 1)))
end
def gazetteerlaw09_KeyFair.f (k : Nat) (l0 : List (S35)) : Option (Bool) := (gazetteerlaw09_wakes.f k).bind fun t167 => (if t167 = true then (if (l0.length : Int) > 200 then (some true) else ((key_Part.f k l0).bind fun bt168 => (if bt168.2.2 = 0 then (if (bt168.1.length : Int) < (mx (wrap64 (Int.tdiv (wrap64 (2 * (l0.length : Int))) 5)) 1) then (gazetteerlaw09_KeyFair.j0 k l0 bt168.1 bt168.2.1 true) else (if (bt168.2.1.length : Int) < (mx (wrap64 (Int.tdiv (wrap64 (2 * (l0.length : Int))) 5)) 1) then (gazetteerlaw09_KeyFair.j0 k l0 bt168.1 bt168.2.1 true) else (gazetteerlaw09_KeyFair.j0 k l0 bt168.1 bt168.2.1 ((wrap64 ((bt168.1.length : Int) + (bt168.2.1.length : Int))) != (l0.length : Int))))) else (some ((wrap64 ((bt168.1.length : Int) + (bt168.2.1.length : Int))) == 0))))) else (some false))
set_option maxHeartbeats 8000000 in
set_option maxRecDepth 100000 in
theorem gazetteerlaw09_KeyFair.calls (k : Nat) (A0 : Option Addr) (c0 : Nat) (l0 : List (S35)) (r : Bool) (w : World) (hr0 : Kd.C k35 w A0 l0.length l0) (hc0 : l0.length ≤ c0) (h : gazetteerlaw09_KeyFair.f k l0 = some r) :
  Calls Try.prog 10 #[.slice A0 l0.length c0] w fun e w' => e = .returned (.bool r)∧Below w.heap.size w w':=by
 have HR0:=Ak hr0
 have HC0:=Ak hc0
 clear hr0 hc0
 have HB:=Ak (Below.refl w.heap.size w)
 have H : ((gazetteerlaw09_wakes.f k).bind fun t167 => (if t167 = true then (if (l0.length : Int) > 200 then (some true) else ((key_Part.f k l0).bind fun bt168 => (if bt168.2.2 = 0 then (if (bt168.1.length : Int) < (mx (wrap64 (Int.tdiv (wrap64 (2*(l0.length : Int))) 5)) 1) then (gazetteerlaw09_KeyFair.j0 k l0 bt168.1 bt168.2.1 true) else (if (bt168.2.1.length : Int) < (mx (wrap64 (Int.tdiv (wrap64 (2*(l0.length : Int))) 5)) 1) then (gazetteerlaw09_KeyFair.j0 k l0 bt168.1 bt168.2.1 true) else (gazetteerlaw09_KeyFair.j0 k l0 bt168.1 bt168.2.1 ((wrap64 ((bt168.1.length : Int)+(bt168.2.1.length : Int))) != (l0.length : Int))))) else (some ((wrap64 ((bt168.1.length : Int)+(bt168.2.1.length : Int))) == 0))))) else (some false))) = some r:=h
 clear h
 replace H:=Option.bind_eq_some_iff.mp H
 obtain ⟨t167,A20,H⟩:=H
 replace H : (if t167 = true then (if (l0.length : Int) > 200 then (some true) else ((key_Part.f k l0).bind fun bt168 => (if bt168.2.2 = 0 then (if (bt168.1.length : Int) < (mx (wrap64 (Int.tdiv (wrap64 (2*(l0.length : Int))) 5)) 1) then (gazetteerlaw09_KeyFair.j0 k l0 bt168.1 bt168.2.1 true) else (if (bt168.2.1.length : Int) < (mx (wrap64 (Int.tdiv (wrap64 (2*(l0.length : Int))) 5)) 1) then (gazetteerlaw09_KeyFair.j0 k l0 bt168.1 bt168.2.1 true) else (gazetteerlaw09_KeyFair.j0 k l0 bt168.1 bt168.2.1 ((wrap64 ((bt168.1.length : Int)+(bt168.2.1.length : Int))) != (l0.length : Int))))) else (some ((wrap64 ((bt168.1.length : Int)+(bt168.2.1.length : Int))) == 0))))) else (some false)) = some r:=H
 have A2:=Ak A20
 clear A20
 by_cases c3 : t167 = true
 ·subst c3
  have H1 : (if (l0.length : Int) > 200 then (some true) else ((key_Part.f k l0).bind fun bt168 => (if bt168.2.2 = 0 then (if (bt168.1.length : Int) < (mx (wrap64 (Int.tdiv (wrap64 (2*(l0.length : Int))) 5)) 1) then (gazetteerlaw09_KeyFair.j0 k l0 bt168.1 bt168.2.1 true) else (if (bt168.2.1.length : Int) < (mx (wrap64 (Int.tdiv (wrap64 (2*(l0.length : Int))) 5)) 1) then (gazetteerlaw09_KeyFair.j0 k l0 bt168.1 bt168.2.1 true) else (gazetteerlaw09_KeyFair.j0 k l0 bt168.1 bt168.2.1 ((wrap64 ((bt168.1.length : Int)+(bt168.2.1.length : Int))) != (l0.length : Int))))) else (some ((wrap64 ((bt168.1.length : Int)+(bt168.2.1.length : Int))) == 0))))) = some r:=by rw [if_pos rfl] at H;exact H
  clear H
  have H:=H1
  clear H1
  by_cases c4 : (l0.length : Int) > 200
  ·rw [if_pos c4] at H
   have c4b0 : decide (200 < (l0.length : Int)) = true:=decide_eq_true c4
   have c4b1 : decide (200 < l0.length) = true:=decide_eq_true (by omega)
   clear c4
   obtain rfl:=Option.some.inj H
   go_enter Try.func10,Try.ntmps10
   go_wp2_with (first|((with_reducible refine gate_callee (f:=32) rfl ?_);refine goesL_ (some 12) rfl rfl Try.func32 (by kernel_rfl) rfl #[] rfl (by (try simp only [List.map_toArray,List.map_cons,List.map_nil]);first|done|rfl|(simp only [List.length_drop,List.length_take];rfl)) ?_;(with_reducible refine (gazetteerlaw09_wakes.calls k  true _ A2.out).mono ?_);rintro e w5 ⟨rfl,hb⟩;refine ⟨_,rfl,?_⟩;have n0_:=Kh HB hb;clear HB;have HB:=n0_;clear n0_;(try clear hb);(try clear hb2);(try clear hk);(try clear hi)))
   go_ret
   exact ⟨by first|rfl|(simp [errW_none,errW_some] <;> rfl)|(simp [*,errW_none,errW_some] <;> rfl),by repeat (first|(with_reducible first|exact HB.out|apply bA|apply bN|apply bD)|exact HB.out)⟩
  ·rw [if_neg c4] at H
   have c4b0 : decide (200 < (l0.length : Int)) = false:=decide_eq_false c4
   have c4b1 : decide (200 < l0.length) = false:=decide_eq_false (by omega)
   clear c4
   replace H:=Option.bind_eq_some_iff.mp H
   obtain ⟨⟨t168,t169,t170⟩,A60,H⟩:=H
   replace H : (if t170 = 0 then (if (t168.length : Int) < (mx (wrap64 (Int.tdiv (wrap64 (2*(l0.length : Int))) 5)) 1) then (gazetteerlaw09_KeyFair.j0 k l0 t168 t169 true) else (if (t169.length : Int) < (mx (wrap64 (Int.tdiv (wrap64 (2*(l0.length : Int))) 5)) 1) then (gazetteerlaw09_KeyFair.j0 k l0 t168 t169 true) else (gazetteerlaw09_KeyFair.j0 k l0 t168 t169 ((wrap64 ((t168.length : Int)+(t169.length : Int))) != (l0.length : Int))))) else (some ((wrap64 ((t168.length : Int)+(t169.length : Int))) == 0))) = some r:=H
   have A6:=Ak A60
   clear A60
   by_cases c7 : t170 = 0
   ·rw [if_pos c7] at H
    have c7b0 : (t170 == 0) = true:=beq_iff_eq.mpr c7
    have c7b1 : (t170 != 0) = false:=bne_eq_false_iff_eq.mpr c7
    clear c7
    obtain ⟨ji8,hji8⟩ : ∃ j_ : Int,(mx (wrap64 (Int.tdiv (wrap64 (2*(l0.length : Int))) 5)) 1) = j_:=⟨_,rfl⟩
    replace H : (if (t168.length : Int) < (ji8) then (gazetteerlaw09_KeyFair.j0 k l0 t168 t169 true) else (if (t169.length : Int) < (ji8) then (gazetteerlaw09_KeyFair.j0 k l0 t168 t169 true) else (gazetteerlaw09_KeyFair.j0 k l0 t168 t169 ((wrap64 ((t168.length : Int)+(t169.length : Int))) != (l0.length : Int))))) = some r:=by first|(rw [hji8] at H;exact H)|(simp only [hji8] at H ⊢;exact H)
    (try rw [hji8] at A2)
    (try rw [hji8] at A6)
    (try (have hji8l : 1 ≤ ji8:=by (rw [← hji8];unfold mx;(repeat' split) <;> omega)))
    (try (have hji8m : 0 ≤ ji8:=by omega))
    have hji8_ : (if (wrap64 (Int.tdiv (wrap64 (2*(l0.length : Int))) 5)) < 1 then 1 else (wrap64 (Int.tdiv (wrap64 (2*(l0.length : Int))) 5))) = ji8:=hji8
    have HC9:=Ak H
    clear H
    go_enter Try.func10,Try.ntmps10
    go_upto_region 9 with (first|((with_reducible refine gate_callee (f:=32) rfl ?_);refine goesL_ (some 12) rfl rfl Try.func32 (by kernel_rfl) rfl #[] rfl (by (try simp only [List.map_toArray,List.map_cons,List.map_nil]);first|done|rfl|(simp only [List.length_drop,List.length_take];rfl)) ?_;(with_reducible refine (gazetteerlaw09_wakes.calls k  true _ A2.out).mono ?_);rintro e w10 ⟨rfl,hb⟩;refine ⟨_,rfl,?_⟩;have n0_:=Kh HB hb;clear HB;have HB:=n0_;clear n0_;(try clear hb);(try clear hb2);(try clear hk);(try clear hi))|((with_reducible refine gate_callee (f:=33) rfl ?_);refine goesL_ (some 19) rfl rfl Try.func33 (by kernel_rfl) rfl #[.slice A0 l0.length c0] rfl (by (try simp only [List.map_toArray,List.map_cons,List.map_nil]);first|done|rfl|(simp only [List.length_drop,List.length_take];rfl)) ?_;(with_reducible refine (key_Part.calls k _ _ l0 t168 t169 t170 _ ?side1 ?side2 A6.out).mono ?_);(case side1 => repeat (first|exact (Kd.C_below HR0.out HB.out)|(with_reducible refine Kd.C_alloc ?_ _)|(with_reducible refine Kd.C_drewN ?_ _)|(with_reducible refine Kd.C_drew ?_)));(case side2 => exact HC0.out);rintro e w11 ⟨v171,v173,rfl,ho0,ho1,hb⟩;refine ⟨_,rfl,?_⟩;have n0_:=Ak (Kd.R_lower ho0 (below_size HB.out));have n1_:=Ak (Kd.R_lower ho1 (below_size HB.out));have n2_:=Kh HB hb;clear HB;have HO172:=n0_;have HO174:=n1_;have HB:=n2_;clear n0_ n1_ n2_;(try clear hb);(try clear hb2);(try clear hk);(try clear hi);(try clear ho0);(try clear ho1)))
    (try simp only [Act.put,sA,sZ,sS])
    go_cut [55] (fun v55 wc => ∃ (kq : Nat) (x55_8 : Bool),v55 = .bool x55_8∧Aside0 (gazetteerlaw09_KeyFair.j0 kq l0 t168 t169 x55_8 = some r)∧Aside0 (kq ≤ k)∧Aside0 (Kd.R (Kd.int .i64) 3 wc w.heap.size (fun k_ => some k_ ≠ (v173 : Value).ownBlock) v171 t168)∧Aside0 (Kd.R (Kd.int .i64) 3 wc w.heap.size (fun k_ => some k_ ≠ (v171 : Value).ownBlock) v173 t169)∧Aside0 (Below w.heap.size w wc))
    case first =>
     have H:=HC9.out
     clear HC9
     by_cases c12 : (t168.length : Int) < (ji8)
     ·rw [if_pos c12] at H
      have c12b0 : decide ((t168.length : Int) < (ji8)) = true:=decide_eq_true c12
      clear c12
      (first|rw [c12b0]|(simp only [i64_w,i32_w];rw [c12b0])|skip)
      have H':=Ak H
      clear H
      obtain ⟨Ao13,co13,eo13⟩:=Kd.R_slice HO172.out
      subst eo13
      go_wp2
      go_meet
      case rel => exact ⟨_,(true),(by first|rfl|(simp;done)|(simp [*];done)),H',⟨by first|omega|exact Nat.le_refl _⟩,⟨by (with_reducible repeat (first|apply Kd.R_alloc|apply Kd.R_drewN|apply Kd.R_drew));exact HO172.out⟩,⟨by (with_reducible repeat (first|apply Kd.R_alloc|apply Kd.R_drewN|apply Kd.R_drew));exact HO174.out⟩,⟨by repeat (first|(with_reducible first|exact HB.out|apply bA|apply bN|apply bD)|exact HB.out)⟩⟩
     ·rw [if_neg c12] at H
      have c12b0 : decide ((t168.length : Int) < (ji8)) = false:=decide_eq_false c12
      clear c12
      (first|rw [c12b0]|(simp only [i64_w,i32_w];rw [c12b0])|skip)
      by_cases c14 : (t169.length : Int) < (ji8)
      ·rw [if_pos c14] at H
       have c14b0 : decide ((t169.length : Int) < (ji8)) = true:=decide_eq_true c14
       clear c14
       have H':=Ak H
       clear H
       obtain ⟨Ao15,co15,eo15⟩:=Kd.R_slice HO172.out
       subst eo15
       obtain ⟨Ao16,co16,eo16⟩:=Kd.R_slice HO174.out
       subst eo16
       go_wp2
       go_meet
       case rel => exact ⟨_,(true),(by first|rfl|(simp;done)|(simp [*];done)),H',⟨by first|omega|exact Nat.le_refl _⟩,⟨by (with_reducible repeat (first|apply Kd.R_alloc|apply Kd.R_drewN|apply Kd.R_drew));exact HO172.out⟩,⟨by (with_reducible repeat (first|apply Kd.R_alloc|apply Kd.R_drewN|apply Kd.R_drew));exact HO174.out⟩,⟨by repeat (first|(with_reducible first|exact HB.out|apply bA|apply bN|apply bD)|exact HB.out)⟩⟩
      ·rw [if_neg c14] at H
       have c14b0 : decide ((t169.length : Int) < (ji8)) = false:=decide_eq_false c14
       clear c14
       have H':=Ak H
       clear H
       obtain ⟨Ao17,co17,eo17⟩:=Kd.R_slice HO172.out
       subst eo17
       obtain ⟨Ao18,co18,eo18⟩:=Kd.R_slice HO174.out
       subst eo18
       go_wp2
       go_meet
       case rel => exact ⟨_,(((wrap64 ((t168.length : Int)+(t169.length : Int))) != (l0.length : Int))),(by first|rfl|(simp;done)|(simp [*];done)),H',⟨by first|omega|exact Nat.le_refl _⟩,⟨by (with_reducible repeat (first|apply Kd.R_alloc|apply Kd.R_drewN|apply Kd.R_drew));exact HO172.out⟩,⟨by (with_reducible repeat (first|apply Kd.R_alloc|apply Kd.R_drewN|apply Kd.R_drew));exact HO174.out⟩,⟨by repeat (first|(with_reducible first|exact HB.out|apply bA|apply bN|apply bD)|exact HB.out)⟩⟩
    case rest =>
     clear HC9
     try clear c1
     try clear p2
     try clear c3
     try clear c4
     try clear c4b0
     try clear c4b1
     try clear p6
     try clear c7
     try clear c7b0
     try clear c7b1
     try clear c10
     try clear c12
     try clear c12b0
     try clear c14
     try clear c14b0
     obtain ⟨kq,x55_8,rfl,HA,HJ8,HO_3,HO_4,HB⟩:=hcut
     cases kq with
     | zero => exact absurd HA.out (by simp [gazetteerlaw09_KeyFair.j0])
     | succ kj8 =>
      have H:=HA.out
      clear HA
      simp only [gazetteerlaw09_KeyFair.j0] at H
      by_cases c19 : x55_8 = true
      ·subst c19
       have H1 : (some false) = some r:=by rw [if_pos rfl] at H;exact H
       clear H
       have H:=H1
       clear H1
       obtain rfl:=Option.some.inj H
       go_wp2
       go_ret
       exact ⟨by first|rfl|(simp [errW_none,errW_some] <;> rfl)|(simp only [← hji8];first|rfl|(simp [errW_none,errW_some] <;> rfl))|(simp [*,errW_none,errW_some] <;> rfl),by repeat (first|(with_reducible first|exact HB.out|apply bA|apply bN|apply bD)|exact HB.out)⟩
      ·replace c19:=Bool.eq_false_iff.mpr c19
       subst c19
       have H1 : (if 0 ≤ (l0.length : Int) then (if ((l0.length : Int) : Int).toNat ≤ 281474976710656 then ((some (([t168,t169] : List (List Int)) : List (List Int))).bind fun y178 => (gazetteerlaw09_KeyFair.l0 kj8 l0 (List.replicate ((l0.length : Int) : Int).toNat false) y178 (y178.length : Int) 0)) else (none)) else (none)) = some r:=by rw [if_neg (show ¬ (false = true) by decide)] at H;exact H
       clear H
       have H:=H1
       clear H1
       by_cases c20 : 0 ≤ (l0.length : Int)
       ·rw [if_pos c20] at H
        have c20b0:=eq_true c20
        have c20b1 : decide (0 ≤ (l0.length : Int)) = true:=decide_eq_true c20
        clear c20
        by_cases c21 : ((l0.length : Int) : Int).toNat ≤ 281474976710656
        ·rw [if_pos c21] at H
         have c21b0:=eq_true c21
         have c21b1 : decide (((l0.length : Int) : Int).toNat ≤ 281474976710656) = true:=decide_eq_true c21
         clear c21
         obtain ⟨y175,hy175⟩ : ∃ y_ : List Bool,y_ = (List.replicate ((l0.length : Int) : Int).toNat false):=⟨_,rfl⟩
         replace H : ((some (([t168,t169] : List (List Int)) : List (List Int))).bind fun y178 => (gazetteerlaw09_KeyFair.l0 kj8 l0 y175 y178 (y178.length : Int) 0)) = some r:=by first|(rw [hy175];with_reducible exact H)|(have H2_:=(Option.bind_some _ _).symm.trans H;rw [hy175];with_reducible exact H2_)|(have H2_:=(Option.bind_some _ _).symm.trans H;with_reducible exact H2_)|with_reducible exact H|(rw [hy175];exact H)|exact H
         have Ny175:=Ak hy175
         clear hy175
         obtain ⟨y178,hy178⟩ : ∃ y_ : List (List Int),y_ = (([t168,t169] : List (List Int))):=⟨_,rfl⟩
         replace H : (gazetteerlaw09_KeyFair.l0 kj8 l0 y175 y178 (y178.length : Int) 0) = some r:=by first|(rw [hy178];with_reducible exact H)|(have H2_:=(Option.bind_some _ _).symm.trans H;rw [hy178];with_reducible exact H2_)|(have H2_:=(Option.bind_some _ _).symm.trans H;with_reducible exact H2_)|with_reducible exact H|(rw [hy178];exact H)|exact H
         have Ny178:=Ak hy178
         clear hy178
         have H':=Ak H
         clear H
         go_wp2_with (first|((with_reducible refine gate_dst (N:=58) rfl ?_);(try (refine gate_guard (by rfl) ?_;dsimp only));refine Kd.R_make Kd.bool _ 4 rfl (N:=58) rfl 46 _ _ rfl (l0.length : Int) rfl rfl Try.underlying46 (.bool false) 1 info4 rfl (by decide) (by omega) false (ok:=fun _ => True) (okp:=fun _ => True) rfl (fun _ hk => hk) trivial (of_decide_eq_true (by first|(with_reducible assumption)|assumption)) (Nat.le_trans (Nat.mul_le_mul_right _ (of_decide_eq_true (by first|(with_reducible assumption)|assumption) : (l0.length : Int).toNat ≤ 281474976710656)) (by omega)) (Below.refl _ _) (Nat.le_refl _) ?_;intro v176 w22 ho23 hb hg_ hnew_;clear hg_ hnew_;(first|rw [← Ny175.out] at ho23|(simp only [Int.reduceToNat] at ho23;rw [← Ny175.out] at ho23));have n0_:=Ak (Kd.R_below (by (with_reducible repeat (first|apply Kd.R_alloc|apply Kd.R_drewN|apply Kd.R_drew));exact HO_3.out) hb);have n1_:=Ak (Kd.R_below (by (with_reducible repeat (first|apply Kd.R_alloc|apply Kd.R_drewN|apply Kd.R_drew));exact HO_4.out) hb);have n2_:=Ak (Kd.R_lower ho23 (below_size HB.out));have n3_:=Kh HB hb;clear HO_3;clear HO_4;clear HB;have HO_3:=n0_;have HO_4:=n1_;have HO177:=n2_;have HB:=n3_;clear n0_ n1_ n2_ n3_;clear hb ho23;obtain ⟨Ao24,co24,eo24⟩:=Kd.R_slice HO_3.out;subst eo24;obtain ⟨Ao25,co25,eo25⟩:=Kd.R_slice HO_4.out;subst eo25)|((with_reducible refine gate_dst (N:=61) rfl ?_);(try (refine gate_guard (by rfl) ?_;dsimp only));refine Kd.N_lit (Kd.slice 3 (Kd.int .i64)) _ 42 ?hg (N':=61) ?hd (xs:=([t168,t169] : List (List Int))) (inner:=[.slice Ao24 t168.length co24,.slice Ao25 t169.length co25]) (ok:=(fun k_ => some k_ ≠ (v176 : Value).ownBlock)) (okp:=(fun k_ => some k_ ≠ (v176 : Value).ownBlock)) ?hr ?hp (fun _ hk => hk) ((show ∀ k_,w22.heap.size ≤ k_→(fun k_ => some k_ ≠ (v176 : Value).ownBlock) k_ from fun k_ hk => Kd.fresh' (Kd.R_lt (by (with_reducible repeat (first|apply Kd.R_alloc|apply Kd.R_drewN|apply Kd.R_drew));exact HO177.out)) k_ hk) _ (Nat.le_refl _)) (Below.refl _ _) (Nat.le_refl _) (by simp) ?_;(case hd => rfl);(case hg => rfl);(case hr => first|(go_simp;done)|(go_simp;rfl));(case hp => exact (Reps.one (show Kd.FK (Kd.slice 3 (Kd.int .i64)) _ _ t168 [.slice Ao24 t168.length co24] from (Kd.FK_slice_mk (Kd.R_reads' (Kd.R_mono (ok':=(fun k_ => some k_ ≠ (v176 : Value).ownBlock)) (Kd.R_apart' (HO_3.out) (Kd.R_typed HO177.out) (by decide)) (fun k_ hk => hk.2))).2.1 (Kd.R_F (Kd.R_mono (ok':=(fun k_ => some k_ ≠ (v176 : Value).ownBlock)) (Kd.R_apart' (HO_3.out) (Kd.R_typed HO177.out) (by decide)) (fun k_ hk => hk.2))))) (Reps.one (show Kd.FK (Kd.slice 3 (Kd.int .i64)) _ _ t169 [.slice Ao25 t169.length co25] from (Kd.FK_slice_mk (Kd.R_reads' (Kd.R_mono (ok':=(fun k_ => some k_ ≠ (v176 : Value).ownBlock)) (Kd.R_apart' (HO_4.out) (Kd.R_typed HO177.out) (by decide)) (fun k_ hk => hk.2))).2.1 (Kd.R_F (Kd.R_mono (ok':=(fun k_ => some k_ ≠ (v176 : Value).ownBlock)) (Kd.R_apart' (HO_4.out) (Kd.R_typed HO177.out) (by decide)) (fun k_ hk => hk.2))))) (Reps.none _ _))));intro v179 w26 ho27 hb hg_ hnew_;clear hg_ hnew_;(first|rw [← Ny178.out] at ho27|(simp only [Int.reduceToNat] at ho27;rw [← Ny178.out] at ho27));have n0_:=Ak (Kd.R_below (by (with_reducible repeat (first|apply Kd.R_alloc|apply Kd.R_drewN|apply Kd.R_drew));exact HO177.out) hb);have n1_:=Ak (Kd.N_lower ho27 (below_size HB.out));have n2_:=Kh HB hb;clear HO177;clear HB;clear HO_3;clear HO_4;have HO177:=n0_;have HO180:=n1_;have HB:=n2_;clear n0_ n1_ n2_;clear hb ho27;obtain ⟨Ao28,co28,eo28⟩:=Kd.N_slice HO180.out;subst eo28))
         go_loopg [63] kj8 (fun kq v63 w' => ∃ (x7_2 : List Bool) (x63_2 : Int),v63 = .int .i64 x63_2∧Aside0 (gazetteerlaw09_KeyFair.l0 kq l0 x7_2 y178 (y178.length : Int) x63_2 = some r)∧Aside0 (kq ≤ kj8)∧Aside0 (Kd.R Kd.bool 4 w' w.heap.size (fun _ => True) v176 x7_2)∧Aside0 (Kd.N (Kd.slice 3 (Kd.int .i64)) 42 w' w.heap.size (fun k_ => some k_ ≠ (v176 : Value).ownBlock) (.slice Ao28 y178.length co28) y178)∧Aside0 (Below w.heap.size w w'))
         case atStart => exact ⟨(y175),(0),(by first|rfl|(simp;done)|(simp [*];done)),H',⟨Nat.le_refl _⟩,⟨by (with_reducible repeat (first|apply Kd.R_alloc|apply Kd.R_drewN|apply Kd.R_drew));exact HO177.out⟩,⟨by (with_reducible repeat (first|apply Kd.N_alloc|apply Kd.N_drewN|apply Kd.N_drew));exact HO180.out⟩,⟨by repeat (first|(with_reducible first|exact HB.out|apply bA|apply bN|apply bD)|exact HB.out)⟩⟩
         case round =>
          clear H'
          try clear c1
          try clear c2
          try clear p2
          try clear c3
          try clear c4
          try clear c4b0
          try clear c4b1
          try clear p6
          try clear c7
          try clear c7b0
          try clear c7b1
          try clear c10
          try clear c12
          try clear c12b0
          try clear c14
          try clear c14b0
          try clear c19
          try clear c20
          try clear c20b0
          try clear c20b1
          try clear c21
          try clear c21b0
          try clear c21b1
          try clear p2
          try clear p6
          obtain ⟨x7_2,x63_2,rfl,HA,HK2,HO_7,HO_61,HB⟩:=hrel
          cases gk with
          | zero => exact absurd HA.out (by simp [gazetteerlaw09_KeyFair.l0])
          | succ k2 =>
           have H:=HA.out
           clear HA
           simp only [gazetteerlaw09_KeyFair.l0] at H
           by_cases c29 : x63_2 < (y178.length : Int)
           ·rw [if_pos c29] at H
            have c29b0 : decide (x63_2 < (y178.length : Int)) = true:=decide_eq_true c29
            clear c29
            by_cases c30 : 0 ≤ x63_2
            ·rw [if_pos c30] at H
             have c30b0 : decide (0 ≤ x63_2) = true:=decide_eq_true c30
             clear c30
             by_cases c31 : x63_2 < (y178.length : Int)
             ·rw [if_pos c31] at H
              have c31b0 : decide (x63_2 < (y178.length : Int)) = true:=decide_eq_true c31
              clear c31
              have H':=Ak H
              clear H
              have p181 : 0 ≤ (x63_2 : Int):=of_decide_eq_true (by first|(with_reducible assumption)|assumption)
              have q181 : x63_2 < (y178.length : Int):=of_decide_eq_true (by first|(with_reducible assumption)|assumption)
              obtain ⟨ad181,A181_0,c181_0,e181,hx181_0,hl181_0,hi181_0⟩:=at_L7 (Kd.N_reads' HO_61.out).2.2 x63_2 p181 q181
              cases e181
              obtain ⟨ce181,hce181,hMe181,hcc181⟩:=Kd.N_get HO_61.out [] x63_2 p181 (by first|exact q181|exact of_decide_eq_true (by first|(with_reducible assumption)|assumption)|(have e_:=(Kd.N_reads' HO_61.out).1;omega))
              obtain ⟨ua181_0,uc181_0,rfl,ul181_0,ge181_0⟩:=Kd.FK_slice_open hMe181
              have hv181_0:=hcc181 0 _ rfl
              rw [Nat.add_zero,show ((Kd.slice 3 (Kd.int .i64))).sz = 1 from rfl,Nat.mul_one] at hv181_0
              replace hv181_0:=Option.some.inj (hv181_0.symm.trans hx181_0)
              injection hv181_0 with hva_ hvn_ hvc_
              rw [hva_] at ge181_0
              rw [hvc_] at ul181_0
              have HL181_0:=Ak (show Kd.V (Kd.int .i64) 3 _ w.heap.size _ _ (rd_L7 y178 x63_2) from Kd.V_mk ul181_0 ge181_0)
              clear hva_ hvn_ hvc_ ge181_0 ul181_0 hcc181 hce181
              have HR181_0:=Ak hi181_0
              have HX_:=Ak hx181_0
              have PX_:=Ak (And.intro p181 q181)
              have HC181_0:=Ak hl181_0
              clear hi181_0 hl181_0
              replace p181:=eq_true p181
              replace q181:=eq_true q181
              go_wp2
              go_loopg [69] k2 (fun kq v69 w' => ∃ (x7_3 : List Bool) (x69_3 : Int),v69 = .int .i64 x69_3∧Aside0 (gazetteerlaw09_KeyFair.l1 kq l0 x7_3 (rd_L7 y178 x63_2) y178 (y178.length : Int) x63_2 (rd_L7 y178 x63_2) ((rd_L7 y178 x63_2).length : Int) x69_3 = some r)∧Aside0 (kq ≤ k2)∧Aside0 (Kd.R Kd.bool 4 w' w.heap.size (fun _ => True) v176 x7_3)∧Aside0 (Kd.N (Kd.slice 3 (Kd.int .i64)) 42 w' w.heap.size (fun k_ => some k_ ≠ (v176 : Value).ownBlock) (.slice (some ad181) y178.length co28) y178)∧Aside0 (Below w.heap.size w w')∧Aside0 (w'.cell? (ad181.add x63_2.toNat) = some (.slice A181_0 (rd_L7 y178 x63_2).length c181_0)))
              case atStart => exact ⟨(x7_2),(0),(by first|rfl|(simp;done)|(simp [*];done)),H',⟨Nat.le_refl _⟩,⟨by (with_reducible repeat (first|apply Kd.R_alloc|apply Kd.R_drewN|apply Kd.R_drew));exact HO_7.out⟩,⟨by (with_reducible repeat (first|apply Kd.N_alloc|apply Kd.N_drewN|apply Kd.N_drew));exact HO_61.out⟩,⟨by repeat (first|(with_reducible first|exact HB.out|apply bA|apply bN|apply bD)|exact HB.out)⟩,HX_⟩
              case round =>
               clear H'
               try clear c1
               try clear p1
               try clear q1
               try clear hx1
               try clear c2
               try clear p2
               try clear c3
               try clear c4
               try clear c4b0
               try clear c4b1
               try clear p6
               try clear c7
               try clear c7b0
               try clear c7b1
               try clear c10
               try clear c12
               try clear c12b0
               try clear c14
               try clear c14b0
               try clear c18
               try clear p18
               try clear q18
               try clear hx18
               try clear c19
               try clear c20
               try clear c20b0
               try clear c20b1
               try clear c21
               try clear c21b0
               try clear c21b1
               try clear c29
               try clear c29b0
               try clear c30
               try clear c30b0
               try clear c31
               try clear c31b0
               try clear hx181_0
               try clear p181
               try clear p2
               try clear p6
               try clear q181
               clear HX_
               obtain ⟨x7_3,x69_3,rfl,HA,HK3,HO_7,HO_61,HB,HX_⟩:=hrel
               clear HR181_0
               obtain ⟨ad_,A_,c_,e_,hx_,_,hi_⟩:=at_L7 (Kd.N_reads' HO_61.out).2.2 x63_2 PX_.out.1 PX_.out.2
               injection e_ with e_
               subst e_
               have e2_:=Option.some.inj (hx_.symm.trans HX_.out)
               injection e2_ with e3_ _ _
               subst e3_
               have HR181_0:=Ak hi_
               clear hi_ hx_
               cases gk with
               | zero => exact absurd HA.out (by simp [gazetteerlaw09_KeyFair.l1])
               | succ k3 =>
                have H:=HA.out
                clear HA
                simp only [gazetteerlaw09_KeyFair.l1] at H
                by_cases c32 : x69_3 < ((rd_L7 y178 x63_2).length : Int)
                ·rw [if_pos c32] at H
                 have c32b0 : decide (x69_3 < ((rd_L7 y178 x63_2).length : Int)) = true:=decide_eq_true c32
                 clear c32
                 by_cases c33 : 0 ≤ x69_3
                 ·rw [if_pos c33] at H
                  have c33b0 : decide (0 ≤ x69_3) = true:=decide_eq_true c33
                  clear c33
                  by_cases c34 : x69_3 < ((rd_L7 y178 x63_2).length : Int)
                  ·rw [if_pos c34] at H
                   have c34b0 : decide (x69_3 < ((rd_L7 y178 x63_2).length : Int)) = true:=decide_eq_true c34
                   clear c34
                   by_cases c35 : (rd (rd_L7 y178 x63_2) x69_3) < 0
                   ·rw [if_pos c35] at H
                    have c35b0 : decide ((rd (rd_L7 y178 x63_2) x69_3) < 0) = true:=decide_eq_true c35
                    clear c35
                    obtain rfl:=Option.some.inj H
                    have p182 : 0 ≤ (x69_3 : Int):=of_decide_eq_true (by first|(with_reducible assumption)|assumption)
                    have q182 : x69_3 < ((rd_L7 y178 x63_2).length : Int):=of_decide_eq_true (by first|(with_reducible assumption)|assumption)
                    obtain ⟨ad182,e182,hx182_0⟩:=Kd.at_int HR181_0.out x69_3 p182 q182
                    cases e182
                    try (replace hx182_0:=(HB.out.cell (World.block_lt_of_cell? w _ hx182_0)).trans hx182_0)
                    replace p182:=eq_true p182
                    replace q182:=eq_true q182
                    go_wp2
                    go_ret
                    exact ⟨by first|rfl|(simp [errW_none,errW_some] <;> rfl)|(simp only [← hji8];first|rfl|(simp [errW_none,errW_some] <;> rfl))|(simp [*,errW_none,errW_some] <;> rfl),by repeat (first|(with_reducible first|exact HB.out|apply bA|apply bN|apply bD)|exact HB.out)⟩
                   ·rw [if_neg c35] at H
                    have c35b0 : decide ((rd (rd_L7 y178 x63_2) x69_3) < 0) = false:=decide_eq_false c35
                    clear c35
                    by_cases c36 : (rd (rd_L7 y178 x63_2) x69_3) ≥ (l0.length : Int)
                    ·rw [if_pos c36] at H
                     have c36b0 : decide ((l0.length : Int) ≤ (rd (rd_L7 y178 x63_2) x69_3)) = true:=decide_eq_true c36
                     clear c36
                     obtain rfl:=Option.some.inj H
                     have p182 : 0 ≤ (x69_3 : Int):=of_decide_eq_true (by first|(with_reducible assumption)|assumption)
                     have q182 : x69_3 < ((rd_L7 y178 x63_2).length : Int):=of_decide_eq_true (by first|(with_reducible assumption)|assumption)
                     obtain ⟨ad182,e182,hx182_0⟩:=Kd.at_int HR181_0.out x69_3 p182 q182
                     cases e182
                     try (replace hx182_0:=(HB.out.cell (World.block_lt_of_cell? w _ hx182_0)).trans hx182_0)
                     replace p182:=eq_true p182
                     replace q182:=eq_true q182
                     go_wp2
                     go_ret
                     exact ⟨by first|rfl|(simp [errW_none,errW_some] <;> rfl)|(simp only [← hji8];first|rfl|(simp [errW_none,errW_some] <;> rfl))|(simp [*,errW_none,errW_some] <;> rfl),by repeat (first|(with_reducible first|exact HB.out|apply bA|apply bN|apply bD)|exact HB.out)⟩
                    ·rw [if_neg c36] at H
                     have c36b0 : decide ((l0.length : Int) ≤ (rd (rd_L7 y178 x63_2) x69_3)) = false:=decide_eq_false c36
                     clear c36
                     by_cases c37 : 0 ≤ (rd (rd_L7 y178 x63_2) x69_3)
                     ·rw [if_pos c37] at H
                      have c37b0 : decide (0 ≤ (rd (rd_L7 y178 x63_2) x69_3)) = true:=decide_eq_true c37
                      clear c37
                      by_cases c38 : (rd (rd_L7 y178 x63_2) x69_3) < (x7_3.length : Int)
                      ·rw [if_pos c38] at H
                       have c38b0 : decide ((rd (rd_L7 y178 x63_2) x69_3) < (x7_3.length : Int)) = true:=decide_eq_true c38
                       clear c38
                       obtain ⟨bq39,hbq39⟩ : ∃ b_ : Bool,b_ = (rdOf false x7_3 (rd (rd_L7 y178 x63_2) x69_3)):=⟨_,rfl⟩
                       replace H : (if bq39 = true then (some false) else (if x69_3 > 0 then (if 0 ≤ (wrap64 (x69_3 - 1)) then (if (wrap64 (x69_3 - 1)) < ((rd_L7 y178 x63_2).length : Int) then (if (rd (rd_L7 y178 x63_2) (wrap64 (x69_3 - 1))) ≥ (rd (rd_L7 y178 x63_2) x69_3) then (some false) else (gazetteerlaw09_KeyFair.l1 k3 l0 (x7_3.set ((rd (rd_L7 y178 x63_2) x69_3) : Int).toNat true) (rd_L7 y178 x63_2) y178 (y178.length : Int) x63_2 (rd_L7 y178 x63_2) ((rd_L7 y178 x63_2).length : Int) (wrap64 (x69_3+1)))) else (none)) else (none)) else (gazetteerlaw09_KeyFair.l1 k3 l0 (x7_3.set ((rd (rd_L7 y178 x63_2) x69_3) : Int).toNat true) (rd_L7 y178 x63_2) y178 (y178.length : Int) x63_2 (rd_L7 y178 x63_2) ((rd_L7 y178 x63_2).length : Int) (wrap64 (x69_3+1))))) = some r:=by rw [← hbq39] at H;exact H
                       have Nbq39:=Ak hbq39
                       clear hbq39
                       by_cases c40 : bq39 = true
                       ·subst c40
                        have H1 : (some false) = some r:=by rw [if_pos rfl] at H;exact H
                        clear H
                        have H:=H1
                        clear H1
                        obtain rfl:=Option.some.inj H
                        have p182 : 0 ≤ (x69_3 : Int):=of_decide_eq_true (by first|(with_reducible assumption)|assumption)
                        have q182 : x69_3 < ((rd_L7 y178 x63_2).length : Int):=of_decide_eq_true (by first|(with_reducible assumption)|assumption)
                        obtain ⟨ad182,e182,hx182_0⟩:=Kd.at_int HR181_0.out x69_3 p182 q182
                        cases e182
                        try (replace hx182_0:=(HB.out.cell (World.block_lt_of_cell? w _ hx182_0)).trans hx182_0)
                        replace p182:=eq_true p182
                        replace q182:=eq_true q182
                        obtain ⟨Ao41,co41,eo41⟩:=Kd.R_slice HO_7.out
                        subst eo41
                        have p183 : 0 ≤ ((rd (rd_L7 y178 x63_2) x69_3) : Int):=of_decide_eq_true (by first|(with_reducible assumption)|assumption)
                        have q183 : (rd (rd_L7 y178 x63_2) x69_3) < (x7_3.length : Int):=of_decide_eq_true (by first|(with_reducible assumption)|assumption)
                        obtain ⟨ad183,e183,hx183_0⟩:=Kd.at_bool (Kd.R_reads' HO_7.out).2.2 (rd (rd_L7 y178 x63_2) x69_3) p183 q183
                        (try rw [← Nbq39.out] at hx183_0)
                        cases e183
                        replace p183:=eq_true p183
                        replace q183:=eq_true q183
                        go_wp2
                        go_ret
                        exact ⟨by first|rfl|(simp [errW_none,errW_some] <;> rfl)|(simp only [← hji8];first|rfl|(simp [errW_none,errW_some] <;> rfl))|(simp [*,errW_none,errW_some] <;> rfl),by repeat (first|(with_reducible first|exact HB.out|apply bA|apply bN|apply bD)|exact HB.out)⟩
                       ·replace c40:=Bool.eq_false_iff.mpr c40
                        subst c40
                        have H1 : (if x69_3 > 0 then (if 0 ≤ (wrap64 (x69_3 - 1)) then (if (wrap64 (x69_3 - 1)) < ((rd_L7 y178 x63_2).length : Int) then (if (rd (rd_L7 y178 x63_2) (wrap64 (x69_3 - 1))) ≥ (rd (rd_L7 y178 x63_2) x69_3) then (some false) else (gazetteerlaw09_KeyFair.l1 k3 l0 (x7_3.set ((rd (rd_L7 y178 x63_2) x69_3) : Int).toNat true) (rd_L7 y178 x63_2) y178 (y178.length : Int) x63_2 (rd_L7 y178 x63_2) ((rd_L7 y178 x63_2).length : Int) (wrap64 (x69_3+1)))) else (none)) else (none)) else (gazetteerlaw09_KeyFair.l1 k3 l0 (x7_3.set ((rd (rd_L7 y178 x63_2) x69_3) : Int).toNat true) (rd_L7 y178 x63_2) y178 (y178.length : Int) x63_2 (rd_L7 y178 x63_2) ((rd_L7 y178 x63_2).length : Int) (wrap64 (x69_3+1)))) = some r:=by rw [if_neg (show ¬ (false = true) by decide)] at H;exact H
                        clear H
                        have H:=H1
                        clear H1
                        by_cases c42 : x69_3 > 0
                        ·rw [if_pos c42] at H
                         have c42b0 : decide (0 < x69_3) = true:=decide_eq_true c42
                         clear c42
                         obtain ⟨ji43,hji43⟩ : ∃ j_ : Int,(wrap64 (x69_3 - 1)) = j_:=⟨_,rfl⟩
                         replace H : (if 0 ≤ (ji43) then (if (ji43) < ((rd_L7 y178 x63_2).length : Int) then (if (rd (rd_L7 y178 x63_2) (ji43)) ≥ (rd (rd_L7 y178 x63_2) x69_3) then (some false) else (gazetteerlaw09_KeyFair.l1 k3 l0 (x7_3.set ((rd (rd_L7 y178 x63_2) x69_3) : Int).toNat true) (rd_L7 y178 x63_2) y178 (y178.length : Int) x63_2 (rd_L7 y178 x63_2) ((rd_L7 y178 x63_2).length : Int) (wrap64 (x69_3+1)))) else (none)) else (none)) = some r:=by first|(rw [hji43] at H;exact H)|(simp only [hji43] at H ⊢;exact H)
                         have hji43w : (IntKind.i64.wrap (x69_3 - 1)) = ji43:=(i64_w _).trans hji43
                         by_cases c44 : 0 ≤ (ji43)
                         ·rw [if_pos c44] at H
                          have c44b0 : decide (0 ≤ (ji43)) = true:=decide_eq_true c44
                          clear c44
                          by_cases c45 : (ji43) < ((rd_L7 y178 x63_2).length : Int)
                          ·rw [if_pos c45] at H
                           have c45b0 : decide ((ji43) < ((rd_L7 y178 x63_2).length : Int)) = true:=decide_eq_true c45
                           clear c45
                           by_cases c46 : (rd (rd_L7 y178 x63_2) (ji43)) ≥ (rd (rd_L7 y178 x63_2) x69_3)
                           ·rw [if_pos c46] at H
                            have c46b0 : decide ((rd (rd_L7 y178 x63_2) x69_3) ≤ (rd (rd_L7 y178 x63_2) (ji43))) = true:=decide_eq_true c46
                            clear c46
                            obtain rfl:=Option.some.inj H
                            have p182 : 0 ≤ (x69_3 : Int):=of_decide_eq_true (by first|(with_reducible assumption)|assumption)
                            have q182 : x69_3 < ((rd_L7 y178 x63_2).length : Int):=of_decide_eq_true (by first|(with_reducible assumption)|assumption)
                            obtain ⟨ad182,e182,hx182_0⟩:=Kd.at_int HR181_0.out x69_3 p182 q182
                            cases e182
                            try (replace hx182_0:=(HB.out.cell (World.block_lt_of_cell? w _ hx182_0)).trans hx182_0)
                            replace p182:=eq_true p182
                            replace q182:=eq_true q182
                            obtain ⟨Ao47,co47,eo47⟩:=Kd.R_slice HO_7.out
                            subst eo47
                            have p183 : 0 ≤ ((rd (rd_L7 y178 x63_2) x69_3) : Int):=of_decide_eq_true (by first|(with_reducible assumption)|assumption)
                            have q183 : (rd (rd_L7 y178 x63_2) x69_3) < (x7_3.length : Int):=of_decide_eq_true (by first|(with_reducible assumption)|assumption)
                            obtain ⟨ad183,e183,hx183_0⟩:=Kd.at_bool (Kd.R_reads' HO_7.out).2.2 (rd (rd_L7 y178 x63_2) x69_3) p183 q183
                            (try rw [← Nbq39.out] at hx183_0)
                            cases e183
                            replace p183:=eq_true p183
                            replace q183:=eq_true q183
                            have p184 : 0 ≤ ((ji43) : Int):=of_decide_eq_true (by first|(with_reducible assumption)|assumption)
                            have q184 : (ji43) < ((rd_L7 y178 x63_2).length : Int):=of_decide_eq_true (by first|(with_reducible assumption)|assumption)
                            obtain ⟨ad184,e184,hx184_0⟩:=Kd.at_int HR181_0.out (ji43) p184 q184
                            obtain rfl : ad182 = ad184:=(by injection e184)
                            try (replace hx184_0:=(HB.out.cell (World.block_lt_of_cell? w _ hx184_0)).trans hx184_0)
                            replace p184:=eq_true p184
                            replace q184:=eq_true q184
                            go_wp2
                            go_ret
                            exact ⟨by first|rfl|(simp [errW_none,errW_some] <;> rfl)|(simp only [← hji8,← hji43];first|rfl|(simp [errW_none,errW_some] <;> rfl))|(simp [*,errW_none,errW_some] <;> rfl),by repeat (first|(with_reducible first|exact HB.out|apply bA|apply bN|apply bD)|exact HB.out)⟩
                           ·rw [if_neg c46] at H
                            have c46b0 : decide ((rd (rd_L7 y178 x63_2) x69_3) ≤ (rd (rd_L7 y178 x63_2) (ji43))) = false:=decide_eq_false c46
                            clear c46
                            obtain ⟨y185,hy185⟩ : ∃ y_ : List Bool,y_ = (x7_3.set ((rd (rd_L7 y178 x63_2) x69_3) : Int).toNat true):=⟨_,rfl⟩
                            replace H : (gazetteerlaw09_KeyFair.l1 k3 l0 y185 (rd_L7 y178 x63_2) y178 (y178.length : Int) x63_2 (rd_L7 y178 x63_2) ((rd_L7 y178 x63_2).length : Int) (wrap64 (x69_3+1))) = some r:=by first|(rw [hy185];with_reducible exact H)|(have H2_:=(Option.bind_some _ _).symm.trans H;rw [hy185];with_reducible exact H2_)|(have H2_:=(Option.bind_some _ _).symm.trans H;with_reducible exact H2_)|with_reducible exact H|(rw [hy185];exact H)|exact H
                            have Ny185:=Ak hy185
                            clear hy185
                            have H':=Ak H
                            clear H
                            have p182 : 0 ≤ (x69_3 : Int):=of_decide_eq_true (by first|(with_reducible assumption)|assumption)
                            have q182 : x69_3 < ((rd_L7 y178 x63_2).length : Int):=of_decide_eq_true (by first|(with_reducible assumption)|assumption)
                            obtain ⟨ad182,e182,hx182_0⟩:=Kd.at_int HR181_0.out x69_3 p182 q182
                            cases e182
                            try (replace hx182_0:=(HB.out.cell (World.block_lt_of_cell? w _ hx182_0)).trans hx182_0)
                            replace p182:=eq_true p182
                            replace q182:=eq_true q182
                            obtain ⟨Ao49,co49,eo49⟩:=Kd.R_slice HO_7.out
                            subst eo49
                            have p183 : 0 ≤ ((rd (rd_L7 y178 x63_2) x69_3) : Int):=of_decide_eq_true (by first|(with_reducible assumption)|assumption)
                            have q183 : (rd (rd_L7 y178 x63_2) x69_3) < (x7_3.length : Int):=of_decide_eq_true (by first|(with_reducible assumption)|assumption)
                            obtain ⟨ad183,e183,hx183_0⟩:=Kd.at_bool (Kd.R_reads' HO_7.out).2.2 (rd (rd_L7 y178 x63_2) x69_3) p183 q183
                            (try rw [← Nbq39.out] at hx183_0)
                            cases e183
                            replace p183:=eq_true p183
                            replace q183:=eq_true q183
                            have p184 : 0 ≤ ((ji43) : Int):=of_decide_eq_true (by first|(with_reducible assumption)|assumption)
                            have q184 : (ji43) < ((rd_L7 y178 x63_2).length : Int):=of_decide_eq_true (by first|(with_reducible assumption)|assumption)
                            obtain ⟨ad184,e184,hx184_0⟩:=Kd.at_int HR181_0.out (ji43) p184 q184
                            obtain rfl : ad182 = ad184:=(by injection e184)
                            try (replace hx184_0:=(HB.out.cell (World.block_lt_of_cell? w _ hx184_0)).trans hx184_0)
                            replace p184:=eq_true p184
                            replace q184:=eq_true q184
                            have p48 : 0 ≤ ((rd (rd_L7 y178 x63_2) x69_3) : Int):=of_decide_eq_true (by first|(with_reducible assumption)|assumption)
                            have q48 : ((rd (rd_L7 y178 x63_2) x69_3) : Int) < ((x7_3.length : Int) : Int):=of_decide_eq_true (by first|(with_reducible assumption)|assumption)
                            obtain ⟨go48,co48,eo48,gb48,gl48,cl48,HG48⟩:=Kd.R_form HO_7.out (by omega)
                            (first|cases eo48|(injection eo48 with ea_ en_ ec_;(first|subst ea_|(injection ea_ with ea_;subst ea_));subst ec_;clear en_))
                            have GB48:=Ak gb48
                            have GG48:=Ak HG48
                            clear gb48 gl48 HG48
                            (first|simp only [add_plain] at hx183_0|skip)
                            obtain ⟨hx48_0,hf48_0⟩:=Kd.R_celln false HO_7.out ((rd (rd_L7 y178 x63_2) x69_3) : Int) p48 q48
                            replace p48:=eq_true p48
                            replace q48:=eq_true q48
                            have HP50:=Kd.R_putg HO_7.out ((rd (rd_L7 y178 x63_2) x69_3) : Int) true
                            go_wp2_with (first|((with_reducible refine gate_store (t:=4) (p:=103) rfl ?_);refine store_event (t:=4) (p:=103) (v:=?vo_w51) (w1:=(wr.setCell ⟨go48,((rd (rd_L7 y178 x63_2) x69_3) : Int).toNat,none⟩ (.bool true))) ?hg ?ho ?hn ?hr ?_;(case ho => rfl);(case hg => rfl);(case hn => rfl);(case hr => first|(go_simp;done)|(go_simp;rfl));intro w51 hw;have hg : wr.grownBy w51 (some go48):=(by rw [hw];exact HP50.2);have hp_ : Kd.R Kd.bool 4 w51 w.heap.size (fun _ => True) (.slice (some ⟨go48,0,none⟩) x7_3.length co49) y185:=(by rw [hw,Ny185.out];exact HP50.1);clear HP50;have HXn_:=Ak (nest_keep HO_61.out hg (fun k_ hk_ e_ => hk_ (by rw [e_];rfl)) HX_.out (by have:=PX_.out;omega));have n0_:=Ak (hp_);have n1_:=Ak (Kd.N_afterv (v:=(.slice (some ⟨go48,0,none⟩) x7_3.length co49)) (v1:=(.slice (some ⟨go48,0,none⟩) x7_3.length co49)) (ok:=(fun _ => True)) (by (with_reducible repeat (first|apply Kd.N_alloc|apply Kd.N_drewN|apply Kd.N_drew));exact Kd.N_mono HO_61.out (fun _ hk => ⟨trivial,hk⟩)) hg (.inl rfl));have n2_:=Ak ((by rw [hw];exact bS (HB.out) GB48.out : Below w.heap.size w w51));clear HO_7;clear HO_61;clear HB;have HO_7:=n0_;have HO_61:=n1_;have HB:=n2_;clear n0_ n1_ n2_;clear hg hw hp_))
                            go_roundg k3
                            case measure => have:=HJ8.out;have:=HK2.out;have:=HK3.out;omega
                            case rel => exact ⟨(y185),(wrap64 (x69_3+1)),(by first|rfl|(simp;done)|(simp [*];done)),H',⟨by have:=HJ8.out;have:=HK2.out;have:=HK3.out;omega⟩,⟨by (with_reducible repeat (first|apply Kd.R_alloc|apply Kd.R_drewN|apply Kd.R_drew));exact HO_7.out⟩,⟨by (with_reducible repeat (first|apply Kd.N_alloc|apply Kd.N_drewN|apply Kd.N_drew));exact Kd.N_mono HO_61.out (fun _ hk => hk.2)⟩,⟨by repeat (first|(with_reducible first|exact HB.out|apply bA|apply bN|apply bD)|exact HB.out)⟩,HXn_⟩
                          ·rw [if_neg c45] at H
                           exact absurd H (by simp)
                         ·rw [if_neg c44] at H
                          exact absurd H (by simp)
                        ·rw [if_neg c42] at H
                         have c42b0 : decide (0 < x69_3) = false:=decide_eq_false c42
                         clear c42
                         obtain ⟨y186,hy186⟩ : ∃ y_ : List Bool,y_ = (x7_3.set ((rd (rd_L7 y178 x63_2) x69_3) : Int).toNat true):=⟨_,rfl⟩
                         replace H : (gazetteerlaw09_KeyFair.l1 k3 l0 y186 (rd_L7 y178 x63_2) y178 (y178.length : Int) x63_2 (rd_L7 y178 x63_2) ((rd_L7 y178 x63_2).length : Int) (wrap64 (x69_3+1))) = some r:=by first|(rw [hy186];with_reducible exact H)|(have H2_:=(Option.bind_some _ _).symm.trans H;rw [hy186];with_reducible exact H2_)|(have H2_:=(Option.bind_some _ _).symm.trans H;with_reducible exact H2_)|with_reducible exact H|(rw [hy186];exact H)|exact H
                         have Ny186:=Ak hy186
                         clear hy186
                         have H':=Ak H
                         clear H
                         have p182 : 0 ≤ (x69_3 : Int):=of_decide_eq_true (by first|(with_reducible assumption)|assumption)
                         have q182 : x69_3 < ((rd_L7 y178 x63_2).length : Int):=of_decide_eq_true (by first|(with_reducible assumption)|assumption)
                         obtain ⟨ad182,e182,hx182_0⟩:=Kd.at_int HR181_0.out x69_3 p182 q182
                         cases e182
                         try (replace hx182_0:=(HB.out.cell (World.block_lt_of_cell? w _ hx182_0)).trans hx182_0)
                         replace p182:=eq_true p182
                         replace q182:=eq_true q182
                         obtain ⟨Ao53,co53,eo53⟩:=Kd.R_slice HO_7.out
                         subst eo53
                         have p183 : 0 ≤ ((rd (rd_L7 y178 x63_2) x69_3) : Int):=of_decide_eq_true (by first|(with_reducible assumption)|assumption)
                         have q183 : (rd (rd_L7 y178 x63_2) x69_3) < (x7_3.length : Int):=of_decide_eq_true (by first|(with_reducible assumption)|assumption)
                         obtain ⟨ad183,e183,hx183_0⟩:=Kd.at_bool (Kd.R_reads' HO_7.out).2.2 (rd (rd_L7 y178 x63_2) x69_3) p183 q183
                         (try rw [← Nbq39.out] at hx183_0)
                         cases e183
                         replace p183:=eq_true p183
                         replace q183:=eq_true q183
                         have p52 : 0 ≤ ((rd (rd_L7 y178 x63_2) x69_3) : Int):=of_decide_eq_true (by first|(with_reducible assumption)|assumption)
                         have q52 : ((rd (rd_L7 y178 x63_2) x69_3) : Int) < ((x7_3.length : Int) : Int):=of_decide_eq_true (by first|(with_reducible assumption)|assumption)
                         obtain ⟨go52,co52,eo52,gb52,gl52,cl52,HG52⟩:=Kd.R_form HO_7.out (by omega)
                         (first|cases eo52|(injection eo52 with ea_ en_ ec_;(first|subst ea_|(injection ea_ with ea_;subst ea_));subst ec_;clear en_))
                         have GB52:=Ak gb52
                         have GG52:=Ak HG52
                         clear gb52 gl52 HG52
                         (first|simp only [add_plain] at hx183_0|skip)
                         obtain ⟨hx52_0,hf52_0⟩:=Kd.R_celln false HO_7.out ((rd (rd_L7 y178 x63_2) x69_3) : Int) p52 q52
                         replace p52:=eq_true p52
                         replace q52:=eq_true q52
                         have HP54:=Kd.R_putg HO_7.out ((rd (rd_L7 y178 x63_2) x69_3) : Int) true
                         go_wp2_with (first|((with_reducible refine gate_store (t:=4) (p:=103) rfl ?_);refine store_event (t:=4) (p:=103) (v:=?vo_w55) (w1:=(wr.setCell ⟨go52,((rd (rd_L7 y178 x63_2) x69_3) : Int).toNat,none⟩ (.bool true))) ?hg ?ho ?hn ?hr ?_;(case ho => rfl);(case hg => rfl);(case hn => rfl);(case hr => first|(go_simp;done)|(go_simp;rfl));intro w55 hw;have hg : wr.grownBy w55 (some go52):=(by rw [hw];exact HP54.2);have hp_ : Kd.R Kd.bool 4 w55 w.heap.size (fun _ => True) (.slice (some ⟨go52,0,none⟩) x7_3.length co53) y186:=(by rw [hw,Ny186.out];exact HP54.1);clear HP54;have HXn_:=Ak (nest_keep HO_61.out hg (fun k_ hk_ e_ => hk_ (by rw [e_];rfl)) HX_.out (by have:=PX_.out;omega));have n0_:=Ak (hp_);have n1_:=Ak (Kd.N_afterv (v:=(.slice (some ⟨go52,0,none⟩) x7_3.length co53)) (v1:=(.slice (some ⟨go52,0,none⟩) x7_3.length co53)) (ok:=(fun _ => True)) (by (with_reducible repeat (first|apply Kd.N_alloc|apply Kd.N_drewN|apply Kd.N_drew));exact Kd.N_mono HO_61.out (fun _ hk => ⟨trivial,hk⟩)) hg (.inl rfl));have n2_:=Ak ((by rw [hw];exact bS (HB.out) GB52.out : Below w.heap.size w w55));clear HO_7;clear HO_61;clear HB;have HO_7:=n0_;have HO_61:=n1_;have HB:=n2_;clear n0_ n1_ n2_;clear hg hw hp_))
                         go_roundg k3
                         case measure => have:=HJ8.out;have:=HK2.out;have:=HK3.out;omega
                         case rel => exact ⟨(y186),(wrap64 (x69_3+1)),(by first|rfl|(simp;done)|(simp [*];done)),H',⟨by have:=HJ8.out;have:=HK2.out;have:=HK3.out;omega⟩,⟨by (with_reducible repeat (first|apply Kd.R_alloc|apply Kd.R_drewN|apply Kd.R_drew));exact HO_7.out⟩,⟨by (with_reducible repeat (first|apply Kd.N_alloc|apply Kd.N_drewN|apply Kd.N_drew));exact Kd.N_mono HO_61.out (fun _ hk => hk.2)⟩,⟨by repeat (first|(with_reducible first|exact HB.out|apply bA|apply bN|apply bD)|exact HB.out)⟩,HXn_⟩
                      ·rw [if_neg c38] at H
                       exact absurd H (by simp)
                     ·rw [if_neg c37] at H
                      exact absurd H (by simp)
                  ·rw [if_neg c34] at H
                   exact absurd H (by simp)
                 ·rw [if_neg c33] at H
                  exact absurd H (by simp)
                ·rw [if_neg c32] at H
                 have c32b0 : decide (x69_3 < ((rd_L7 y178 x63_2).length : Int)) = false:=decide_eq_false c32
                 clear c32
                 have H':=Ak H
                 clear H
                 go_wp2
                 go_roundg k3
                 case measure => have:=HJ8.out;have:=HK2.out;have:=HK3.out;omega
                 case rel => exact ⟨(x7_3),(wrap64 (x63_2+1)),(by first|rfl|(simp;done)|(simp [*];done)),H',⟨by have:=HJ8.out;have:=HK2.out;have:=HK3.out;omega⟩,⟨by (with_reducible repeat (first|apply Kd.R_alloc|apply Kd.R_drewN|apply Kd.R_drew));exact HO_7.out⟩,⟨by (with_reducible repeat (first|apply Kd.N_alloc|apply Kd.N_drewN|apply Kd.N_drew));exact HO_61.out⟩,⟨by repeat (first|(with_reducible first|exact HB.out|apply bA|apply bN|apply bD)|exact HB.out)⟩⟩
             ·rw [if_neg c31] at H
              exact absurd H (by simp)
            ·rw [if_neg c30] at H
             exact absurd H (by simp)
           ·rw [if_neg c29] at H
            have c29b0 : decide (x63_2 < (y178.length : Int)) = false:=decide_eq_false c29
            clear c29
            obtain rfl:=Option.some.inj H
            go_wp2
            go_ret
            exact ⟨by first|rfl|(simp [errW_none,errW_some] <;> rfl)|(simp only [← hji8];first|rfl|(simp [errW_none,errW_some] <;> rfl))|(simp [*,errW_none,errW_some] <;> rfl),by repeat (first|(with_reducible first|exact HB.out|apply bA|apply bN|apply bD)|exact HB.out)⟩
        ·rw [if_neg c21] at H
         exact absurd H (by simp)
       ·rw [if_neg c20] at H
        exact absurd H (by simp)
   ·rw [if_neg c7] at H
    have c7b0 : (t170 == 0) = false:=beq_eq_false_iff_ne.mpr c7
    have c7b1 : (t170 != 0) = true:=bne_iff_ne.mpr c7
    obtain rfl:=Option.some.inj H
    go_enter Try.func10,Try.ntmps10
    go_wp2_with (first|((with_reducible refine gate_callee (f:=32) rfl ?_);refine goesL_ (some 12) rfl rfl Try.func32 (by kernel_rfl) rfl #[] rfl (by (try simp only [List.map_toArray,List.map_cons,List.map_nil]);first|done|rfl|(simp only [List.length_drop,List.length_take];rfl)) ?_;(with_reducible refine (gazetteerlaw09_wakes.calls k  true _ A2.out).mono ?_);rintro e w56 ⟨rfl,hb⟩;refine ⟨_,rfl,?_⟩;have n0_:=Kh HB hb;clear HB;have HB:=n0_;clear n0_;(try clear hb);(try clear hb2);(try clear hk);(try clear hi))|((with_reducible refine gate_callee (f:=33) rfl ?_);refine goesL_ (some 19) rfl rfl Try.func33 (by kernel_rfl) rfl #[.slice A0 l0.length c0] rfl (by (try simp only [List.map_toArray,List.map_cons,List.map_nil]);first|done|rfl|(simp only [List.length_drop,List.length_take];rfl)) ?_;(with_reducible refine (key_Part.calls k _ _ l0 t168 t169 t170 _ ?side1 ?side2 A6.out).mono ?_);(case side1 => repeat (first|exact (Kd.C_below HR0.out HB.out)|(with_reducible refine Kd.C_alloc ?_ _)|(with_reducible refine Kd.C_drewN ?_ _)|(with_reducible refine Kd.C_drew ?_)));(case side2 => exact HC0.out);rintro e w57 ⟨v171,v173,rfl,ho0,ho1,hb⟩;refine ⟨_,rfl,?_⟩;have n0_:=Ak (Kd.R_lower ho0 (below_size HB.out));have n1_:=Ak (Kd.R_lower ho1 (below_size HB.out));have n2_:=Kh HB hb;clear HB;have HO172:=n0_;have HO174:=n1_;have HB:=n2_;clear n0_ n1_ n2_;(try clear hb);(try clear hb2);(try clear hk);(try clear hi);(try clear ho0);(try clear ho1);obtain ⟨Ao58,co58,eo58⟩:=Kd.R_slice HO172.out;subst eo58;obtain ⟨Ao59,co59,eo59⟩:=Kd.R_slice HO174.out;subst eo59))
    go_ret
    exact ⟨by first|rfl|(simp [errW_none,errW_some] <;> rfl)|(simp [*,errW_none,errW_some] <;> rfl),by repeat (first|(with_reducible first|exact HB.out|apply bA|apply bN|apply bD)|exact HB.out)⟩
 ·replace c3:=Bool.eq_false_iff.mpr c3
  subst c3
  have H1 : (some false) = some r:=by rw [if_neg (show ¬ (false = true) by decide)] at H;exact H
  clear H
  have H:=H1
  clear H1
  obtain rfl:=Option.some.inj H
  go_enter Try.func10,Try.ntmps10
  go_wp2_with (first|((with_reducible refine gate_callee (f:=32) rfl ?_);refine goesL_ (some 12) rfl rfl Try.func32 (by kernel_rfl) rfl #[] rfl (by (try simp only [List.map_toArray,List.map_cons,List.map_nil]);first|done|rfl|(simp only [List.length_drop,List.length_take];rfl)) ?_;(with_reducible refine (gazetteerlaw09_wakes.calls k  false _ A2.out).mono ?_);rintro e w60 ⟨rfl,hb⟩;refine ⟨_,rfl,?_⟩;have n0_:=Kh HB hb;clear HB;have HB:=n0_;clear n0_;(try clear hb);(try clear hb2);(try clear hk);(try clear hi)))
  go_ret
  exact ⟨by first|rfl|(simp [errW_none,errW_some] <;> rfl)|(simp [*,errW_none,errW_some] <;> rfl),by repeat (first|(with_reducible first|exact HB.out|apply bA|apply bN|apply bD)|exact HB.out)⟩
end Go.Proofs.Ythlhmijgbjcloaa.A
end
section
namespace Go.Proofs.Ythlhmijgbjcloaa.A
open Go.RowKit Go.Proofs.YthlhmijgbjcloaaW.PrintWords Go.Proofs.YthlhmijgbjcloaaW.PrintLast Go.Proofs.YthlhmijgbjcloaaW.PrintMore
attribute [local go_sem] max2_int min2_int max_two min_two max_three min_three max_four min_four   -- for this text's walks alone
def wf41 (l : List (S35)) : Prop := l.length ≤ maxLen ∧ ∀ a ∈ l, wf35 a
theorem op41 : Opens 41 (Kd.slice 35 k35) wf41 := Opens.slice Try.underlying41 (by kernel_rfl) op35
end Go.Proofs.Ythlhmijgbjcloaa.A
end
section
namespace Go.Proofs.Ythlhmijgbjcloaa.A
open Go.RowKit Go.Proofs.YthlhmijgbjcloaaW.PrintWords Go.Proofs.YthlhmijgbjcloaaW.PrintLast Go.Proofs.YthlhmijgbjcloaaW.PrintMore
attribute [local go_sem] max2_int min2_int max_two min_two max_three min_three max_four min_four   -- for this text's walks alone
def gazetteerref07_Cmp.f (a0_0 : Int) (a0_1 : Int) (a1_0 : Int) (a1_1 : Int) : Option Int := cmpF a0_0 a0_1 a1_0 a1_1
end Go.Proofs.Ythlhmijgbjcloaa.A
end
section
namespace Go.Proofs.Ythlhmijgbjcloaa.A
open Go.RowKit Go.Proofs.YthlhmijgbjcloaaW.PrintWords Go.Proofs.YthlhmijgbjcloaaW.PrintLast Go.Proofs.YthlhmijgbjcloaaW.PrintMore
attribute [local go_sem] max2_int min2_int max_two min_two max_three min_three max_four min_four   -- for this text's walks alone
def gazetteerref09_Box.f (a0_0 : Int) (a0_1 : Int) (a0_2 : Int) (a0_3 : Int) : Option (Bool) := if a0_0 ≤ a0_1 then (some (decide (a0_2 ≤ a0_3))) else (some false)
mutual
def gazetteerref09_Union.j0 : Nat → Bool → Int → Int → Int → Int → Int → Int → Int → Int → Option (Int × Int × Int × Int)
  | 0, _, _, _, _, _, _, _, _, _ => none
  | k + 1, x12, x248000, x248001, x248002, x248003, x249000, x249001, x249002, x249003 => if x12 = true then (some (0, 0, 0, 0)) else (if x249000 < x248000 then (gazetteerref09_Union.j1 k x249000 x248001 x248002 x248003 x249000 x249001 x249002 x249003) else (gazetteerref09_Union.j1 k x248000 x248001 x248002 x248003 x249000 x249001 x249002 x249003))
def gazetteerref09_Union.j1 : Nat → Int → Int → Int → Int → Int → Int → Int → Int → Option (Int × Int × Int × Int)
  | 0, _, _, _, _, _, _, _, _ => none
  | k + 1, x248000, x248001, x248002, x248003, x249000, x249001, x249002, x249003 => if x249001 > x248001 then (gazetteerref09_Union.j2 k x248000 x249001 x248002 x248003 x249000 x249001 x249002 x249003) else (gazetteerref09_Union.j2 k x248000 x248001 x248002 x248003 x249000 x249001 x249002 x249003)
def gazetteerref09_Union.j2 : Nat → Int → Int → Int → Int → Int → Int → Int → Int → Option (Int × Int × Int × Int)
  | 0, _, _, _, _, _, _, _, _ => none
  | k + 1, x248000, x248001, x248002, x248003, x249000, x249001, x249002, x249003 => if x249002 < x248002 then (if x249003 > x248003 then (some (x248000, x248001, x249002, x249003)) else (some (x248000, x248001, x249002, x248003))) else (if x249003 > x248003 then (some (x248000, x248001, x248002, x249003)) else (some (x248000, x248001, x248002, x248003)))
end
def gazetteerref09_Union.f (k : Nat) (a0_0 : Int) (a0_1 : Int) (a0_2 : Int) (a0_3 : Int) (a1_0 : Int) (a1_1 : Int) (a1_2 : Int) (a1_3 : Int) : Option (Int × Int × Int × Int) := (gazetteerref09_Box.f a0_0 a0_1 a0_2 a0_3).bind fun t250 => (if t250 = true then ((gazetteerref09_Box.f a1_0 a1_1 a1_2 a1_3).bind fun t251 => (gazetteerref09_Union.j0 k (!t251) a0_0 a0_1 a0_2 a0_3 a1_0 a1_1 a1_2 a1_3)) else (gazetteerref09_Union.j0 k true a0_0 a0_1 a0_2 a0_3 a1_0 a1_1 a1_2 a1_3))
end Go.Proofs.Ythlhmijgbjcloaa.A
end
section
namespace Go.Proofs.Ythlhmijgbjcloaa.A
open Go.RowKit Go.Proofs.YthlhmijgbjcloaaW.PrintWords Go.Proofs.YthlhmijgbjcloaaW.PrintLast Go.Proofs.YthlhmijgbjcloaaW.PrintMore
attribute [local go_sem] max2_int min2_int max_two min_two max_three min_three max_four min_four   -- for this text's walks alone
def gazetteerref07_Area.f (a0_0 : Int) (a0_1 : Int) (a0_2 : Int) (a0_3 : Int) : Option (Int × Int) := areaF a0_0 a0_1 a0_2 a0_3
end Go.Proofs.Ythlhmijgbjcloaa.A
end
section
namespace Go.Proofs.Ythlhmijgbjcloaa.A
open Go.RowKit Go.Proofs.YthlhmijgbjcloaaW.PrintWords Go.Proofs.YthlhmijgbjcloaaW.PrintLast Go.Proofs.YthlhmijgbjcloaaW.PrintMore
attribute [local go_sem] max2_int min2_int max_two min_two max_three min_three max_four min_four   -- for this text's walks alone
def gazetteerref07_Margin.f (a0_0 : Int) (a0_1 : Int) (a0_2 : Int) (a0_3 : Int) : Option (Int × Int) := marginF a0_0 a0_1 a0_2 a0_3
end Go.Proofs.Ythlhmijgbjcloaa.A
end
section
namespace Go.Proofs.Ythlhmijgbjcloaa.A
open Go.RowKit Go.Proofs.YthlhmijgbjcloaaW.PrintWords Go.Proofs.YthlhmijgbjcloaaW.PrintLast Go.Proofs.YthlhmijgbjcloaaW.PrintMore
attribute [local go_sem] max2_int min2_int max_two min_two max_three min_three max_four min_four   -- for this text's walks alone
def gazetteerref07_Sub.f (a0_0 : Int) (a0_1 : Int) (a1_0 : Int) (a1_1 : Int) : Option (Int × Int × Bool) := subF a0_0 a0_1 a1_0 a1_1
end Go.Proofs.Ythlhmijgbjcloaa.A
end
section
namespace Go.Proofs.Ythlhmijgbjcloaa.A
open Go.RowKit Go.Proofs.YthlhmijgbjcloaaW.PrintWords Go.Proofs.YthlhmijgbjcloaaW.PrintLast Go.Proofs.YthlhmijgbjcloaaW.PrintMore
attribute [local go_sem] max2_int min2_int max_two min_two max_three min_three max_four min_four   -- for this text's walks alone
def gazetteerref09_Grows.j0 : Nat → Bool → Int → Int → Int → Int → Int → Int → Int → Int → Option (Int × Int × Int × Int)
  | 0, _, _, _, _, _, _, _, _, _ => none
  | k + 1, x18, x253000, x253001, x253002, x253003, x254000, x254001, x254002, x254003 => if x18 = true then (some (0, 0, 0, 0)) else ((gazetteerref09_Union.f k x253000 x253001 x253002 x253003 x254000 x254001 x254002 x254003).bind fun bt258 => ((gazetteerref07_Area.f bt258.1 bt258.2.1 bt258.2.2.1 bt258.2.2.2).bind fun bt263 => ((gazetteerref07_Area.f x253000 x253001 x253002 x253003).bind fun bt265 => ((gazetteerref07_Sub.f bt263.1 bt263.2 bt265.1 bt265.2).bind fun bt267 => ((gazetteerref07_Margin.f bt258.1 bt258.2.1 bt258.2.2.1 bt258.2.2.2).bind fun bt271 => ((gazetteerref07_Margin.f x253000 x253001 x253002 x253003).bind fun bt273 => ((gazetteerref07_Sub.f bt271.1 bt271.2 bt273.1 bt273.2).bind fun bt275 => (some (bt267.1, bt267.2.1, bt275.1, bt275.2.1)))))))))
def gazetteerref09_Grows.f (k : Nat) (a0_0 : Int) (a0_1 : Int) (a0_2 : Int) (a0_3 : Int) (a1_0 : Int) (a1_1 : Int) (a1_2 : Int) (a1_3 : Int) : Option (Int × Int × Int × Int) := (gazetteerref09_Box.f a0_0 a0_1 a0_2 a0_3).bind fun t256 => (if t256 = true then ((gazetteerref09_Box.f a1_0 a1_1 a1_2 a1_3).bind fun t257 => (gazetteerref09_Grows.j0 k (!t257) a0_0 a0_1 a0_2 a0_3 a1_0 a1_1 a1_2 a1_3)) else (gazetteerref09_Grows.j0 k true a0_0 a0_1 a0_2 a0_3 a1_0 a1_1 a1_2 a1_3))
end Go.Proofs.Ythlhmijgbjcloaa.A
end
section
namespace Go.Proofs.Ythlhmijgbjcloaa.A
open Go.RowKit Go.Proofs.YthlhmijgbjcloaaW.PrintWords Go.Proofs.YthlhmijgbjcloaaW.PrintLast Go.Proofs.YthlhmijgbjcloaaW.PrintMore
attribute [local go_sem] max2_int min2_int max_two min_two max_three min_three max_four min_four   -- for this text's walks alone
def gazetteerref09_Order.f (a0_0 : Int) (a0_1 : Int) (a1_0 : Int) (a1_1 : Int) (a2_0 : Int) (a2_1 : Int) (a3_0 : Int) (a3_1 : Int) : Option (Int) := (gazetteerref07_Cmp.f a0_0 a0_1 a2_0 a2_1).bind fun t298 => (if t298 = 0 then ((gazetteerref07_Cmp.f a1_0 a1_1 a3_0 a3_1).bind fun t299 => (some t299)) else (some t298))
def gazetteerref09_Less.j0 : Nat → Bool → Int → Int → Int → Int → Int → Int → Int → Int → Int → Int → Int → Int → Option (Bool)
  | 0, _, _, _, _, _, _, _, _, _, _, _, _, _ => none
  | k + 1, x23, x301000, x301001, x301002, x301003, x302000, x302001, x302002, x302003, x303000, x303001, x303002, x303003 => if x23 = true then (some false) else ((gazetteerref09_Grows.f k x301000 x301001 x301002 x301003 x303000 x303001 x303002 x303003).bind fun bt306 => ((gazetteerref09_Grows.f k x302000 x302001 x302002 x302003 x303000 x303001 x303002 x303003).bind fun bt312 => ((gazetteerref09_Order.f bt306.1 bt306.2.1 bt306.2.2.1 bt306.2.2.2 bt312.1 bt312.2.1 bt312.2.2.1 bt312.2.2.2).bind fun t318 => (some (decide (t318 < 0))))))
def gazetteerref09_Less.f (k : Nat) (a0_0 : Int) (a0_1 : Int) (a0_2 : Int) (a0_3 : Int) (a1_0 : Int) (a1_1 : Int) (a1_2 : Int) (a1_3 : Int) (a2_0 : Int) (a2_1 : Int) (a2_2 : Int) (a2_3 : Int) : Option (Bool) := (gazetteerref09_Box.f a0_0 a0_1 a0_2 a0_3).bind fun t303 => (if t303 = true then ((gazetteerref09_Box.f a1_0 a1_1 a1_2 a1_3).bind fun t304 => (if t304 = true then ((gazetteerref09_Box.f a2_0 a2_1 a2_2 a2_3).bind fun t305 => (gazetteerref09_Less.j0 k (!t305) a0_0 a0_1 a0_2 a0_3 a1_0 a1_1 a1_2 a1_3 a2_0 a2_1 a2_2 a2_3)) else (gazetteerref09_Less.j0 k true a0_0 a0_1 a0_2 a0_3 a1_0 a1_1 a1_2 a1_3 a2_0 a2_1 a2_2 a2_3))) else (gazetteerref09_Less.j0 k true a0_0 a0_1 a0_2 a0_3 a1_0 a1_1 a1_2 a1_3 a2_0 a2_1 a2_2 a2_3))
end Go.Proofs.Ythlhmijgbjcloaa.A
end
