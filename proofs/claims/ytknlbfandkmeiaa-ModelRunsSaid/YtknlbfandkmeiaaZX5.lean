/- What the row of this claim reaches. No condition. -/
import Derived.Test.YtknlbfandkmeiaaZX4
set_option linter.unusedVariables false
set_option linter.unusedSimpArgs false
section
namespace Go.Proofs.Ytknlbfandkmeiaa.M
open Go.RowKit Go.Proofs.YtknlbfandkmeiaaW.PrintWords Go.Proofs.YtknlbfandkmeiaaW.PrintLast Go.Proofs.YtknlbfandkmeiaaW.PrintMore
attribute [local go_sem] max2_int min2_int max_two min_two max_three min_three max_four min_four   -- for this text's walks alone
mutual
def gazetteerlaw22_ModelRuns.j0 : Nat → Int → List (S38) → List (S41) → Int → Bool → Bool → List (S51) → List (S51) → Option (Bool)
  | 0, _, _, _, _, _, _, _, _ => none
  | k + 1, x1, x7, x9, x10, x11, x44, x255000, x277000 => if x44 = true then (if x11 = true then (if x10 = 2 then (some ((wrap64 ((x277000.length : Int) + (x9.length : Int))) == 0)) else (some false)) else (if x10 = 320 then (some ((wrap64 ((x277000.length : Int) + (x9.length : Int))) == 0)) else (some false))) else (if x10 = 0 then (gazetteerlaw22_ModelRuns.j1 k x1 x7 x9 ((x9.length : Int) != (x7.length : Int)) x255000 x277000) else (gazetteerlaw22_ModelRuns.j1 k x1 x7 x9 true x255000 x277000))
def gazetteerlaw22_ModelRuns.j1 : Nat → Int → List (S38) → List (S41) → Bool → List (S51) → List (S51) → Option (Bool)
  | 0, _, _, _, _, _, _ => none
  | k + 1, x1, x7, x9, x66, x255000, x277000 => if x66 = true then (some false) else (gazetteerlaw22_ModelRuns.l0 k x1 x9 x7 (x7.length : Int) 0 x277000 x255000)
def gazetteerlaw22_ModelRuns.l0 : Nat → Int → List (S41) → List (S38) → Int → Int → List (S51) → List (S51) → Option (Bool)
  | 0, _, _, _, _, _, _, _ => none
  | k + 1, x1, x9, x68, x69, x70, x277000, x280000 => if x70 < x69 then (if 0 ≤ x70 then (if x70 < (x68.length : Int) then ((gazetteerref22_Apply.f k x280000 x1 ((rd_T38 x68 x70).f0) ((rd_T38 x68 x70).f1) ((rd_T38 x68 x70).f2) ((rd_T38 x68 x70).f3.f0) ((rd_T38 x68 x70).f3.f1) ((rd_T38 x68 x70).f3.f2) ((rd_T38 x68 x70).f3.f3) ((rd_T38 x68 x70).f4)).bind fun bt284 => (if x70 < (x9.length : Int) then ((gazetteerref22_Alike.f k ((rd_T41 x9 x70).f0) ((rd_T41 x9 x70).f1) ((rd_T41 x9 x70).f2) bt284.2.1 bt284.2.2.1 bt284.2.2.2).bind fun t293 => (if t293 = true then (gazetteerlaw22_ModelRuns.l0 k x1 x9 x68 x69 (wrap64 (x70 + 1)) x277000 bt284.1) else (some false))) else (none))) else (none)) else (none)) else ((gazetteerref22_SameRows.f k x277000 x280000).bind fun t280 => (some t280))
end
def gazetteerlaw22_ModelRuns.f (k : Nat) (l0_0 : List (S51)) (a1 : Int) (l2 : List (S38)) : Option (Bool) := (gazetteerlaw22_wakes.f k).bind fun t255 => (if t255 = true then ((gazetteerlaw22_short.f l0_0).bind fun t256 => ((some (([] : List (S38)) : List (S38))).bind fun y259 => (if 0 ≤ (mn (l2.length : Int) 30) then (if (mn (l2.length : Int) 30) ≤ (l2.length : Int) then ((some (l2.take ((mn (l2.length : Int) 30) : Int).toNat : List (S38))).bind fun y262 => (if y259.length + y262.length < 2513169434916 then ((some (y259 ++ y262 : List (S38))).bind fun y266 => ((model_Run.f k t256 a1 y266).bind fun bt269 => ((gazetteerref22_Right.f k t256).bind fun t277 => (if t277 = true then ((gazetteerref22_Class.f a1).bind fun t278 => (gazetteerlaw22_ModelRuns.j0 k a1 y266 bt269.2.1 bt269.2.2 t277 (!t278) t256 bt269.1)) else (gazetteerlaw22_ModelRuns.j0 k a1 y266 bt269.2.1 bt269.2.2 t277 true t256 bt269.1))))) else (none))) else (none)) else (none)))) else (some false))
set_option maxHeartbeats 8000000 in
set_option maxRecDepth 100000 in
theorem gazetteerlaw22_ModelRuns.calls (k : Nat) (A0_0 : Option Addr) (c0_0 : Nat) (l0_0 : List (S51)) (a1 : Int) (A2 : Option Addr) (c2 : Nat) (l2 : List (S38)) (r : Bool) (w : World) (hr0_0 : Kd.C k51 w A0_0 l0_0.length l0_0) (hc0_0 : l0_0.length ≤ c0_0) (hr2 : Kd.C k38 w A2 l2.length l2) (hc2 : l2.length ≤ c2) (h : gazetteerlaw22_ModelRuns.f k l0_0 a1 l2 = some r) :
  Calls Try.prog 3 #[.agg #[.slice A0_0 l0_0.length c0_0],.int .i64 a1,.slice A2 l2.length c2] w fun e w' => e = .returned (.bool r)∧Below w.heap.size w w':=by
 have hu24:=Try.underlying24
 have hu38:=Try.underlying38
 have hu41:=Try.underlying41
 have HR0_0:=Ak hr0_0
 have HC0_0:=Ak hc0_0
 clear hr0_0 hc0_0
 have HR2:=Ak hr2
 have HC2:=Ak hc2
 clear hr2 hc2
 have HB:=Ak (Below.refl w.heap.size w)
 have H : ((gazetteerlaw22_wakes.f k).bind fun t255 => (if t255 = true then ((gazetteerlaw22_short.f l0_0).bind fun t256 => ((some (([] : List (S38)) : List (S38))).bind fun y259 => (if 0 ≤ (mn (l2.length : Int) 30) then (if (mn (l2.length : Int) 30) ≤ (l2.length : Int) then ((some (l2.take ((mn (l2.length : Int) 30) : Int).toNat : List (S38))).bind fun y262 => (if y259.length+y262.length < 2513169434916 then ((some (y259 ++ y262 : List (S38))).bind fun y266 => ((model_Run.f k t256 a1 y266).bind fun bt269 => ((gazetteerref22_Right.f k t256).bind fun t277 => (if t277 = true then ((gazetteerref22_Class.f a1).bind fun t278 => (gazetteerlaw22_ModelRuns.j0 k a1 y266 bt269.2.1 bt269.2.2 t277 (!t278) t256 bt269.1)) else (gazetteerlaw22_ModelRuns.j0 k a1 y266 bt269.2.1 bt269.2.2 t277 true t256 bt269.1))))) else (none))) else (none)) else (none)))) else (some false))) = some r:=h
 clear h
 replace H:=Option.bind_eq_some_iff.mp H
 obtain ⟨t255,A40,H⟩:=H
 replace H : (if t255 = true then ((gazetteerlaw22_short.f l0_0).bind fun t256 => ((some (([] : List (S38)) : List (S38))).bind fun y259 => (if 0 ≤ (mn (l2.length : Int) 30) then (if (mn (l2.length : Int) 30) ≤ (l2.length : Int) then ((some (l2.take ((mn (l2.length : Int) 30) : Int).toNat : List (S38))).bind fun y262 => (if y259.length+y262.length < 2513169434916 then ((some (y259 ++ y262 : List (S38))).bind fun y266 => ((model_Run.f k t256 a1 y266).bind fun bt269 => ((gazetteerref22_Right.f k t256).bind fun t277 => (if t277 = true then ((gazetteerref22_Class.f a1).bind fun t278 => (gazetteerlaw22_ModelRuns.j0 k a1 y266 bt269.2.1 bt269.2.2 t277 (!t278) t256 bt269.1)) else (gazetteerlaw22_ModelRuns.j0 k a1 y266 bt269.2.1 bt269.2.2 t277 true t256 bt269.1))))) else (none))) else (none)) else (none)))) else (some false)) = some r:=H
 have A4:=Ak A40
 clear A40
 by_cases c5 : t255 = true
 ·subst c5
  have H1 : ((gazetteerlaw22_short.f l0_0).bind fun t256 => ((some (([] : List (S38)) : List (S38))).bind fun y259 => (if 0 ≤ (mn (l2.length : Int) 30) then (if (mn (l2.length : Int) 30) ≤ (l2.length : Int) then ((some (l2.take ((mn (l2.length : Int) 30) : Int).toNat : List (S38))).bind fun y262 => (if y259.length+y262.length < 2513169434916 then ((some (y259 ++ y262 : List (S38))).bind fun y266 => ((model_Run.f k t256 a1 y266).bind fun bt269 => ((gazetteerref22_Right.f k t256).bind fun t277 => (if t277 = true then ((gazetteerref22_Class.f a1).bind fun t278 => (gazetteerlaw22_ModelRuns.j0 k a1 y266 bt269.2.1 bt269.2.2 t277 (!t278) t256 bt269.1)) else (gazetteerlaw22_ModelRuns.j0 k a1 y266 bt269.2.1 bt269.2.2 t277 true t256 bt269.1))))) else (none))) else (none)) else (none)))) = some r:=by rw [if_pos rfl] at H;exact H
  clear H
  have H:=H1
  clear H1
  replace H:=Option.bind_eq_some_iff.mp H
  obtain ⟨t256,A60,H⟩:=H
  replace H : ((some (([] : List (S38)) : List (S38))).bind fun y259 => (if 0 ≤ (mn (l2.length : Int) 30) then (if (mn (l2.length : Int) 30) ≤ (l2.length : Int) then ((some (l2.take ((mn (l2.length : Int) 30) : Int).toNat : List (S38))).bind fun y262 => (if y259.length+y262.length < 2513169434916 then ((some (y259 ++ y262 : List (S38))).bind fun y266 => ((model_Run.f k t256 a1 y266).bind fun bt269 => ((gazetteerref22_Right.f k t256).bind fun t277 => (if t277 = true then ((gazetteerref22_Class.f a1).bind fun t278 => (gazetteerlaw22_ModelRuns.j0 k a1 y266 bt269.2.1 bt269.2.2 t277 (!t278) t256 bt269.1)) else (gazetteerlaw22_ModelRuns.j0 k a1 y266 bt269.2.1 bt269.2.2 t277 true t256 bt269.1))))) else (none))) else (none)) else (none))) = some r:=H
  have A6:=Ak A60
  clear A60
  obtain ⟨y259,hy259⟩ : ∃ y_ : List (S38),y_ = (([] : List (S38))):=⟨_,rfl⟩
  replace H : (if 0 ≤ (mn (l2.length : Int) 30) then (if (mn (l2.length : Int) 30) ≤ (l2.length : Int) then ((some (l2.take ((mn (l2.length : Int) 30) : Int).toNat : List (S38))).bind fun y262 => (if y259.length+y262.length < 2513169434916 then ((some (y259 ++ y262 : List (S38))).bind fun y266 => ((model_Run.f k t256 a1 y266).bind fun bt269 => ((gazetteerref22_Right.f k t256).bind fun t277 => (if t277 = true then ((gazetteerref22_Class.f a1).bind fun t278 => (gazetteerlaw22_ModelRuns.j0 k a1 y266 bt269.2.1 bt269.2.2 t277 (!t278) t256 bt269.1)) else (gazetteerlaw22_ModelRuns.j0 k a1 y266 bt269.2.1 bt269.2.2 t277 true t256 bt269.1))))) else (none))) else (none)) else (none)) = some r:=by first|(rw [hy259];with_reducible exact H)|(have H2_:=(Option.bind_some _ _).symm.trans H;rw [hy259];with_reducible exact H2_)|(have H2_:=(Option.bind_some _ _).symm.trans H;with_reducible exact H2_)|with_reducible exact H|(rw [hy259];exact H)|exact H
  have Ny259:=Ak hy259
  clear hy259
  obtain ⟨ji7,hji7⟩ : ∃ j_ : Int,(mn (l2.length : Int) 30) = j_:=⟨_,rfl⟩
  replace H : (if 0 ≤ (ji7) then (if (ji7) ≤ (l2.length : Int) then ((some (l2.take ((ji7) : Int).toNat : List (S38))).bind fun y262 => (if y259.length+y262.length < 2513169434916 then ((some (y259 ++ y262 : List (S38))).bind fun y266 => ((model_Run.f k t256 a1 y266).bind fun bt269 => ((gazetteerref22_Right.f k t256).bind fun t277 => (if t277 = true then ((gazetteerref22_Class.f a1).bind fun t278 => (gazetteerlaw22_ModelRuns.j0 k a1 y266 bt269.2.1 bt269.2.2 t277 (!t278) t256 bt269.1)) else (gazetteerlaw22_ModelRuns.j0 k a1 y266 bt269.2.1 bt269.2.2 t277 true t256 bt269.1))))) else (none))) else (none)) else (none)) = some r:=by first|(rw [hji7] at H;exact H)|(simp only [hji7] at H ⊢;exact H)
  (try rw [hji7] at A4)
  (try rw [hji7] at A6)
  (try (have hji7h : ji7 ≤ 30:=by (rw [← hji7];unfold mn;(repeat' split) <;> omega)))
  (try (have hji7g : ji7 ≤ 64:=by omega))
  (try (have hji7l : 0 ≤ ji7:=by (rw [← hji7];unfold mn;(repeat' split) <;> omega)))
  (try (have hji7m : 0 ≤ ji7:=by omega))
  have hji7_ : (if 30 < (l2.length : Int) then 30 else (l2.length : Int)) = ji7:=hji7
  by_cases c8 : 0 ≤ (ji7)
  ·rw [if_pos c8] at H
   have c8b0:=eq_true c8
   have c8b1 : decide (0 ≤ (ji7)) = true:=decide_eq_true c8
   clear c8
   by_cases c9 : (ji7) ≤ (l2.length : Int)
   ·rw [if_pos c9] at H
    have c9b0:=eq_true c9
    have c9b1 : decide ((ji7) ≤ (l2.length : Int)) = true:=decide_eq_true c9
    clear c9
    obtain ⟨y262,hy262⟩ : ∃ y_ : List (S38),y_ = (l2.take ((ji7) : Int).toNat):=⟨_,rfl⟩
    replace H : (if y259.length+y262.length < 2513169434916 then ((some (y259 ++ y262 : List (S38))).bind fun y266 => ((model_Run.f k t256 a1 y266).bind fun bt269 => ((gazetteerref22_Right.f k t256).bind fun t277 => (if t277 = true then ((gazetteerref22_Class.f a1).bind fun t278 => (gazetteerlaw22_ModelRuns.j0 k a1 y266 bt269.2.1 bt269.2.2 t277 (!t278) t256 bt269.1)) else (gazetteerlaw22_ModelRuns.j0 k a1 y266 bt269.2.1 bt269.2.2 t277 true t256 bt269.1))))) else (none)) = some r:=by first|(rw [hy262];with_reducible exact H)|(have H2_:=(Option.bind_some _ _).symm.trans H;rw [hy262];with_reducible exact H2_)|(have H2_:=(Option.bind_some _ _).symm.trans H;with_reducible exact H2_)|with_reducible exact H|(rw [hy262];exact H)|exact H
    have Ny262:=Ak hy262
    clear hy262
    by_cases c10 : y259.length+y262.length < 2513169434916
    ·rw [if_pos c10] at H
     have LMc10:=Ak c10
     clear c10
     obtain ⟨y266,hy266⟩ : ∃ y_ : List (S38),y_ = (y259 ++ y262):=⟨_,rfl⟩
     replace H : ((model_Run.f k t256 a1 y266).bind fun bt269 => ((gazetteerref22_Right.f k t256).bind fun t277 => (if t277 = true then ((gazetteerref22_Class.f a1).bind fun t278 => (gazetteerlaw22_ModelRuns.j0 k a1 y266 bt269.2.1 bt269.2.2 t277 (!t278) t256 bt269.1)) else (gazetteerlaw22_ModelRuns.j0 k a1 y266 bt269.2.1 bt269.2.2 t277 true t256 bt269.1)))) = some r:=by first|(rw [hy266];with_reducible exact H)|(have H2_:=(Option.bind_some _ _).symm.trans H;rw [hy266];with_reducible exact H2_)|(have H2_:=(Option.bind_some _ _).symm.trans H;with_reducible exact H2_)|with_reducible exact H|(rw [hy266];exact H)|exact H
     have Ny266:=Ak hy266
     clear hy266
     replace H:=Option.bind_eq_some_iff.mp H
     obtain ⟨⟨t269,t272,t275⟩,A110,H⟩:=H
     replace H : ((gazetteerref22_Right.f k t256).bind fun t277 => (if t277 = true then ((gazetteerref22_Class.f a1).bind fun t278 => (gazetteerlaw22_ModelRuns.j0 k a1 y266 t272 t275 t277 (!t278) t256 t269)) else (gazetteerlaw22_ModelRuns.j0 k a1 y266 t272 t275 t277 true t256 t269))) = some r:=H
     have A11:=Ak A110
     clear A110
     replace H:=Option.bind_eq_some_iff.mp H
     obtain ⟨t277,A120,H⟩:=H
     replace H : (if t277 = true then ((gazetteerref22_Class.f a1).bind fun t278 => (gazetteerlaw22_ModelRuns.j0 k a1 y266 t272 t275 t277 (!t278) t256 t269)) else (gazetteerlaw22_ModelRuns.j0 k a1 y266 t272 t275 t277 true t256 t269)) = some r:=H
     have A12:=Ak A120
     clear A120
     have HC13:=Ak H
     clear H
     go_enter Try.func3,Try.ntmps3
     go_upto_region 7 with (first|((with_reducible refine gate_dst (N:=3) rfl ?_);(try (refine gate_guard (by rfl) ?_;dsimp only));refine box_event ?hg (N:=3) ?hd (cs:=#[.slice A0_0 l0_0.length c0_0]) (t:=24) ?hr ?_;(case hd => rfl);(case hg => rfl);(case hr => first|(go_simp;done)|(go_simp;rfl));intro gb254 hg w14 hbox hb;have n0_:=Ak (below_step (by repeat (first|(with_reducible first|exact HB.out|apply bA|apply bN|apply bD)|exact HB.out)) hb);have n1_:=Ak (hbox);have n2_:=Ak ((by rw [hg];exact (below_size (by repeat (first|(with_reducible first|exact HB.out|apply bA|apply bN|apply bD)|exact HB.out))) : w.heap.size ≤ gb254));have n3_:=Ak ((by rw [hg];exact (below_size (by repeat (first|(with_reducible first|exact HB.out|apply bA|apply bN|apply bD)|exact HB.out))) : w.heap.size ≤ gb254));clear HB;have HB:=n0_;have BK254:=n1_;have GW254:=n2_;have GE254:=n3_;clear n0_ n1_ n2_ n3_;clear hb hbox hg)|((with_reducible refine gate_callee (f:=13) rfl ?_);refine goesL_ (some 17) rfl rfl Try.func13 (by kernel_rfl) rfl #[] rfl (by (try simp only [List.map_toArray,List.map_cons,List.map_nil]);first|done|rfl|(simp only [List.length_drop,List.length_take];rfl)) ?_;(with_reducible refine (gazetteerlaw22_wakes.calls k  true _ A4.out).mono ?_);rintro e w15 ⟨rfl,hb⟩;refine ⟨_,rfl,?_⟩;have n0_:=Ak (kB (g:=gb254) (o:=.cells #[.slice A0_0 l0_0.length c0_0] 24 (0,0)) (by (with_reducible repeat (first|refine kN ?_ _|refine kD ?_|refine kA ?_ _));exact BK254.out) hb);have n1_:=Ak (below_step (by repeat (first|(with_reducible first|exact HB.out|apply bA|apply bN|apply bD|refine bS ?_ GE254.out)|exact HB.out)) hb);clear BK254;clear HB;have BK254:=n0_;have HB:=n1_;clear n0_ n1_;(try clear hb);(try clear hb2);(try clear hk);(try clear hi);have hcz16_0 : w15.cell? ⟨gb254,0,none⟩ = some (.slice A0_0 l0_0.length c0_0):=(kC BK254.out 0).trans rfl;have hfz16_0:=blk_frozen BK254.out 0)|((with_reducible refine gate_callee (f:=14) rfl ?_);refine goesL_ (some 20) rfl rfl Try.func14 (by kernel_rfl) rfl #[.agg #[.slice A0_0 l0_0.length c0_0]] rfl (by (try simp only [List.map_toArray,List.map_cons,List.map_nil]);first|done|rfl|(simp only [List.length_drop,List.length_take];rfl)) ?_;(with_reducible refine (gazetteerlaw22_short.calls _ _ l0_0 t256 _ ?side1 ?side2 A6.out).mono ?_);(case side1 => repeat (first|exact (Kd.C_below HR0_0.out HB.out)|(with_reducible refine Kd.C_alloc ?_ _)|(with_reducible refine Kd.C_drewN ?_ _)|(with_reducible refine Kd.C_drew ?_)));(case side2 => exact HC0_0.out);rintro e w17 ⟨v257,rfl,ho0,hb⟩;refine ⟨_,rfl,?_⟩;have n0_:=Ak (Kd.R_lower ho0 (below_size (by repeat (first|(with_reducible first|exact HB.out|apply bA|apply bN|apply bD|refine bS ?_ GE254.out)|exact HB.out))));have n1_:=Ak (kB (g:=gb254) (o:=.cells #[.slice A0_0 l0_0.length c0_0] 24 (0,0)) (by (with_reducible repeat (first|refine kN ?_ _|refine kD ?_|refine kA ?_ _));exact BK254.out) hb);have n2_:=Ak (below_step (by repeat (first|(with_reducible first|exact HB.out|apply bA|apply bN|apply bD|refine bS ?_ GE254.out)|exact HB.out)) hb);clear BK254;clear HB;have HO258:=n0_;have BK254:=n1_;have HB:=n2_;clear n0_ n1_ n2_;(try clear hb);(try clear hb2);(try clear hk);(try clear hi);(try clear ho0);obtain ⟨Ao18,co18,eo18⟩:=Kd.R_slice HO258.out;subst eo18;have hcz19_0 : w17.cell? ⟨gb254,0,none⟩ = some (.slice A0_0 l0_0.length c0_0):=(kC BK254.out 0).trans rfl;have hfz19_0:=blk_frozen BK254.out 0)|((with_reducible refine gate_dst (N:=21) rfl ?_);(try (refine gate_guard (by rfl) ?_;dsimp only));refine Kd.R_lit k38 _ 38 ?hg (N:=21) ?hd (xs:=([] : List (S38))) (inner:=[]) (ok:=fun _ => True) (okp:=fun _ => True) ?hr ?hp (fun _ hk => hk) trivial (Below.refl _ _) (Nat.le_refl _) (by simp) ?_;(case hd => rfl);(case hg => rfl);(case hr => first|(go_simp;done)|(go_simp;rfl));(case hp => exact (Reps.none _ _));intro v260 w20 ho21 hb hg_ hnew_;clear hg_ hnew_;(first|rw [← Ny259.out] at ho21|(simp only [Int.reduceToNat] at ho21;rw [← Ny259.out] at ho21));have n0_:=Ak (Kd.R_below (by (with_reducible repeat (first|apply Kd.R_alloc|apply Kd.R_drewN|apply Kd.R_drew));exact (Kd.R_mono (Kd.R_far (p:=⟨gb254,0,none⟩) (Kd.R_types HO258.out BK254.out (by decide)) (fun _ hk => hk.2) (.slice Ao18 t256.length co18)) (fun _ h_ => h_.1))) hb);have n1_:=Ak (Kd.R_lower ho21 (below_size (by repeat (first|(with_reducible first|exact HB.out|apply bA|apply bN|apply bD|refine bS ?_ GE254.out)|exact HB.out))));have n2_:=Ak (kB (g:=gb254) (o:=.cells #[.slice Ao18 t256.length co18] 24 (0,0)) (by (with_reducible repeat (first|refine kN ?_ _|refine kD ?_|refine kA ?_ _));refine blk_put (cs:=#[.slice A0_0 l0_0.length c0_0]) ?_ 0 _ rfl;(with_reducible repeat (first|refine kN ?_ _|refine kD ?_|refine kA ?_ _));exact BK254.out) hb);have n3_:=Ak (below_step (by repeat (first|(with_reducible first|exact HB.out|apply bA|apply bN|apply bD|refine bS ?_ GE254.out)|exact HB.out)) hb);clear HO258;clear BK254;clear HB;have HO258:=n0_;have HO261:=n1_;have BK254:=n2_;have HB:=n3_;clear n0_ n1_ n2_ n3_;clear hb ho21;have q22 : ((ji7) : Int) ≤ ((l2.length : Int) : Int):=of_decide_eq_true (by first|(with_reducible assumption)|assumption);obtain ⟨i022,hi022,_,hsz22,_⟩:=info_parts info38;have hroom22 : l2.length ≤ c2:=HC2.out;have hC22 : Kd.C k38 _ A2 l2.length l2:=HR2.out;have hcut22:=cut_to (P:=Try.prog) 25 38 .i64 Try.underlying25 hi022 A2 l2.length c2 (ji7) (of_decide_eq_true (by first|(with_reducible assumption)|assumption)) q22 hroom22;have hr22:=Kd.C_take (m:=((ji7) : Int).toNat) hC22 (by omega);have hy22 : y262.length = ((ji7) : Int).toNat:=(by rw [Ny262.out,List.length_take];omega);rw [← Ny262.out] at hr22;rw [← hy22] at hcut22;have HR265:=Ak hr22;have HC265:=Ak (show y262.length ≤ c2 from by omega);clear hr22 hC22 hroom22 hi022 hsz22;have KY22:=Ak hy22;clear hy22;replace q22:=eq_true q22)|((with_reducible refine gate_builtin (b:=.append) (xs:=#[.tmp 21,.tmp 26]) rfl ?_);(try (refine gate_guard (by rfl) ?_;dsimp only));at_builtin;refine Kd.R_append_rows k38 (w0:=w) w.heap.size rfl (.tmp 21) (.tmp 26) 25 38 (.agg #[(.int .i64 0),(.bool false),(.int .u32 0),(.int .i64 0),(.int .i64 0),(.int .i64 0),(.int .i64 0),(.int .i64 0)]) 56 rfl Try.underlying25 info38 rfl (by decide) (by omega) v260 y259 y262 _ _ _ (fun _ => True) (fun _ => False) rfl rfl ?aO ?aR (fun _ _ h => h) (fun _ h => h.elim) ?aF ?aB ?aS ?aL ?_;(case aR => repeat (first|exact (Kd.C_below HR265.out HB.out)|(with_reducible refine Kd.C_alloc ?_ _)|(with_reducible refine Kd.C_drewN ?_ _)|(with_reducible refine Kd.C_drew ?_)));(case aB => exact (by repeat (first|(with_reducible first|exact HB.out|apply bA|apply bN|apply bD|refine bS ?_ GE254.out)|exact HB.out)));(case aF => exact (fun _ _ => trivial));(case aO => exact (by (with_reducible repeat (first|apply Kd.R_alloc|apply Kd.R_drewN|apply Kd.R_drew));exact HO261.out));(case aS => exact (below_size (by repeat (first|(with_reducible first|exact HB.out|apply bA|apply bN|apply bD|refine bS ?_ GE254.out)|exact HB.out))));(case aL => have:=LMc10.out;omega);intro v267 w23 ho hb hg hat;rw [← Ny266.out] at ho;have n0_:=Ak (blk_grown (g:=gb254) (o:=.cells #[.slice Ao18 t256.length co18] 24 (0,0)) (by (with_reducible repeat (first|refine kN ?_ _|refine kD ?_|refine kA ?_ _));exact BK254.out) hg (Kd.R_ne HO261.out BK254.out (by decide)));have n1_:=Ak (Kd.R_over' (by (with_reducible repeat (first|apply Kd.R_alloc|apply Kd.R_drewN|apply Kd.R_drew));exact HO258.out) (Kd.R_typed (by (with_reducible repeat (first|apply Kd.R_alloc|apply Kd.R_drewN|apply Kd.R_drew));exact HO261.out)) (by decide) hg);have n2_:=Ak (hb);have n3_:=Ak (ho);clear BK254;clear HO258;clear HB;clear HO261;have BK254:=n0_;have HO258:=n1_;have HB:=n2_;have HO268:=n3_;clear n0_ n1_ n2_ n3_;clear ho hb hg hat;have hcz24_0 : w23.cell? ⟨gb254,0,none⟩ = some (.slice Ao18 t256.length co18):=(kC BK254.out 0).trans rfl;have hfz24_0:=blk_frozen BK254.out 0;obtain ⟨Ao25,co25,eo25⟩:=Kd.R_slice HO268.out;subst eo25)|((with_reducible refine gate_callee (f:=15) rfl ?_);refine goesL_ (some 32) rfl rfl Try.func15 (by kernel_rfl) rfl #[.agg #[.slice Ao18 t256.length co18],.int .i64 a1,.slice Ao25 y266.length co25] rfl (by (try simp only [List.map_toArray,List.map_cons,List.map_nil]);first|done|rfl|(simp only [List.length_drop,List.length_take];rfl)) ?_;(with_reducible refine (model_Run.calls k _ _ t256 a1 _ _ y266 t269 t272 t275 _ ?side1 ?side2 ?side3 ?side4 A11.out).mono ?_);(case side1 => repeat (first|exact (Kd.R_reads' HO258.out).2.2|(with_reducible refine Kd.C_alloc ?_ _)|(with_reducible refine Kd.C_drewN ?_ _)|(with_reducible refine Kd.C_drew ?_)));(case side2 => exact (Kd.R_reads' HO258.out).2.1);(case side3 => repeat (first|exact (Kd.R_reads' HO268.out).2.2|(with_reducible refine Kd.C_alloc ?_ _)|(with_reducible refine Kd.C_drewN ?_ _)|(with_reducible refine Kd.C_drew ?_)));(case side4 => exact (Kd.R_reads' HO268.out).2.1);rintro e w26 ⟨v270,v273,rfl,ho0,ho1,hb⟩;refine ⟨_,rfl,?_⟩;have n0_:=Ak (Kd.R_elder' (by (with_reducible repeat (first|apply Kd.R_alloc|apply Kd.R_drewN|apply Kd.R_drew));exact HO258.out) (Kd.R_base ho0) hb);have n1_:=Ak (Kd.R_below (by (with_reducible repeat (first|apply Kd.R_alloc|apply Kd.R_drewN|apply Kd.R_drew));exact HO268.out) hb);have n2_:=Ak (Kd.R_lower (Kd.R_new' ho0 (Kd.R_lt (by (with_reducible repeat (first|apply Kd.R_alloc|apply Kd.R_drewN|apply Kd.R_drew));exact HO258.out))) (below_size (by repeat (first|(with_reducible first|exact HB.out|apply bA|apply bN|apply bD|refine bS ?_ GE254.out)|exact HB.out))));have n3_:=Ak (Kd.S_lower (Kd.S_new' ho1 (Kd.R_lt (by (with_reducible repeat (first|apply Kd.R_alloc|apply Kd.R_drewN|apply Kd.R_drew));exact HO258.out))) (below_size (by repeat (first|(with_reducible first|exact HB.out|apply bA|apply bN|apply bD|refine bS ?_ GE254.out)|exact HB.out))));have n4_:=Ak (kB (g:=gb254) (o:=.cells #[.slice Ao18 t256.length co18] 24 (0,0)) (by (with_reducible repeat (first|refine kN ?_ _|refine kD ?_|refine kA ?_ _));exact BK254.out) hb);have n5_:=Ak (below_step (by repeat (first|(with_reducible first|exact HB.out|apply bA|apply bN|apply bD|refine bS ?_ GE254.out)|exact HB.out)) hb);clear HO258;clear HO268;clear BK254;clear HB;have HO258:=n0_;have HO268:=n1_;have HO271:=n2_;have HO274:=n3_;have BK254:=n4_;have HB:=n5_;clear n0_ n1_ n2_ n3_ n4_ n5_;(try clear hb);(try clear hb2);(try clear hk);(try clear hi);(try clear ho0);(try clear ho1))|((with_reducible refine gate_dst (N:=8) rfl ?_);(try (refine gate_guard (by rfl) ?_;dsimp only));refine box_event ?hg (N:=8) ?hd (cs:=#[.slice none 0 0]) (t:=24) ?hr ?_;(case hd => rfl);(case hg => rfl);(case hr => first|(go_simp;done)|(go_simp;rfl));intro gb276 hg w27 hbox hb;have n0_:=Ak (Kd.R_below (by (with_reducible repeat (first|apply Kd.R_alloc|apply Kd.R_drewN|apply Kd.R_drew));exact HO258.out) hb);have n1_:=Ak (Kd.R_below (by (with_reducible repeat (first|apply Kd.R_alloc|apply Kd.R_drewN|apply Kd.R_drew));exact HO268.out) hb);have n2_:=Ak (Kd.R_below (by (with_reducible repeat (first|apply Kd.R_alloc|apply Kd.R_drewN|apply Kd.R_drew));exact HO271.out) hb);have n3_:=Ak (Kd.S_below (by (with_reducible repeat (first|apply Kd.S_alloc|apply Kd.S_drewN|apply Kd.S_drew));exact HO274.out) hb);have n4_:=Ak (kB (g:=gb254) (o:=.cells #[.slice Ao18 t256.length co18] 24 (0,0)) (by (with_reducible repeat (first|refine kN ?_ _|refine kD ?_|refine kA ?_ _));exact BK254.out) hb);have n5_:=Ak (below_step (by repeat (first|(with_reducible first|exact HB.out|apply bA|apply bN|apply bD|refine bS ?_ GE254.out)|exact HB.out)) hb);have n6_:=Ak (hbox);have n7_:=Ak ((by rw [hg];exact (below_size (by repeat (first|(with_reducible first|exact HB.out|apply bA|apply bN|apply bD|refine bS ?_ GE254.out)|exact HB.out))) : w.heap.size ≤ gb276));have n8_:=Ak ((by rw [hg];exact (below_size (by repeat (first|(with_reducible first|exact HB.out|apply bA|apply bN|apply bD|refine bS ?_ GE254.out)|exact HB.out))) : w.heap.size ≤ gb276));have n9_:=Ak ((by rw [hg];exact Nat.ne_of_lt (blk_lt (g:=gb254) (o:=.cells #[.slice Ao18 t256.length co18] 24 (0,0)) (by (with_reducible repeat (first|refine kN ?_ _|refine kD ?_|refine kA ?_ _));exact BK254.out)) : gb254 ≠ gb276));have n10_:=Ak ((by rw [hg];exact Nat.ne_of_gt (blk_lt (g:=gb254) (o:=.cells #[.slice Ao18 t256.length co18] 24 (0,0)) (by (with_reducible repeat (first|refine kN ?_ _|refine kD ?_|refine kA ?_ _));exact BK254.out)) : gb276 ≠ gb254));clear HO258;clear HO268;clear HO271;clear HO274;clear BK254;clear HB;have HO258:=n0_;have HO268:=n1_;have HO271:=n2_;have HO274:=n3_;have BK254:=n4_;have HB:=n5_;have BK276:=n6_;have GW276:=n7_;have GE276:=n8_;have NB254_276:=n9_;have NB276_254:=n10_;clear n0_ n1_ n2_ n3_ n4_ n5_ n6_ n7_ n8_ n9_ n10_;clear hb hbox hg;obtain ⟨Ao28,co28,eo28⟩:=Kd.R_slice HO271.out;subst eo28;have hnb29:=NB276_254.out;have hnc29:=NB254_276.out;have hcz30_0 : w27.cell? ⟨gb276,0,none⟩ = some (.slice none 0 0):=(kC BK276.out 0).trans rfl;have hfz30_0:=blk_frozen BK276.out 0;have hcz31_0 : w27.cell? ⟨gb254,0,none⟩ = some (.slice Ao18 t256.length co18):=(kC BK254.out 0).trans rfl;have hfz31_0:=blk_frozen BK254.out 0)|((with_reducible refine gate_callee (f:=16) rfl ?_);refine goesL_ (some 37) rfl rfl Try.func16 (by kernel_rfl) rfl #[.agg #[.slice Ao18 t256.length co18]] rfl (by (try simp only [List.map_toArray,List.map_cons,List.map_nil]);first|done|rfl|(simp only [List.length_drop,List.length_take];rfl)) ?_;(with_reducible refine (gazetteerref22_Right.calls k _ _ t256 t277 _ ?side1 ?side2 A12.out).mono ?_);(case side1 => refine (Kd.R_reads' (e:=51) (base:=w.heap.size) (ok:=fun k_ => (True∧some k_ ≠ (.slice Ao28 t269.length co28 : Value).ownBlock)) (n:=t256.length) (c:=co18) ?_).2.2;exact (by (with_reducible repeat (first|apply Kd.R_alloc|apply Kd.R_drewN|apply Kd.R_drew));exact (Kd.R_mono (Kd.R_far (p:=⟨gb276,0,none⟩) (Kd.R_types HO258.out BK276.out (by decide)) (fun _ hk => hk.2) (.slice Ao28 t269.length co28)) (fun _ h_ => h_.1))));(case side2 => exact (Kd.R_reads' HO258.out).2.1);rintro e w32 ⟨rfl,hb⟩;refine ⟨_,rfl,?_⟩;have n0_:=Ak (Kd.R_below (by (with_reducible repeat (first|apply Kd.R_alloc|apply Kd.R_drewN|apply Kd.R_drew));exact (Kd.R_mono (Kd.R_far (p:=⟨gb276,0,none⟩) (Kd.R_types HO258.out BK276.out (by decide)) (fun _ hk => hk.2) (.slice Ao28 t269.length co28)) (fun _ h_ => h_.1))) hb);have n1_:=Ak (Kd.R_below (by (with_reducible repeat (first|apply Kd.R_alloc|apply Kd.R_drewN|apply Kd.R_drew));exact (Kd.R_mono (Kd.R_far (p:=⟨gb276,0,none⟩) (Kd.R_types HO268.out BK276.out (by decide)) (fun _ hk => hk.2) (.slice Ao28 t269.length co28)) (fun _ h_ => h_.1))) hb);have n2_:=Ak (Kd.R_below (by (with_reducible repeat (first|apply Kd.R_alloc|apply Kd.R_drewN|apply Kd.R_drew));exact (Kd.R_mono (Kd.R_far (p:=⟨gb276,0,none⟩) (Kd.R_types HO271.out BK276.out (by decide)) (fun _ hk => hk.2) (.slice Ao28 t269.length co28)) (fun _ h_ => h_.1))) hb);have n3_:=Ak (Kd.S_below (by (with_reducible repeat (first|apply Kd.S_alloc|apply Kd.S_drewN|apply Kd.S_drew));exact (Kd.S_mono (Kd.S_far (p:=⟨gb276,0,none⟩) (Kd.S_types HO274.out BK276.out (by decide)) (fun _ hk => hk.2) (.slice Ao28 t269.length co28)) (fun _ h_ => h_.1))) hb);have n4_:=Ak (kB (g:=gb254) (o:=.cells #[.slice Ao18 t256.length co18] 24 (0,0)) (by (with_reducible repeat (first|refine kN ?_ _|refine kD ?_|refine kA ?_ _));refine blk_far ?_ NB254_276.out _;(with_reducible repeat (first|refine kN ?_ _|refine kD ?_|refine kA ?_ _));exact BK254.out) hb);have n5_:=Ak (kB (g:=gb276) (o:=.cells #[.slice Ao28 t269.length co28] 24 (0,0)) (by (with_reducible repeat (first|refine kN ?_ _|refine kD ?_|refine kA ?_ _));refine blk_put (cs:=#[.slice none 0 0]) ?_ 0 _ rfl;(with_reducible repeat (first|refine kN ?_ _|refine kD ?_|refine kA ?_ _));exact BK276.out) hb);have n6_:=Ak (below_step (by repeat (first|(with_reducible first|exact HB.out|apply bA|apply bN|apply bD|refine bS ?_ GE254.out|refine bS ?_ GE276.out)|exact HB.out)) hb);clear HO258;clear HO268;clear HO271;clear HO274;clear BK254;clear BK276;clear HB;have HO258:=n0_;have HO268:=n1_;have HO271:=n2_;have HO274:=n3_;have BK254:=n4_;have BK276:=n5_;have HB:=n6_;clear n0_ n1_ n2_ n3_ n4_ n5_ n6_;(try clear hb);(try clear hb2);(try clear hk);(try clear hi)))
     (try simp only [Act.put,sA,sZ,sS])
     go_cut [44] (fun v44 wc => ∃ (kq : Nat) (x44_12 : Bool),v44 = .bool x44_12∧Aside0 (gazetteerlaw22_ModelRuns.j0 kq a1 y266 t272 t275 t277 x44_12 t256 t269 = some r)∧Aside0 (kq ≤ k)∧Aside0 (Kd.R k38 38 wc w.heap.size (fun _ => True) (.slice Ao25 y266.length co25) y266)∧Aside0 (Kd.S k41 41 wc w.heap.size (fun k_ => some k_ ≠ ((.slice Ao18 t256.length co18) : Value).ownBlock∧some k_ ≠ ((.slice Ao28 t269.length co28) : Value).ownBlock) v273 t272)∧Aside0 (Kd.R k51 51 wc w.heap.size (fun k_ => some k_ ≠ ((.slice Ao28 t269.length co28) : Value).ownBlock) (.slice Ao18 t256.length co18) t256)∧Aside0 (Kd.R k51 51 wc w.heap.size (fun k_ => some k_ ≠ ((.slice Ao18 t256.length co18) : Value).ownBlock) (.slice Ao28 t269.length co28) t269)∧Aside0 (wc.heap[gb254]? = some (.cells #[(.slice Ao18 t256.length co18)] 24 (0,0)))∧Aside0 (wc.heap[gb276]? = some (.cells #[(.slice Ao28 t269.length co28)] 24 (0,0)))∧Aside0 (Below w.heap.size w wc))
     case first =>
      have H:=HC13.out
      clear HC13
      by_cases c33 : t277 = true
      ·subst c33
       have H1 : ((gazetteerref22_Class.f a1).bind fun t278 => (gazetteerlaw22_ModelRuns.j0 k a1 y266 t272 t275 true (!t278) t256 t269)) = some r:=by rw [if_pos rfl] at H;exact H
       clear H
       have H:=H1
       clear H1
       replace H:=Option.bind_eq_some_iff.mp H
       obtain ⟨t278,A340,H⟩:=H
       replace H : (gazetteerlaw22_ModelRuns.j0 k a1 y266 t272 t275 true (!t278) t256 t269) = some r:=H
       have A34:=Ak A340
       clear A340
       have H':=Ak H
       clear H
       go_wp2_with (first|(go_at_call 17;(with_reducible refine (gazetteerref22_Class.calls a1 t278 _ A34.out).mono ?_);rintro e w' ⟨rfl,⟨nd,rfl⟩⟩))
       go_meet
       case rel => exact ⟨_,(!t278),(by first|rfl|(simp;done)|(simp [*];done)),H',⟨by first|omega|exact Nat.le_refl _⟩,⟨by (with_reducible repeat (first|apply Kd.R_alloc|apply Kd.R_drewN|apply Kd.R_drew));exact HO268.out⟩,⟨by (with_reducible repeat (first|apply Kd.S_alloc|apply Kd.S_drewN|apply Kd.S_drew));exact Kd.S_mono HO274.out (fun _ hk => ⟨hk.2,hk.1⟩)⟩,⟨by (with_reducible repeat (first|apply Kd.R_alloc|apply Kd.R_drewN|apply Kd.R_drew));exact Kd.R_mono HO258.out (fun _ hk => hk.2)⟩,⟨by (with_reducible repeat (first|apply Kd.R_alloc|apply Kd.R_drewN|apply Kd.R_drew));exact Kd.R_mono HO271.out (fun _ hk => hk.2)⟩,⟨by (with_reducible repeat (first|refine kN ?_ _|refine kD ?_|refine kA ?_ _));exact BK254.out⟩,⟨by (with_reducible repeat (first|refine kN ?_ _|refine kD ?_|refine kA ?_ _));exact BK276.out⟩,⟨by repeat (first|(with_reducible first|exact HB.out|apply bA|apply bN|apply bD|refine bS ?_ GE254.out|refine bS ?_ GE276.out)|exact HB.out)⟩⟩
      ·replace c33:=Bool.eq_false_iff.mpr c33
       subst c33
       have H1 : (gazetteerlaw22_ModelRuns.j0 k a1 y266 t272 t275 false true t256 t269) = some r:=by rw [if_neg (show ¬ (false = true) by decide)] at H;exact H
       clear H
       have H:=H1
       clear H1
       have H':=Ak H
       clear H
       go_wp2
       go_meet
       case rel => exact ⟨_,(true),(by first|rfl|(simp;done)|(simp [*];done)),H',⟨by first|omega|exact Nat.le_refl _⟩,⟨by (with_reducible repeat (first|apply Kd.R_alloc|apply Kd.R_drewN|apply Kd.R_drew));exact HO268.out⟩,⟨by (with_reducible repeat (first|apply Kd.S_alloc|apply Kd.S_drewN|apply Kd.S_drew));exact Kd.S_mono HO274.out (fun _ hk => ⟨hk.2,hk.1⟩)⟩,⟨by (with_reducible repeat (first|apply Kd.R_alloc|apply Kd.R_drewN|apply Kd.R_drew));exact Kd.R_mono HO258.out (fun _ hk => hk.2)⟩,⟨by (with_reducible repeat (first|apply Kd.R_alloc|apply Kd.R_drewN|apply Kd.R_drew));exact Kd.R_mono HO271.out (fun _ hk => hk.2)⟩,⟨by (with_reducible repeat (first|refine kN ?_ _|refine kD ?_|refine kA ?_ _));exact BK254.out⟩,⟨by (with_reducible repeat (first|refine kN ?_ _|refine kD ?_|refine kA ?_ _));exact BK276.out⟩,⟨by repeat (first|(with_reducible first|exact HB.out|apply bA|apply bN|apply bD|refine bS ?_ GE254.out|refine bS ?_ GE276.out)|exact HB.out)⟩⟩
     case rest =>
      clear HC13
      try clear c1
      try clear c2
      try clear p2
      try clear q2
      try clear c3
      try clear c5
      try clear c8
      try clear c8b0
      try clear c8b1
      try clear c9
      try clear c9b0
      try clear c9b1
      try clear c10
      try clear c13
      try clear c14
      try clear c15
      try clear c16
      try clear q22
      try clear c29
      try clear c33
      try clear hcz16_0
      try clear hcz19_0
      try clear hcz24_0
      try clear hcz30_0
      try clear hcz31_0
      try clear hfz16_0
      try clear hfz19_0
      try clear hfz24_0
      try clear hfz30_0
      try clear hfz31_0
      try clear q22
      obtain ⟨kq,x44_12,rfl,HA,HJ12,HO_7,HO_9,HO_255000,HO_277000,BK254,BK276,HB⟩:=hcut
      cases kq with
      | zero => exact absurd HA.out (by simp [gazetteerlaw22_ModelRuns.j0])
      | succ kj12 =>
       have H:=HA.out
       clear HA
       simp only [gazetteerlaw22_ModelRuns.j0] at H
       by_cases c35 : x44_12 = true
       ·subst c35
        have H1 : (if t277 = true then (if t275 = 2 then (some ((wrap64 ((t269.length : Int)+(t272.length : Int))) == 0)) else (some false)) else (if t275 = 320 then (some ((wrap64 ((t269.length : Int)+(t272.length : Int))) == 0)) else (some false))) = some r:=by rw [if_pos rfl] at H;exact H
        clear H
        have H:=H1
        clear H1
        by_cases c36 : t277 = true
        ·subst c36
         have H1 : (if t275 = 2 then (some ((wrap64 ((t269.length : Int)+(t272.length : Int))) == 0)) else (some false)) = some r:=by rw [if_pos rfl] at H;exact H
         clear H
         have H:=H1
         clear H1
         by_cases c37 : t275 = 2
         ·rw [if_pos c37] at H
          have c37b0 : (t275 == 2) = true:=beq_iff_eq.mpr c37
          have c37b1 : (t275 != 2) = false:=bne_eq_false_iff_eq.mpr c37
          clear c37
          obtain rfl:=Option.some.inj H
          have hnb38:=NB276_254.out
          have hnc38:=NB254_276.out
          have hcz39_0 : wc.cell? ⟨gb276,0,none⟩ = some (.slice Ao28 t269.length co28):=(kC BK276.out 0).trans rfl
          have hfz39_0:=blk_frozen BK276.out 0
          obtain ⟨Ao40,co40,eo40⟩:=Kd.S_slice HO_9.out
          subst eo40
          go_wp2
          go_ret
          exact ⟨by first|rfl|(simp [errW_none,errW_some] <;> rfl)|(simp only [← hji7];first|rfl|(simp [errW_none,errW_some] <;> rfl))|(simp [*,errW_none,errW_some] <;> rfl),by repeat (first|(with_reducible first|exact HB.out|apply bA|apply bN|apply bD|refine bS ?_ GE254.out|refine bS ?_ GE276.out)|exact HB.out)⟩
         ·rw [if_neg c37] at H
          have c37b0 : (t275 == 2) = false:=beq_eq_false_iff_ne.mpr c37
          have c37b1 : (t275 != 2) = true:=bne_iff_ne.mpr c37
          obtain rfl:=Option.some.inj H
          go_wp2
          go_ret
          exact ⟨by first|rfl|(simp [errW_none,errW_some] <;> rfl)|(simp only [← hji7];first|rfl|(simp [errW_none,errW_some] <;> rfl))|(simp [*,errW_none,errW_some] <;> rfl),by repeat (first|(with_reducible first|exact HB.out|apply bA|apply bN|apply bD|refine bS ?_ GE254.out|refine bS ?_ GE276.out)|exact HB.out)⟩
        ·replace c36:=Bool.eq_false_iff.mpr c36
         subst c36
         have H1 : (if t275 = 320 then (some ((wrap64 ((t269.length : Int)+(t272.length : Int))) == 0)) else (some false)) = some r:=by rw [if_neg (show ¬ (false = true) by decide)] at H;exact H
         clear H
         have H:=H1
         clear H1
         by_cases c41 : t275 = 320
         ·rw [if_pos c41] at H
          have c41b0 : (t275 == 320) = true:=beq_iff_eq.mpr c41
          have c41b1 : (t275 != 320) = false:=bne_eq_false_iff_eq.mpr c41
          clear c41
          obtain rfl:=Option.some.inj H
          have hnb42:=NB276_254.out
          have hnc42:=NB254_276.out
          have hcz43_0 : wc.cell? ⟨gb276,0,none⟩ = some (.slice Ao28 t269.length co28):=(kC BK276.out 0).trans rfl
          have hfz43_0:=blk_frozen BK276.out 0
          obtain ⟨Ao44,co44,eo44⟩:=Kd.S_slice HO_9.out
          subst eo44
          go_wp2
          go_ret
          exact ⟨by first|rfl|(simp [errW_none,errW_some] <;> rfl)|(simp only [← hji7];first|rfl|(simp [errW_none,errW_some] <;> rfl))|(simp [*,errW_none,errW_some] <;> rfl),by repeat (first|(with_reducible first|exact HB.out|apply bA|apply bN|apply bD|refine bS ?_ GE254.out|refine bS ?_ GE276.out)|exact HB.out)⟩
         ·rw [if_neg c41] at H
          have c41b0 : (t275 == 320) = false:=beq_eq_false_iff_ne.mpr c41
          have c41b1 : (t275 != 320) = true:=bne_iff_ne.mpr c41
          obtain rfl:=Option.some.inj H
          go_wp2
          go_ret
          exact ⟨by first|rfl|(simp [errW_none,errW_some] <;> rfl)|(simp only [← hji7];first|rfl|(simp [errW_none,errW_some] <;> rfl))|(simp [*,errW_none,errW_some] <;> rfl),by repeat (first|(with_reducible first|exact HB.out|apply bA|apply bN|apply bD|refine bS ?_ GE254.out|refine bS ?_ GE276.out)|exact HB.out)⟩
       ·replace c35:=Bool.eq_false_iff.mpr c35
        subst c35
        have H1 : (if t275 = 0 then (gazetteerlaw22_ModelRuns.j1 kj12 a1 y266 t272 ((t272.length : Int) != (y266.length : Int)) t256 t269) else (gazetteerlaw22_ModelRuns.j1 kj12 a1 y266 t272 true t256 t269)) = some r:=by rw [if_neg (show ¬ (false = true) by decide)] at H;exact H
        clear H
        have H:=H1
        clear H1
        have HC45:=Ak H
        clear H
        go_upto_region 12 with (fail)
        go_cut [66] (fun v66 wc => ∃ (kq : Nat) (x66_44 : Bool),v66 = .bool x66_44∧Aside0 (gazetteerlaw22_ModelRuns.j1 kq a1 y266 t272 x66_44 t256 t269 = some r)∧Aside0 (kq ≤ kj12)∧Aside0 (Kd.R k38 38 wc w.heap.size (fun _ => True) (.slice Ao25 y266.length co25) y266)∧Aside0 (Kd.S k41 41 wc w.heap.size (fun k_ => some k_ ≠ ((.slice Ao18 t256.length co18) : Value).ownBlock∧some k_ ≠ ((.slice Ao28 t269.length co28) : Value).ownBlock) v273 t272)∧Aside0 (Kd.R k51 51 wc w.heap.size (fun k_ => some k_ ≠ ((.slice Ao28 t269.length co28) : Value).ownBlock) (.slice Ao18 t256.length co18) t256)∧Aside0 (Kd.R k51 51 wc w.heap.size (fun k_ => some k_ ≠ ((.slice Ao18 t256.length co18) : Value).ownBlock) (.slice Ao28 t269.length co28) t269)∧Aside0 (wc.heap[gb254]? = some (.cells #[(.slice Ao18 t256.length co18)] 24 (0,0)))∧Aside0 (wc.heap[gb276]? = some (.cells #[(.slice Ao28 t269.length co28)] 24 (0,0)))∧Aside0 (Below w.heap.size w wc))
        case first =>
         have H:=HC45.out
         clear HC45
         by_cases c46 : t275 = 0
         ·rw [if_pos c46] at H
          have c46b0 : (t275 == 0) = true:=beq_iff_eq.mpr c46
          have c46b1 : (t275 != 0) = false:=bne_eq_false_iff_eq.mpr c46
          clear c46
          (first|rw [c46b0]|(simp only [i64_w,i32_w];rw [c46b0])|skip)
          have H':=Ak H
          clear H
          obtain ⟨Ao47,co47,eo47⟩:=Kd.S_slice HO_9.out
          subst eo47
          go_wp2
          go_meet
          case rel => exact ⟨_,(((t272.length : Int) != (y266.length : Int))),(by first|rfl|(simp;done)|(simp [*];done)),H',⟨by have:=HJ12.out;first|omega|exact Nat.le_refl _⟩,⟨by (with_reducible repeat (first|apply Kd.R_alloc|apply Kd.R_drewN|apply Kd.R_drew));exact HO_7.out⟩,⟨by (with_reducible repeat (first|apply Kd.S_alloc|apply Kd.S_drewN|apply Kd.S_drew));exact HO_9.out⟩,⟨by (with_reducible repeat (first|apply Kd.R_alloc|apply Kd.R_drewN|apply Kd.R_drew));exact HO_255000.out⟩,⟨by (with_reducible repeat (first|apply Kd.R_alloc|apply Kd.R_drewN|apply Kd.R_drew));exact HO_277000.out⟩,⟨by (with_reducible repeat (first|refine kN ?_ _|refine kD ?_|refine kA ?_ _));exact BK254.out⟩,⟨by (with_reducible repeat (first|refine kN ?_ _|refine kD ?_|refine kA ?_ _));exact BK276.out⟩,⟨by repeat (first|(with_reducible first|exact HB.out|apply bA|apply bN|apply bD|refine bS ?_ GE254.out|refine bS ?_ GE276.out)|exact HB.out)⟩⟩
         ·rw [if_neg c46] at H
          have c46b0 : (t275 == 0) = false:=beq_eq_false_iff_ne.mpr c46
          have c46b1 : (t275 != 0) = true:=bne_iff_ne.mpr c46
          (first|rw [c46b0]|(simp only [i64_w,i32_w];rw [c46b0])|skip)
          have H':=Ak H
          clear H
          go_wp2
          go_meet
          case rel => exact ⟨_,(true),(by first|rfl|(simp;done)|(simp [*];done)),H',⟨by have:=HJ12.out;first|omega|exact Nat.le_refl _⟩,⟨by (with_reducible repeat (first|apply Kd.R_alloc|apply Kd.R_drewN|apply Kd.R_drew));exact HO_7.out⟩,⟨by (with_reducible repeat (first|apply Kd.S_alloc|apply Kd.S_drewN|apply Kd.S_drew));exact HO_9.out⟩,⟨by (with_reducible repeat (first|apply Kd.R_alloc|apply Kd.R_drewN|apply Kd.R_drew));exact HO_255000.out⟩,⟨by (with_reducible repeat (first|apply Kd.R_alloc|apply Kd.R_drewN|apply Kd.R_drew));exact HO_277000.out⟩,⟨by (with_reducible repeat (first|refine kN ?_ _|refine kD ?_|refine kA ?_ _));exact BK254.out⟩,⟨by (with_reducible repeat (first|refine kN ?_ _|refine kD ?_|refine kA ?_ _));exact BK276.out⟩,⟨by repeat (first|(with_reducible first|exact HB.out|apply bA|apply bN|apply bD|refine bS ?_ GE254.out|refine bS ?_ GE276.out)|exact HB.out)⟩⟩
        case rest =>
         clear HC45
         try clear c1
         try clear c2
         try clear p2
         try clear q2
         try clear c3
         try clear c4
         try clear c5
         try clear p6
         try clear c8
         try clear c8b0
         try clear c8b1
         try clear c9
         try clear c9b0
         try clear c9b1
         try clear c10
         try clear c13
         try clear c14
         try clear c15
         try clear c16
         try clear q22
         try clear c29
         try clear c33
         try clear c35
         try clear c36
         try clear c37
         try clear c37b0
         try clear c37b1
         try clear c38
         try clear c41
         try clear c41b0
         try clear c41b1
         try clear c42
         try clear c46
         try clear c46b0
         try clear c46b1
         try clear hcz16_0
         try clear hcz19_0
         try clear hcz24_0
         try clear hcz30_0
         try clear hcz31_0
         try clear hcz39_0
         try clear hcz43_0
         try clear hfz16_0
         try clear hfz19_0
         try clear hfz24_0
         try clear hfz30_0
         try clear hfz31_0
         try clear hfz39_0
         try clear hfz43_0
         try clear p2
         try clear q2
         try clear q22
         obtain ⟨kq,x66_44,rfl,HA,HJ44,HO_7,HO_9,HO_255000,HO_277000,BK254,BK276,HB⟩:=hcut
         cases kq with
         | zero => exact absurd HA.out (by simp [gazetteerlaw22_ModelRuns.j1])
         | succ kj44 =>
          have H:=HA.out
          clear HA
          simp only [gazetteerlaw22_ModelRuns.j1] at H
          by_cases c48 : x66_44 = true
          ·subst c48
           have H1 : (some false) = some r:=by rw [if_pos rfl] at H;exact H
           clear H
           have H:=H1
           clear H1
           obtain rfl:=Option.some.inj H
           go_wp2
           go_ret
           exact ⟨by first|rfl|(simp [errW_none,errW_some] <;> rfl)|(simp only [← hji7];first|rfl|(simp [errW_none,errW_some] <;> rfl))|(simp [*,errW_none,errW_some] <;> rfl),by repeat (first|(with_reducible first|exact HB.out|apply bA|apply bN|apply bD|refine bS ?_ GE254.out|refine bS ?_ GE276.out)|exact HB.out)⟩
          ·replace c48:=Bool.eq_false_iff.mpr c48
           subst c48
           have H1 : (gazetteerlaw22_ModelRuns.l0 kj44 a1 t272 y266 (y266.length : Int) 0 t269 t256) = some r:=by rw [if_neg (show ¬ (false = true) by decide)] at H;exact H
           clear H
           have H:=H1
           clear H1
           have H':=Ak H
           clear H
           have hnb49:=NB254_276.out
           have hnc49:=NB276_254.out
           have hcz50_0 : wc.cell? ⟨gb254,0,none⟩ = some (.slice Ao18 t256.length co18):=(kC BK254.out 0).trans rfl
           have hfz50_0:=blk_frozen BK254.out 0
           go_wp2_with (first|((with_reducible refine gate_dst (N:=13) rfl ?_);(try (refine gate_guard (by rfl) ?_;dsimp only));refine box_event ?hg (N:=13) ?hd (cs:=#[.slice none 0 0]) (t:=24) ?hr ?_;(case hd => rfl);(case hg => rfl);(case hr => first|(go_simp;done)|(go_simp;rfl));intro gb279 hg w51 hbox hb;have n0_:=Ak (Kd.R_below (by (with_reducible repeat (first|apply Kd.R_alloc|apply Kd.R_drewN|apply Kd.R_drew));exact HO_7.out) hb);have n1_:=Ak (Kd.S_below (by (with_reducible repeat (first|apply Kd.S_alloc|apply Kd.S_drewN|apply Kd.S_drew));exact HO_9.out) hb);have n2_:=Ak (Kd.R_below (by (with_reducible repeat (first|apply Kd.R_alloc|apply Kd.R_drewN|apply Kd.R_drew));exact HO_255000.out) hb);have n3_:=Ak (Kd.R_below (by (with_reducible repeat (first|apply Kd.R_alloc|apply Kd.R_drewN|apply Kd.R_drew));exact HO_277000.out) hb);have n4_:=Ak (kB (g:=gb254) (o:=.cells #[.slice Ao18 t256.length co18] 24 (0,0)) (by (with_reducible repeat (first|refine kN ?_ _|refine kD ?_|refine kA ?_ _));exact BK254.out) hb);have n5_:=Ak (kB (g:=gb276) (o:=.cells #[.slice Ao28 t269.length co28] 24 (0,0)) (by (with_reducible repeat (first|refine kN ?_ _|refine kD ?_|refine kA ?_ _));exact BK276.out) hb);have n6_:=Ak (below_step (by repeat (first|(with_reducible first|exact HB.out|apply bA|apply bN|apply bD|refine bS ?_ GE254.out|refine bS ?_ GE276.out)|exact HB.out)) hb);have n7_:=Ak (hbox);have n8_:=Ak ((by rw [hg];exact (below_size (by repeat (first|(with_reducible first|exact HB.out|apply bA|apply bN|apply bD|refine bS ?_ GE254.out|refine bS ?_ GE276.out)|exact HB.out))) : w.heap.size ≤ gb279));have n9_:=Ak ((by rw [hg];exact (below_size (by repeat (first|(with_reducible first|exact HB.out|apply bA|apply bN|apply bD|refine bS ?_ GE254.out|refine bS ?_ GE276.out)|exact HB.out))) : w.heap.size ≤ gb279));have n10_:=Ak ((by rw [hg];exact Nat.ne_of_lt (blk_lt (g:=gb254) (o:=.cells #[.slice Ao18 t256.length co18] 24 (0,0)) (by (with_reducible repeat (first|refine kN ?_ _|refine kD ?_|refine kA ?_ _));exact BK254.out)) : gb254 ≠ gb279));have n11_:=Ak ((by rw [hg];exact Nat.ne_of_gt (blk_lt (g:=gb254) (o:=.cells #[.slice Ao18 t256.length co18] 24 (0,0)) (by (with_reducible repeat (first|refine kN ?_ _|refine kD ?_|refine kA ?_ _));exact BK254.out)) : gb279 ≠ gb254));have n12_:=Ak ((by rw [hg];exact Nat.ne_of_lt (blk_lt (g:=gb276) (o:=.cells #[.slice Ao28 t269.length co28] 24 (0,0)) (by (with_reducible repeat (first|refine kN ?_ _|refine kD ?_|refine kA ?_ _));exact BK276.out)) : gb276 ≠ gb279));have n13_:=Ak ((by rw [hg];exact Nat.ne_of_gt (blk_lt (g:=gb276) (o:=.cells #[.slice Ao28 t269.length co28] 24 (0,0)) (by (with_reducible repeat (first|refine kN ?_ _|refine kD ?_|refine kA ?_ _));exact BK276.out)) : gb279 ≠ gb276));clear HO_7;clear HO_9;clear HO_255000;clear HO_277000;clear BK254;clear BK276;clear HB;have HO_7:=n0_;have HO_9:=n1_;have HO_255000:=n2_;have HO_277000:=n3_;have BK254:=n4_;have BK276:=n5_;have HB:=n6_;have BK279:=n7_;have GW279:=n8_;have GE279:=n9_;have NB254_279:=n10_;have NB279_254:=n11_;have NB276_279:=n12_;have NB279_276:=n13_;clear n0_ n1_ n2_ n3_ n4_ n5_ n6_ n7_ n8_ n9_ n10_ n11_ n12_ n13_;clear hb hbox hg;have hnb52:=NB279_254.out;have hnc52:=NB254_279.out;have hnb53:=NB279_276.out;have hnc53:=NB276_279.out;have hcz54_0 : w51.cell? ⟨gb279,0,none⟩ = some (.slice none 0 0):=(kC BK279.out 0).trans rfl;have hfz54_0:=blk_frozen BK279.out 0))
           go_loopg [70] kj44 (fun kq v70 w' => ∃ (x70_3 : Int) (x280000_3 : List (S51)) (u280000 : Value),v70 = .int .i64 x70_3∧Aside0 (gazetteerlaw22_ModelRuns.l0 kq a1 t272 y266 (y266.length : Int) x70_3 t269 x280000_3 = some r)∧Aside0 (kq ≤ kj44)∧Aside0 (Kd.S k41 41 w' w.heap.size (fun k_ => some k_ ≠ ((.slice Ao18 t256.length co18) : Value).ownBlock∧some k_ ≠ ((.slice Ao28 t269.length co28) : Value).ownBlock∧some k_ ≠ (u280000 : Value).ownBlock) v273 t272)∧Aside0 (Kd.R k38 38 w' w.heap.size (fun _ => True) (.slice Ao25 y266.length co25) y266)∧Aside0 (Kd.R k51 51 w' w.heap.size (fun k_ => some k_ ≠ ((.slice Ao28 t269.length co28) : Value).ownBlock) (.slice Ao18 t256.length co18) t256)∧Aside0 (Kd.R k51 51 w' w.heap.size (fun k_ => some k_ ≠ ((.slice Ao18 t256.length co18) : Value).ownBlock∧some k_ ≠ (u280000 : Value).ownBlock) (.slice Ao28 t269.length co28) t269)∧Aside0 (Kd.R k51 51 w' w.heap.size (fun k_ => some k_ ≠ ((.slice Ao28 t269.length co28) : Value).ownBlock) u280000 x280000_3)∧Aside0 (w'.heap[gb254]? = some (.cells #[(.slice Ao18 t256.length co18)] 24 (0,0)))∧Aside0 (w'.heap[gb276]? = some (.cells #[(.slice Ao28 t269.length co28)] 24 (0,0)))∧Aside0 (w'.heap[gb279]? = some (.cells #[u280000] 24 (0,0)))∧Aside0 (Below w.heap.size w w'))
           case atStart => exact ⟨(0),(t256),(.slice Ao18 t256.length co18),(by first|rfl|(simp;done)|(simp [*];done)),H',⟨Nat.le_refl _⟩,⟨by (with_reducible repeat (first|apply Kd.S_alloc|apply Kd.S_drewN|apply Kd.S_drew));exact Kd.S_mono (Kd.S_far (p:=⟨gb279,0,none⟩) (Kd.S_types HO_9.out BK279.out (by decide)) (fun _ hk => hk.2) (.slice Ao18 t256.length co18)) (fun _ hk => ⟨hk.1.1,⟨hk.1.2,hk.1.1⟩⟩)⟩,⟨by (with_reducible repeat (first|apply Kd.R_alloc|apply Kd.R_drewN|apply Kd.R_drew));exact Kd.R_mono (Kd.R_far (p:=⟨gb279,0,none⟩) (Kd.R_types HO_7.out BK279.out (by decide)) (fun _ hk => hk.2) (.slice Ao18 t256.length co18)) (fun _ hk => trivial)⟩,⟨by (with_reducible repeat (first|apply Kd.R_alloc|apply Kd.R_drewN|apply Kd.R_drew));exact Kd.R_mono (Kd.R_far (p:=⟨gb279,0,none⟩) (Kd.R_types HO_255000.out BK279.out (by decide)) (fun _ hk => hk.2) (.slice Ao18 t256.length co18)) (fun _ hk => hk.1)⟩,⟨by (with_reducible repeat (first|apply Kd.R_alloc|apply Kd.R_drewN|apply Kd.R_drew));exact Kd.R_mono (Kd.R_far (p:=⟨gb279,0,none⟩) (Kd.R_types HO_277000.out BK279.out (by decide)) (fun _ hk => hk.2) (.slice Ao18 t256.length co18)) (fun _ hk => ⟨hk.1,hk.1⟩)⟩,⟨by (with_reducible repeat (first|apply Kd.R_alloc|apply Kd.R_drewN|apply Kd.R_drew));exact Kd.R_mono (Kd.R_far (p:=⟨gb279,0,none⟩) (Kd.R_types HO_255000.out BK279.out (by decide)) (fun _ hk => hk.2) (.slice Ao18 t256.length co18)) (fun _ hk => hk.1)⟩,⟨by (with_reducible repeat (first|refine kN ?_ _|refine kD ?_|refine kA ?_ _));refine blk_far ?_ NB254_279.out _;(with_reducible repeat (first|refine kN ?_ _|refine kD ?_|refine kA ?_ _));exact BK254.out⟩,⟨by (with_reducible repeat (first|refine kN ?_ _|refine kD ?_|refine kA ?_ _));refine blk_far ?_ NB276_279.out _;(with_reducible repeat (first|refine kN ?_ _|refine kD ?_|refine kA ?_ _));exact BK276.out⟩,⟨by (with_reducible repeat (first|refine kN ?_ _|refine kD ?_|refine kA ?_ _));refine blk_put (cs:=#[.slice none 0 0]) ?_ 0 _ rfl;(with_reducible repeat (first|refine kN ?_ _|refine kD ?_|refine kA ?_ _));exact BK279.out⟩,⟨by repeat (first|(with_reducible first|exact HB.out|apply bA|apply bN|apply bD|refine bS ?_ GE254.out|refine bS ?_ GE276.out|refine bS ?_ GE279.out)|exact HB.out)⟩⟩
           case round =>
            clear H'
            try clear c1
            try clear c2
            try clear p2
            try clear q2
            try clear c3
            try clear c4
            try clear c5
            try clear p6
            try clear c8
            try clear c8b0
            try clear c8b1
            try clear c9
            try clear c9b0
            try clear c9b1
            try clear c10
            try clear c13
            try clear c14
            try clear c15
            try clear c16
            try clear q22
            try clear c29
            try clear c33
            try clear c35
            try clear c36
            try clear c37
            try clear c37b0
            try clear c37b1
            try clear c38
            try clear c41
            try clear c41b0
            try clear c41b1
            try clear c42
            try clear c46
            try clear c46b0
            try clear c46b1
            try clear c48
            try clear c49
            try clear c52
            try clear c53
            try clear hcz16_0
            try clear hcz19_0
            try clear hcz24_0
            try clear hcz30_0
            try clear hcz31_0
            try clear hcz39_0
            try clear hcz43_0
            try clear hcz50_0
            try clear hcz54_0
            try clear hfz16_0
            try clear hfz19_0
            try clear hfz24_0
            try clear hfz30_0
            try clear hfz31_0
            try clear hfz39_0
            try clear hfz43_0
            try clear hfz50_0
            try clear hfz54_0
            try clear p2
            try clear p6
            try clear q2
            try clear q22
            obtain ⟨x70_3,x280000_3,u280000,rfl,HA,HK3,HO_9,HO_68,HO_255000,HO_277000,HO_280000,BK254,BK276,BK279,HB⟩:=hrel
            cases gk with
            | zero => exact absurd HA.out (by simp [gazetteerlaw22_ModelRuns.l0])
            | succ k3 =>
             have H:=HA.out
             clear HA
             simp only [gazetteerlaw22_ModelRuns.l0] at H
             by_cases c55 : x70_3 < (y266.length : Int)
             ·rw [if_pos c55] at H
              have c55b0 : decide (x70_3 < (y266.length : Int)) = true:=decide_eq_true c55
              clear c55
              by_cases c56 : 0 ≤ x70_3
              ·rw [if_pos c56] at H
               have c56b0 : decide (0 ≤ x70_3) = true:=decide_eq_true c56
               clear c56
               by_cases c57 : x70_3 < (y266.length : Int)
               ·rw [if_pos c57] at H
                have c57b0 : decide (x70_3 < (y266.length : Int)) = true:=decide_eq_true c57
                clear c57
                replace H:=Option.bind_eq_some_iff.mp H
                obtain ⟨⟨t284,t287,t288,t289⟩,A580,H⟩:=H
                replace H : (if x70_3 < (t272.length : Int) then ((gazetteerref22_Alike.f k3 ((rd_T41 t272 x70_3).f0) ((rd_T41 t272 x70_3).f1) ((rd_T41 t272 x70_3).f2) t287 t288 t289).bind fun t293 => (if t293 = true then (gazetteerlaw22_ModelRuns.l0 k3 a1 t272 y266 (y266.length : Int) (wrap64 (x70_3+1)) t269 t284) else (some false))) else (none)) = some r:=H
                have A58:=Ak A580
                clear A580
                by_cases c59 : x70_3 < (t272.length : Int)
                ·rw [if_pos c59] at H
                 have c59b0 : decide (x70_3 < (t272.length : Int)) = true:=decide_eq_true c59
                 clear c59
                 replace H:=Option.bind_eq_some_iff.mp H
                 obtain ⟨t293,A600,H⟩:=H
                 replace H : (if t293 = true then (gazetteerlaw22_ModelRuns.l0 k3 a1 t272 y266 (y266.length : Int) (wrap64 (x70_3+1)) t269 t284) else (some false)) = some r:=H
                 have A60:=Ak A600
                 clear A600
                 by_cases c61 : t293 = true
                 ·subst c61
                  have H1 : (gazetteerlaw22_ModelRuns.l0 k3 a1 t272 y266 (y266.length : Int) (wrap64 (x70_3+1)) t269 t284) = some r:=by rw [if_pos rfl] at H;exact H
                  clear H
                  have H:=H1
                  clear H1
                  have H':=Ak H
                  clear H
                  have p281 : 0 ≤ (x70_3 : Int):=of_decide_eq_true (by first|(with_reducible assumption)|assumption)
                  have q281 : x70_3 < (y266.length : Int):=of_decide_eq_true (by first|(with_reducible assumption)|assumption)
                  obtain ⟨ad281,e281,hx281_0,hx281_1,hx281_2,hx281_3,hx281_4,hx281_5,hx281_6,hx281_7⟩:=at_T38 (Kd.R_reads' HO_68.out).2.2 x70_3 p281 q281
                  cases e281
                  replace p281:=eq_true p281
                  replace q281:=eq_true q281
                  try go_wp2_with (first|((with_reducible refine gate_dst (N:=15) rfl ?_);(try (refine gate_guard (by rfl) ?_;dsimp only));refine box_event ?hg (N:=15) ?hd (cs:=#[.int .i64 0,.bool false,.int .u32 0,.int .i64 0,.int .i64 0,.int .i64 0,.int .i64 0,.int .i64 0]) (t:=38) ?hr ?_;(case hd => rfl);(case hg => rfl);(case hr => first|(go_simp;done)|(go_simp;rfl));intro gb282 hg w62 hbox hb;have n0_:=Ak (Kd.S_below (by (with_reducible repeat (first|apply Kd.S_alloc|apply Kd.S_drewN|apply Kd.S_drew));exact HO_9.out) hb);have n1_:=Ak (Kd.R_below (Kd.R_elderB (by (with_reducible repeat (first|apply Kd.R_alloc|apply Kd.R_drewN|apply Kd.R_drew));exact HO_68.out) gb282 (Nat.le_of_eq hg.symm)) hb);have n2_:=Ak (Kd.R_below (by (with_reducible repeat (first|apply Kd.R_alloc|apply Kd.R_drewN|apply Kd.R_drew));exact HO_255000.out) hb);have n3_:=Ak (Kd.R_below (by (with_reducible repeat (first|apply Kd.R_alloc|apply Kd.R_drewN|apply Kd.R_drew));exact HO_277000.out) hb);have n4_:=Ak (Kd.R_below (by (with_reducible repeat (first|apply Kd.R_alloc|apply Kd.R_drewN|apply Kd.R_drew));exact HO_280000.out) hb);have n5_:=Ak (kB (g:=gb254) (o:=.cells #[.slice Ao18 t256.length co18] 24 (0,0)) (by (with_reducible repeat (first|refine kN ?_ _|refine kD ?_|refine kA ?_ _));exact BK254.out) hb);have n6_:=Ak (kB (g:=gb276) (o:=.cells #[.slice Ao28 t269.length co28] 24 (0,0)) (by (with_reducible repeat (first|refine kN ?_ _|refine kD ?_|refine kA ?_ _));exact BK276.out) hb);have n7_:=Ak (kB (g:=gb279) (o:=.cells #[u280000] 24 (0,0)) (by (with_reducible repeat (first|refine kN ?_ _|refine kD ?_|refine kA ?_ _));exact BK279.out) hb);have n8_:=Ak (below_step (by repeat (first|(with_reducible first|exact HB.out|apply bA|apply bN|apply bD|refine bS ?_ GE254.out|refine bS ?_ GE276.out|refine bS ?_ GE279.out)|exact HB.out)) hb);have n9_:=Ak (hbox);have n10_:=Ak ((by rw [hg];exact (below_size (by repeat (first|(with_reducible first|exact HB.out|apply bA|apply bN|apply bD|refine bS ?_ GE254.out|refine bS ?_ GE276.out|refine bS ?_ GE279.out)|exact HB.out))) : w.heap.size ≤ gb282));have n11_:=Ak ((by rw [hg];exact (below_size (by repeat (first|(with_reducible first|exact HB.out|apply bA|apply bN|apply bD|refine bS ?_ GE254.out|refine bS ?_ GE276.out|refine bS ?_ GE279.out)|exact HB.out))) : w.heap.size ≤ gb282));have n12_:=Ak ((by rw [hg];exact Nat.ne_of_lt (blk_lt (g:=gb254) (o:=.cells #[.slice Ao18 t256.length co18] 24 (0,0)) (by (with_reducible repeat (first|refine kN ?_ _|refine kD ?_|refine kA ?_ _));exact BK254.out)) : gb254 ≠ gb282));have n13_:=Ak ((by rw [hg];exact Nat.ne_of_gt (blk_lt (g:=gb254) (o:=.cells #[.slice Ao18 t256.length co18] 24 (0,0)) (by (with_reducible repeat (first|refine kN ?_ _|refine kD ?_|refine kA ?_ _));exact BK254.out)) : gb282 ≠ gb254));have n14_:=Ak ((by rw [hg];exact Nat.ne_of_lt (blk_lt (g:=gb276) (o:=.cells #[.slice Ao28 t269.length co28] 24 (0,0)) (by (with_reducible repeat (first|refine kN ?_ _|refine kD ?_|refine kA ?_ _));exact BK276.out)) : gb276 ≠ gb282));have n15_:=Ak ((by rw [hg];exact Nat.ne_of_gt (blk_lt (g:=gb276) (o:=.cells #[.slice Ao28 t269.length co28] 24 (0,0)) (by (with_reducible repeat (first|refine kN ?_ _|refine kD ?_|refine kA ?_ _));exact BK276.out)) : gb282 ≠ gb276));have n16_:=Ak ((by rw [hg];exact Nat.ne_of_lt (blk_lt (g:=gb279) (o:=.cells #[u280000] 24 (0,0)) (by (with_reducible repeat (first|refine kN ?_ _|refine kD ?_|refine kA ?_ _));exact BK279.out)) : gb279 ≠ gb282));have n17_:=Ak ((by rw [hg];exact Nat.ne_of_gt (blk_lt (g:=gb279) (o:=.cells #[u280000] 24 (0,0)) (by (with_reducible repeat (first|refine kN ?_ _|refine kD ?_|refine kA ?_ _));exact BK279.out)) : gb282 ≠ gb279));clear HO_9;clear HO_68;clear HO_255000;clear HO_277000;clear HO_280000;clear BK254;clear BK276;clear BK279;clear HB;have HO_9:=n0_;have HO_68:=n1_;have HO_255000:=n2_;have HO_277000:=n3_;have HO_280000:=n4_;have BK254:=n5_;have BK276:=n6_;have BK279:=n7_;have HB:=n8_;have BK282:=n9_;have GW282:=n10_;have GE282:=n11_;have NB254_282:=n12_;have NB282_254:=n13_;have NB276_282:=n14_;have NB282_276:=n15_;have NB279_282:=n16_;have NB282_279:=n17_;clear n0_ n1_ n2_ n3_ n4_ n5_ n6_ n7_ n8_ n9_ n10_ n11_ n12_ n13_ n14_ n15_ n16_ n17_;clear hb hbox hg;have hnb63:=NB282_254.out;have hnc63:=NB254_282.out;have hnb64:=NB282_276.out;have hnc64:=NB276_282.out;have hnb65:=NB282_279.out;have hnc65:=NB279_282.out;have hcz66_0 : w62.cell? ⟨gb282,0,none⟩ = some (.int .i64 0):=(kC BK282.out 0).trans rfl;have hcz66_1 : w62.cell? ⟨gb282,1,none⟩ = some (.bool false):=(kC BK282.out 1).trans rfl;have hcz66_2 : w62.cell? ⟨gb282,2,none⟩ = some (.int .u32 0):=(kC BK282.out 2).trans rfl;have hcz66_3 : w62.cell? ⟨gb282,3,none⟩ = some (.int .i64 0):=(kC BK282.out 3).trans rfl;have hcz66_4 : w62.cell? ⟨gb282,4,none⟩ = some (.int .i64 0):=(kC BK282.out 4).trans rfl;have hcz66_5 : w62.cell? ⟨gb282,5,none⟩ = some (.int .i64 0):=(kC BK282.out 5).trans rfl;have hcz66_6 : w62.cell? ⟨gb282,6,none⟩ = some (.int .i64 0):=(kC BK282.out 6).trans rfl;have hcz66_7 : w62.cell? ⟨gb282,7,none⟩ = some (.int .i64 0):=(kC BK282.out 7).trans rfl;have hfz66_0:=blk_frozen BK282.out 0;have hfz66_1:=blk_frozen BK282.out 1;have hfz66_2:=blk_frozen BK282.out 2;have hfz66_3:=blk_frozen BK282.out 3;have hfz66_4:=blk_frozen BK282.out 4;have hfz66_5:=blk_frozen BK282.out 5;have hfz66_6:=blk_frozen BK282.out 6;have hfz66_7:=blk_frozen BK282.out 7)|((with_reducible refine gate_dst (N:=16) rfl ?_);(try (refine gate_guard (by rfl) ?_;dsimp only));refine box_event ?hg (N:=16) ?hd (cs:=#[.int .i64 0,.int .u64 0,.slice none 0 0]) (t:=41) ?hr ?_;(case hd => rfl);(case hg => rfl);(case hr => first|(go_simp;done)|(go_simp;rfl));intro gb283 hg w67 hbox hb;have n0_:=Ak (Kd.S_below (Kd.S_elderB (by (with_reducible repeat (first|apply Kd.S_alloc|apply Kd.S_drewN|apply Kd.S_drew));exact (Kd.S_mono (Kd.S_far (p:=⟨gb282,7,none⟩) (Kd.S_far (p:=⟨gb282,6,none⟩) (Kd.S_far (p:=⟨gb282,5,none⟩) (Kd.S_far (p:=⟨gb282,4,none⟩) (Kd.S_far (p:=⟨gb282,3,none⟩) (Kd.S_far (p:=⟨gb282,2,none⟩) (Kd.S_far (p:=⟨gb282,1,none⟩) (Kd.S_far (p:=⟨gb282,0,none⟩) (Kd.S_types HO_9.out BK282.out (by decide)) (fun _ hk => hk.2) (.int .i64 ((rd_T38 y266 x70_3).f0))) (fun _ hk => hk.2) (.bool ((rd_T38 y266 x70_3).f1))) (fun _ hk => hk.2) (.int .u32 ((rd_T38 y266 x70_3).f2))) (fun _ hk => hk.2) (.int .i64 ((rd_T38 y266 x70_3).f3.f0))) (fun _ hk => hk.2) (.int .i64 ((rd_T38 y266 x70_3).f3.f1))) (fun _ hk => hk.2) (.int .i64 ((rd_T38 y266 x70_3).f3.f2))) (fun _ hk => hk.2) (.int .i64 ((rd_T38 y266 x70_3).f3.f3))) (fun _ hk => hk.2) (.int .i64 ((rd_T38 y266 x70_3).f4))) (fun _ h_ => h_.1))) gb283 (Nat.le_of_eq hg.symm)) hb);have n1_:=Ak (Kd.R_below (by (with_reducible repeat (first|apply Kd.R_alloc|apply Kd.R_drewN|apply Kd.R_drew));exact (Kd.R_mono (Kd.R_far (p:=⟨gb282,7,none⟩) (Kd.R_far (p:=⟨gb282,6,none⟩) (Kd.R_far (p:=⟨gb282,5,none⟩) (Kd.R_far (p:=⟨gb282,4,none⟩) (Kd.R_far (p:=⟨gb282,3,none⟩) (Kd.R_far (p:=⟨gb282,2,none⟩) (Kd.R_far (p:=⟨gb282,1,none⟩) (Kd.R_far (p:=⟨gb282,0,none⟩) (Kd.R_mono HO_68.out (fun k_ hk => (⟨hk,hk.2⟩ : _∧k_ ≠ gb282))) (fun _ hk => hk.2) (.int .i64 ((rd_T38 y266 x70_3).f0))) (fun _ hk => hk.2) (.bool ((rd_T38 y266 x70_3).f1))) (fun _ hk => hk.2) (.int .u32 ((rd_T38 y266 x70_3).f2))) (fun _ hk => hk.2) (.int .i64 ((rd_T38 y266 x70_3).f3.f0))) (fun _ hk => hk.2) (.int .i64 ((rd_T38 y266 x70_3).f3.f1))) (fun _ hk => hk.2) (.int .i64 ((rd_T38 y266 x70_3).f3.f2))) (fun _ hk => hk.2) (.int .i64 ((rd_T38 y266 x70_3).f3.f3))) (fun _ hk => hk.2) (.int .i64 ((rd_T38 y266 x70_3).f4))) (fun _ h_ => h_.1))) hb);have n2_:=Ak (Kd.R_below (by (with_reducible repeat (first|apply Kd.R_alloc|apply Kd.R_drewN|apply Kd.R_drew));exact (Kd.R_mono (Kd.R_far (p:=⟨gb282,7,none⟩) (Kd.R_far (p:=⟨gb282,6,none⟩) (Kd.R_far (p:=⟨gb282,5,none⟩) (Kd.R_far (p:=⟨gb282,4,none⟩) (Kd.R_far (p:=⟨gb282,3,none⟩) (Kd.R_far (p:=⟨gb282,2,none⟩) (Kd.R_far (p:=⟨gb282,1,none⟩) (Kd.R_far (p:=⟨gb282,0,none⟩) (Kd.R_types HO_255000.out BK282.out (by decide)) (fun _ hk => hk.2) (.int .i64 ((rd_T38 y266 x70_3).f0))) (fun _ hk => hk.2) (.bool ((rd_T38 y266 x70_3).f1))) (fun _ hk => hk.2) (.int .u32 ((rd_T38 y266 x70_3).f2))) (fun _ hk => hk.2) (.int .i64 ((rd_T38 y266 x70_3).f3.f0))) (fun _ hk => hk.2) (.int .i64 ((rd_T38 y266 x70_3).f3.f1))) (fun _ hk => hk.2) (.int .i64 ((rd_T38 y266 x70_3).f3.f2))) (fun _ hk => hk.2) (.int .i64 ((rd_T38 y266 x70_3).f3.f3))) (fun _ hk => hk.2) (.int .i64 ((rd_T38 y266 x70_3).f4))) (fun _ h_ => h_.1))) hb);have n3_:=Ak (Kd.R_below (by (with_reducible repeat (first|apply Kd.R_alloc|apply Kd.R_drewN|apply Kd.R_drew));exact (Kd.R_mono (Kd.R_far (p:=⟨gb282,7,none⟩) (Kd.R_far (p:=⟨gb282,6,none⟩) (Kd.R_far (p:=⟨gb282,5,none⟩) (Kd.R_far (p:=⟨gb282,4,none⟩) (Kd.R_far (p:=⟨gb282,3,none⟩) (Kd.R_far (p:=⟨gb282,2,none⟩) (Kd.R_far (p:=⟨gb282,1,none⟩) (Kd.R_far (p:=⟨gb282,0,none⟩) (Kd.R_types HO_277000.out BK282.out (by decide)) (fun _ hk => hk.2) (.int .i64 ((rd_T38 y266 x70_3).f0))) (fun _ hk => hk.2) (.bool ((rd_T38 y266 x70_3).f1))) (fun _ hk => hk.2) (.int .u32 ((rd_T38 y266 x70_3).f2))) (fun _ hk => hk.2) (.int .i64 ((rd_T38 y266 x70_3).f3.f0))) (fun _ hk => hk.2) (.int .i64 ((rd_T38 y266 x70_3).f3.f1))) (fun _ hk => hk.2) (.int .i64 ((rd_T38 y266 x70_3).f3.f2))) (fun _ hk => hk.2) (.int .i64 ((rd_T38 y266 x70_3).f3.f3))) (fun _ hk => hk.2) (.int .i64 ((rd_T38 y266 x70_3).f4))) (fun _ h_ => h_.1))) hb);have n4_:=Ak (Kd.R_below (by (with_reducible repeat (first|apply Kd.R_alloc|apply Kd.R_drewN|apply Kd.R_drew));exact (Kd.R_mono (Kd.R_far (p:=⟨gb282,7,none⟩) (Kd.R_far (p:=⟨gb282,6,none⟩) (Kd.R_far (p:=⟨gb282,5,none⟩) (Kd.R_far (p:=⟨gb282,4,none⟩) (Kd.R_far (p:=⟨gb282,3,none⟩) (Kd.R_far (p:=⟨gb282,2,none⟩) (Kd.R_far (p:=⟨gb282,1,none⟩) (Kd.R_far (p:=⟨gb282,0,none⟩) (Kd.R_types HO_280000.out BK282.out (by decide)) (fun _ hk => hk.2) (.int .i64 ((rd_T38 y266 x70_3).f0))) (fun _ hk => hk.2) (.bool ((rd_T38 y266 x70_3).f1))) (fun _ hk => hk.2) (.int .u32 ((rd_T38 y266 x70_3).f2))) (fun _ hk => hk.2) (.int .i64 ((rd_T38 y266 x70_3).f3.f0))) (fun _ hk => hk.2) (.int .i64 ((rd_T38 y266 x70_3).f3.f1))) (fun _ hk => hk.2) (.int .i64 ((rd_T38 y266 x70_3).f3.f2))) (fun _ hk => hk.2) (.int .i64 ((rd_T38 y266 x70_3).f3.f3))) (fun _ hk => hk.2) (.int .i64 ((rd_T38 y266 x70_3).f4))) (fun _ h_ => h_.1))) hb);have n5_:=Ak (kB (g:=gb254) (o:=.cells #[.slice Ao18 t256.length co18] 24 (0,0)) (by (with_reducible repeat (first|refine kN ?_ _|refine kD ?_|refine kA ?_ _));refine blk_far ?_ NB254_282.out _;(with_reducible repeat (first|refine kN ?_ _|refine kD ?_|refine kA ?_ _));refine blk_far ?_ NB254_282.out _;(with_reducible repeat (first|refine kN ?_ _|refine kD ?_|refine kA ?_ _));refine blk_far ?_ NB254_282.out _;(with_reducible repeat (first|refine kN ?_ _|refine kD ?_|refine kA ?_ _));refine blk_far ?_ NB254_282.out _;(with_reducible repeat (first|refine kN ?_ _|refine kD ?_|refine kA ?_ _));refine blk_far ?_ NB254_282.out _;(with_reducible repeat (first|refine kN ?_ _|refine kD ?_|refine kA ?_ _));refine blk_far ?_ NB254_282.out _;(with_reducible repeat (first|refine kN ?_ _|refine kD ?_|refine kA ?_ _));refine blk_far ?_ NB254_282.out _;(with_reducible repeat (first|refine kN ?_ _|refine kD ?_|refine kA ?_ _));refine blk_far ?_ NB254_282.out _;(with_reducible repeat (first|refine kN ?_ _|refine kD ?_|refine kA ?_ _));exact BK254.out) hb);have n6_:=Ak (kB (g:=gb276) (o:=.cells #[.slice Ao28 t269.length co28] 24 (0,0)) (by (with_reducible repeat (first|refine kN ?_ _|refine kD ?_|refine kA ?_ _));refine blk_far ?_ NB276_282.out _;(with_reducible repeat (first|refine kN ?_ _|refine kD ?_|refine kA ?_ _));refine blk_far ?_ NB276_282.out _;(with_reducible repeat (first|refine kN ?_ _|refine kD ?_|refine kA ?_ _));refine blk_far ?_ NB276_282.out _;(with_reducible repeat (first|refine kN ?_ _|refine kD ?_|refine kA ?_ _));refine blk_far ?_ NB276_282.out _;(with_reducible repeat (first|refine kN ?_ _|refine kD ?_|refine kA ?_ _));refine blk_far ?_ NB276_282.out _;(with_reducible repeat (first|refine kN ?_ _|refine kD ?_|refine kA ?_ _));refine blk_far ?_ NB276_282.out _;(with_reducible repeat (first|refine kN ?_ _|refine kD ?_|refine kA ?_ _));refine blk_far ?_ NB276_282.out _;(with_reducible repeat (first|refine kN ?_ _|refine kD ?_|refine kA ?_ _));refine blk_far ?_ NB276_282.out _;(with_reducible repeat (first|refine kN ?_ _|refine kD ?_|refine kA ?_ _));exact BK276.out) hb);have n7_:=Ak (kB (g:=gb279) (o:=.cells #[u280000] 24 (0,0)) (by (with_reducible repeat (first|refine kN ?_ _|refine kD ?_|refine kA ?_ _));refine blk_far ?_ NB279_282.out _;(with_reducible repeat (first|refine kN ?_ _|refine kD ?_|refine kA ?_ _));refine blk_far ?_ NB279_282.out _;(with_reducible repeat (first|refine kN ?_ _|refine kD ?_|refine kA ?_ _));refine blk_far ?_ NB279_282.out _;(with_reducible repeat (first|refine kN ?_ _|refine kD ?_|refine kA ?_ _));refine blk_far ?_ NB279_282.out _;(with_reducible repeat (first|refine kN ?_ _|refine kD ?_|refine kA ?_ _));refine blk_far ?_ NB279_282.out _;(with_reducible repeat (first|refine kN ?_ _|refine kD ?_|refine kA ?_ _));refine blk_far ?_ NB279_282.out _;(with_reducible repeat (first|refine kN ?_ _|refine kD ?_|refine kA ?_ _));refine blk_far ?_ NB279_282.out _;(with_reducible repeat (first|refine kN ?_ _|refine kD ?_|refine kA ?_ _));refine blk_far ?_ NB279_282.out _;(with_reducible repeat (first|refine kN ?_ _|refine kD ?_|refine kA ?_ _));exact BK279.out) hb);have n8_:=Ak (kB (g:=gb282) (o:=.cells #[.int .i64 ((rd_T38 y266 x70_3).f0),.bool ((rd_T38 y266 x70_3).f1),.int .u32 ((rd_T38 y266 x70_3).f2),.int .i64 ((rd_T38 y266 x70_3).f3.f0),.int .i64 ((rd_T38 y266 x70_3).f3.f1),.int .i64 ((rd_T38 y266 x70_3).f3.f2),.int .i64 ((rd_T38 y266 x70_3).f3.f3),.int .i64 ((rd_T38 y266 x70_3).f4)] 38 (0,0)) (by (with_reducible repeat (first|refine kN ?_ _|refine kD ?_|refine kA ?_ _));refine blk_put (cs:=#[.int .i64 ((rd_T38 y266 x70_3).f0),.bool ((rd_T38 y266 x70_3).f1),.int .u32 ((rd_T38 y266 x70_3).f2),.int .i64 ((rd_T38 y266 x70_3).f3.f0),.int .i64 ((rd_T38 y266 x70_3).f3.f1),.int .i64 ((rd_T38 y266 x70_3).f3.f2),.int .i64 ((rd_T38 y266 x70_3).f3.f3),.int .i64 0]) ?_ 7 _ rfl;(with_reducible repeat (first|refine kN ?_ _|refine kD ?_|refine kA ?_ _));refine blk_put (cs:=#[.int .i64 ((rd_T38 y266 x70_3).f0),.bool ((rd_T38 y266 x70_3).f1),.int .u32 ((rd_T38 y266 x70_3).f2),.int .i64 ((rd_T38 y266 x70_3).f3.f0),.int .i64 ((rd_T38 y266 x70_3).f3.f1),.int .i64 ((rd_T38 y266 x70_3).f3.f2),.int .i64 0,.int .i64 0]) ?_ 6 _ rfl;(with_reducible repeat (first|refine kN ?_ _|refine kD ?_|refine kA ?_ _));refine blk_put (cs:=#[.int .i64 ((rd_T38 y266 x70_3).f0),.bool ((rd_T38 y266 x70_3).f1),.int .u32 ((rd_T38 y266 x70_3).f2),.int .i64 ((rd_T38 y266 x70_3).f3.f0),.int .i64 ((rd_T38 y266 x70_3).f3.f1),.int .i64 0,.int .i64 0,.int .i64 0]) ?_ 5 _ rfl;(with_reducible repeat (first|refine kN ?_ _|refine kD ?_|refine kA ?_ _));refine blk_put (cs:=#[.int .i64 ((rd_T38 y266 x70_3).f0),.bool ((rd_T38 y266 x70_3).f1),.int .u32 ((rd_T38 y266 x70_3).f2),.int .i64 ((rd_T38 y266 x70_3).f3.f0),.int .i64 0,.int .i64 0,.int .i64 0,.int .i64 0]) ?_ 4 _ rfl;(with_reducible repeat (first|refine kN ?_ _|refine kD ?_|refine kA ?_ _));refine blk_put (cs:=#[.int .i64 ((rd_T38 y266 x70_3).f0),.bool ((rd_T38 y266 x70_3).f1),.int .u32 ((rd_T38 y266 x70_3).f2),.int .i64 0,.int .i64 0,.int .i64 0,.int .i64 0,.int .i64 0]) ?_ 3 _ rfl;(with_reducible repeat (first|refine kN ?_ _|refine kD ?_|refine kA ?_ _));refine blk_put (cs:=#[.int .i64 ((rd_T38 y266 x70_3).f0),.bool ((rd_T38 y266 x70_3).f1),.int .u32 0,.int .i64 0,.int .i64 0,.int .i64 0,.int .i64 0,.int .i64 0]) ?_ 2 _ rfl;(with_reducible repeat (first|refine kN ?_ _|refine kD ?_|refine kA ?_ _));refine blk_put (cs:=#[.int .i64 ((rd_T38 y266 x70_3).f0),.bool false,.int .u32 0,.int .i64 0,.int .i64 0,.int .i64 0,.int .i64 0,.int .i64 0]) ?_ 1 _ rfl;(with_reducible repeat (first|refine kN ?_ _|refine kD ?_|refine kA ?_ _));refine blk_put (cs:=#[.int .i64 0,.bool false,.int .u32 0,.int .i64 0,.int .i64 0,.int .i64 0,.int .i64 0,.int .i64 0]) ?_ 0 _ rfl;(with_reducible repeat (first|refine kN ?_ _|refine kD ?_|refine kA ?_ _));exact BK282.out) hb);have n9_:=Ak (below_step (by repeat (first|(with_reducible first|exact HB.out|apply bA|apply bN|apply bD|refine bS ?_ GE254.out|refine bS ?_ GE276.out|refine bS ?_ GE279.out|refine bS ?_ GE282.out)|exact HB.out)) hb);have n10_:=Ak (hbox);have n11_:=Ak ((by rw [hg];exact (below_size (by repeat (first|(with_reducible first|exact HB.out|apply bA|apply bN|apply bD|refine bS ?_ GE254.out|refine bS ?_ GE276.out|refine bS ?_ GE279.out|refine bS ?_ GE282.out)|exact HB.out))) : w.heap.size ≤ gb283));have n12_:=Ak ((by rw [hg];exact (below_size (by repeat (first|(with_reducible first|exact HB.out|apply bA|apply bN|apply bD|refine bS ?_ GE254.out|refine bS ?_ GE276.out|refine bS ?_ GE279.out|refine bS ?_ GE282.out)|exact HB.out))) : w.heap.size ≤ gb283));have n13_:=Ak ((by rw [hg];exact Nat.ne_of_lt (blk_lt (g:=gb254) (o:=.cells #[.slice Ao18 t256.length co18] 24 (0,0)) (by (with_reducible repeat (first|refine kN ?_ _|refine kD ?_|refine kA ?_ _));refine blk_far ?_ NB254_282.out _;(with_reducible repeat (first|refine kN ?_ _|refine kD ?_|refine kA ?_ _));refine blk_far ?_ NB254_282.out _;(with_reducible repeat (first|refine kN ?_ _|refine kD ?_|refine kA ?_ _));refine blk_far ?_ NB254_282.out _;(with_reducible repeat (first|refine kN ?_ _|refine kD ?_|refine kA ?_ _));refine blk_far ?_ NB254_282.out _;(with_reducible repeat (first|refine kN ?_ _|refine kD ?_|refine kA ?_ _));refine blk_far ?_ NB254_282.out _;(with_reducible repeat (first|refine kN ?_ _|refine kD ?_|refine kA ?_ _));refine blk_far ?_ NB254_282.out _;(with_reducible repeat (first|refine kN ?_ _|refine kD ?_|refine kA ?_ _));refine blk_far ?_ NB254_282.out _;(with_reducible repeat (first|refine kN ?_ _|refine kD ?_|refine kA ?_ _));refine blk_far ?_ NB254_282.out _;(with_reducible repeat (first|refine kN ?_ _|refine kD ?_|refine kA ?_ _));exact BK254.out)) : gb254 ≠ gb283));have n14_:=Ak ((by rw [hg];exact Nat.ne_of_gt (blk_lt (g:=gb254) (o:=.cells #[.slice Ao18 t256.length co18] 24 (0,0)) (by (with_reducible repeat (first|refine kN ?_ _|refine kD ?_|refine kA ?_ _));refine blk_far ?_ NB254_282.out _;(with_reducible repeat (first|refine kN ?_ _|refine kD ?_|refine kA ?_ _));refine blk_far ?_ NB254_282.out _;(with_reducible repeat (first|refine kN ?_ _|refine kD ?_|refine kA ?_ _));refine blk_far ?_ NB254_282.out _;(with_reducible repeat (first|refine kN ?_ _|refine kD ?_|refine kA ?_ _));refine blk_far ?_ NB254_282.out _;(with_reducible repeat (first|refine kN ?_ _|refine kD ?_|refine kA ?_ _));refine blk_far ?_ NB254_282.out _;(with_reducible repeat (first|refine kN ?_ _|refine kD ?_|refine kA ?_ _));refine blk_far ?_ NB254_282.out _;(with_reducible repeat (first|refine kN ?_ _|refine kD ?_|refine kA ?_ _));refine blk_far ?_ NB254_282.out _;(with_reducible repeat (first|refine kN ?_ _|refine kD ?_|refine kA ?_ _));refine blk_far ?_ NB254_282.out _;(with_reducible repeat (first|refine kN ?_ _|refine kD ?_|refine kA ?_ _));exact BK254.out)) : gb283 ≠ gb254));have n15_:=Ak ((by rw [hg];exact Nat.ne_of_lt (blk_lt (g:=gb276) (o:=.cells #[.slice Ao28 t269.length co28] 24 (0,0)) (by (with_reducible repeat (first|refine kN ?_ _|refine kD ?_|refine kA ?_ _));refine blk_far ?_ NB276_282.out _;(with_reducible repeat (first|refine kN ?_ _|refine kD ?_|refine kA ?_ _));refine blk_far ?_ NB276_282.out _;(with_reducible repeat (first|refine kN ?_ _|refine kD ?_|refine kA ?_ _));refine blk_far ?_ NB276_282.out _;(with_reducible repeat (first|refine kN ?_ _|refine kD ?_|refine kA ?_ _));refine blk_far ?_ NB276_282.out _;(with_reducible repeat (first|refine kN ?_ _|refine kD ?_|refine kA ?_ _));refine blk_far ?_ NB276_282.out _;(with_reducible repeat (first|refine kN ?_ _|refine kD ?_|refine kA ?_ _));refine blk_far ?_ NB276_282.out _;(with_reducible repeat (first|refine kN ?_ _|refine kD ?_|refine kA ?_ _));refine blk_far ?_ NB276_282.out _;(with_reducible repeat (first|refine kN ?_ _|refine kD ?_|refine kA ?_ _));refine blk_far ?_ NB276_282.out _;(with_reducible repeat (first|refine kN ?_ _|refine kD ?_|refine kA ?_ _));exact BK276.out)) : gb276 ≠ gb283));have n16_:=Ak ((by rw [hg];exact Nat.ne_of_gt (blk_lt (g:=gb276) (o:=.cells #[.slice Ao28 t269.length co28] 24 (0,0)) (by (with_reducible repeat (first|refine kN ?_ _|refine kD ?_|refine kA ?_ _));refine blk_far ?_ NB276_282.out _;(with_reducible repeat (first|refine kN ?_ _|refine kD ?_|refine kA ?_ _));refine blk_far ?_ NB276_282.out _;(with_reducible repeat (first|refine kN ?_ _|refine kD ?_|refine kA ?_ _));refine blk_far ?_ NB276_282.out _;(with_reducible repeat (first|refine kN ?_ _|refine kD ?_|refine kA ?_ _));refine blk_far ?_ NB276_282.out _;(with_reducible repeat (first|refine kN ?_ _|refine kD ?_|refine kA ?_ _));refine blk_far ?_ NB276_282.out _;(with_reducible repeat (first|refine kN ?_ _|refine kD ?_|refine kA ?_ _));refine blk_far ?_ NB276_282.out _;(with_reducible repeat (first|refine kN ?_ _|refine kD ?_|refine kA ?_ _));refine blk_far ?_ NB276_282.out _;(with_reducible repeat (first|refine kN ?_ _|refine kD ?_|refine kA ?_ _));refine blk_far ?_ NB276_282.out _;(with_reducible repeat (first|refine kN ?_ _|refine kD ?_|refine kA ?_ _));exact BK276.out)) : gb283 ≠ gb276));have n17_:=Ak ((by rw [hg];exact Nat.ne_of_lt (blk_lt (g:=gb279) (o:=.cells #[u280000] 24 (0,0)) (by (with_reducible repeat (first|refine kN ?_ _|refine kD ?_|refine kA ?_ _));refine blk_far ?_ NB279_282.out _;(with_reducible repeat (first|refine kN ?_ _|refine kD ?_|refine kA ?_ _));refine blk_far ?_ NB279_282.out _;(with_reducible repeat (first|refine kN ?_ _|refine kD ?_|refine kA ?_ _));refine blk_far ?_ NB279_282.out _;(with_reducible repeat (first|refine kN ?_ _|refine kD ?_|refine kA ?_ _));refine blk_far ?_ NB279_282.out _;(with_reducible repeat (first|refine kN ?_ _|refine kD ?_|refine kA ?_ _));refine blk_far ?_ NB279_282.out _;(with_reducible repeat (first|refine kN ?_ _|refine kD ?_|refine kA ?_ _));refine blk_far ?_ NB279_282.out _;(with_reducible repeat (first|refine kN ?_ _|refine kD ?_|refine kA ?_ _));refine blk_far ?_ NB279_282.out _;(with_reducible repeat (first|refine kN ?_ _|refine kD ?_|refine kA ?_ _));refine blk_far ?_ NB279_282.out _;(with_reducible repeat (first|refine kN ?_ _|refine kD ?_|refine kA ?_ _));exact BK279.out)) : gb279 ≠ gb283));have n18_:=Ak ((by rw [hg];exact Nat.ne_of_gt (blk_lt (g:=gb279) (o:=.cells #[u280000] 24 (0,0)) (by (with_reducible repeat (first|refine kN ?_ _|refine kD ?_|refine kA ?_ _));refine blk_far ?_ NB279_282.out _;(with_reducible repeat (first|refine kN ?_ _|refine kD ?_|refine kA ?_ _));refine blk_far ?_ NB279_282.out _;(with_reducible repeat (first|refine kN ?_ _|refine kD ?_|refine kA ?_ _));refine blk_far ?_ NB279_282.out _;(with_reducible repeat (first|refine kN ?_ _|refine kD ?_|refine kA ?_ _));refine blk_far ?_ NB279_282.out _;(with_reducible repeat (first|refine kN ?_ _|refine kD ?_|refine kA ?_ _));refine blk_far ?_ NB279_282.out _;(with_reducible repeat (first|refine kN ?_ _|refine kD ?_|refine kA ?_ _));refine blk_far ?_ NB279_282.out _;(with_reducible repeat (first|refine kN ?_ _|refine kD ?_|refine kA ?_ _));refine blk_far ?_ NB279_282.out _;(with_reducible repeat (first|refine kN ?_ _|refine kD ?_|refine kA ?_ _));refine blk_far ?_ NB279_282.out _;(with_reducible repeat (first|refine kN ?_ _|refine kD ?_|refine kA ?_ _));exact BK279.out)) : gb283 ≠ gb279));have n19_:=Ak ((by rw [hg];exact Nat.ne_of_lt (blk_lt (g:=gb282) (o:=.cells #[.int .i64 ((rd_T38 y266 x70_3).f0),.bool ((rd_T38 y266 x70_3).f1),.int .u32 ((rd_T38 y266 x70_3).f2),.int .i64 ((rd_T38 y266 x70_3).f3.f0),.int .i64 ((rd_T38 y266 x70_3).f3.f1),.int .i64 ((rd_T38 y266 x70_3).f3.f2),.int .i64 ((rd_T38 y266 x70_3).f3.f3),.int .i64 ((rd_T38 y266 x70_3).f4)] 38 (0,0)) (by (with_reducible repeat (first|refine kN ?_ _|refine kD ?_|refine kA ?_ _));refine blk_put (cs:=#[.int .i64 ((rd_T38 y266 x70_3).f0),.bool ((rd_T38 y266 x70_3).f1),.int .u32 ((rd_T38 y266 x70_3).f2),.int .i64 ((rd_T38 y266 x70_3).f3.f0),.int .i64 ((rd_T38 y266 x70_3).f3.f1),.int .i64 ((rd_T38 y266 x70_3).f3.f2),.int .i64 ((rd_T38 y266 x70_3).f3.f3),.int .i64 0]) ?_ 7 _ rfl;(with_reducible repeat (first|refine kN ?_ _|refine kD ?_|refine kA ?_ _));refine blk_put (cs:=#[.int .i64 ((rd_T38 y266 x70_3).f0),.bool ((rd_T38 y266 x70_3).f1),.int .u32 ((rd_T38 y266 x70_3).f2),.int .i64 ((rd_T38 y266 x70_3).f3.f0),.int .i64 ((rd_T38 y266 x70_3).f3.f1),.int .i64 ((rd_T38 y266 x70_3).f3.f2),.int .i64 0,.int .i64 0]) ?_ 6 _ rfl;(with_reducible repeat (first|refine kN ?_ _|refine kD ?_|refine kA ?_ _));refine blk_put (cs:=#[.int .i64 ((rd_T38 y266 x70_3).f0),.bool ((rd_T38 y266 x70_3).f1),.int .u32 ((rd_T38 y266 x70_3).f2),.int .i64 ((rd_T38 y266 x70_3).f3.f0),.int .i64 ((rd_T38 y266 x70_3).f3.f1),.int .i64 0,.int .i64 0,.int .i64 0]) ?_ 5 _ rfl;(with_reducible repeat (first|refine kN ?_ _|refine kD ?_|refine kA ?_ _));refine blk_put (cs:=#[.int .i64 ((rd_T38 y266 x70_3).f0),.bool ((rd_T38 y266 x70_3).f1),.int .u32 ((rd_T38 y266 x70_3).f2),.int .i64 ((rd_T38 y266 x70_3).f3.f0),.int .i64 0,.int .i64 0,.int .i64 0,.int .i64 0]) ?_ 4 _ rfl;(with_reducible repeat (first|refine kN ?_ _|refine kD ?_|refine kA ?_ _));refine blk_put (cs:=#[.int .i64 ((rd_T38 y266 x70_3).f0),.bool ((rd_T38 y266 x70_3).f1),.int .u32 ((rd_T38 y266 x70_3).f2),.int .i64 0,.int .i64 0,.int .i64 0,.int .i64 0,.int .i64 0]) ?_ 3 _ rfl;(with_reducible repeat (first|refine kN ?_ _|refine kD ?_|refine kA ?_ _));refine blk_put (cs:=#[.int .i64 ((rd_T38 y266 x70_3).f0),.bool ((rd_T38 y266 x70_3).f1),.int .u32 0,.int .i64 0,.int .i64 0,.int .i64 0,.int .i64 0,.int .i64 0]) ?_ 2 _ rfl;(with_reducible repeat (first|refine kN ?_ _|refine kD ?_|refine kA ?_ _));refine blk_put (cs:=#[.int .i64 ((rd_T38 y266 x70_3).f0),.bool false,.int .u32 0,.int .i64 0,.int .i64 0,.int .i64 0,.int .i64 0,.int .i64 0]) ?_ 1 _ rfl;(with_reducible repeat (first|refine kN ?_ _|refine kD ?_|refine kA ?_ _));refine blk_put (cs:=#[.int .i64 0,.bool false,.int .u32 0,.int .i64 0,.int .i64 0,.int .i64 0,.int .i64 0,.int .i64 0]) ?_ 0 _ rfl;(with_reducible repeat (first|refine kN ?_ _|refine kD ?_|refine kA ?_ _));exact BK282.out)) : gb282 ≠ gb283));have n20_:=Ak ((by rw [hg];exact Nat.ne_of_gt (blk_lt (g:=gb282) (o:=.cells #[.int .i64 ((rd_T38 y266 x70_3).f0),.bool ((rd_T38 y266 x70_3).f1),.int .u32 ((rd_T38 y266 x70_3).f2),.int .i64 ((rd_T38 y266 x70_3).f3.f0),.int .i64 ((rd_T38 y266 x70_3).f3.f1),.int .i64 ((rd_T38 y266 x70_3).f3.f2),.int .i64 ((rd_T38 y266 x70_3).f3.f3),.int .i64 ((rd_T38 y266 x70_3).f4)] 38 (0,0)) (by (with_reducible repeat (first|refine kN ?_ _|refine kD ?_|refine kA ?_ _));refine blk_put (cs:=#[.int .i64 ((rd_T38 y266 x70_3).f0),.bool ((rd_T38 y266 x70_3).f1),.int .u32 ((rd_T38 y266 x70_3).f2),.int .i64 ((rd_T38 y266 x70_3).f3.f0),.int .i64 ((rd_T38 y266 x70_3).f3.f1),.int .i64 ((rd_T38 y266 x70_3).f3.f2),.int .i64 ((rd_T38 y266 x70_3).f3.f3),.int .i64 0]) ?_ 7 _ rfl;(with_reducible repeat (first|refine kN ?_ _|refine kD ?_|refine kA ?_ _));refine blk_put (cs:=#[.int .i64 ((rd_T38 y266 x70_3).f0),.bool ((rd_T38 y266 x70_3).f1),.int .u32 ((rd_T38 y266 x70_3).f2),.int .i64 ((rd_T38 y266 x70_3).f3.f0),.int .i64 ((rd_T38 y266 x70_3).f3.f1),.int .i64 ((rd_T38 y266 x70_3).f3.f2),.int .i64 0,.int .i64 0]) ?_ 6 _ rfl;(with_reducible repeat (first|refine kN ?_ _|refine kD ?_|refine kA ?_ _));refine blk_put (cs:=#[.int .i64 ((rd_T38 y266 x70_3).f0),.bool ((rd_T38 y266 x70_3).f1),.int .u32 ((rd_T38 y266 x70_3).f2),.int .i64 ((rd_T38 y266 x70_3).f3.f0),.int .i64 ((rd_T38 y266 x70_3).f3.f1),.int .i64 0,.int .i64 0,.int .i64 0]) ?_ 5 _ rfl;(with_reducible repeat (first|refine kN ?_ _|refine kD ?_|refine kA ?_ _));refine blk_put (cs:=#[.int .i64 ((rd_T38 y266 x70_3).f0),.bool ((rd_T38 y266 x70_3).f1),.int .u32 ((rd_T38 y266 x70_3).f2),.int .i64 ((rd_T38 y266 x70_3).f3.f0),.int .i64 0,.int .i64 0,.int .i64 0,.int .i64 0]) ?_ 4 _ rfl;(with_reducible repeat (first|refine kN ?_ _|refine kD ?_|refine kA ?_ _));refine blk_put (cs:=#[.int .i64 ((rd_T38 y266 x70_3).f0),.bool ((rd_T38 y266 x70_3).f1),.int .u32 ((rd_T38 y266 x70_3).f2),.int .i64 0,.int .i64 0,.int .i64 0,.int .i64 0,.int .i64 0]) ?_ 3 _ rfl;(with_reducible repeat (first|refine kN ?_ _|refine kD ?_|refine kA ?_ _));refine blk_put (cs:=#[.int .i64 ((rd_T38 y266 x70_3).f0),.bool ((rd_T38 y266 x70_3).f1),.int .u32 0,.int .i64 0,.int .i64 0,.int .i64 0,.int .i64 0,.int .i64 0]) ?_ 2 _ rfl;(with_reducible repeat (first|refine kN ?_ _|refine kD ?_|refine kA ?_ _));refine blk_put (cs:=#[.int .i64 ((rd_T38 y266 x70_3).f0),.bool false,.int .u32 0,.int .i64 0,.int .i64 0,.int .i64 0,.int .i64 0,.int .i64 0]) ?_ 1 _ rfl;(with_reducible repeat (first|refine kN ?_ _|refine kD ?_|refine kA ?_ _));refine blk_put (cs:=#[.int .i64 0,.bool false,.int .u32 0,.int .i64 0,.int .i64 0,.int .i64 0,.int .i64 0,.int .i64 0]) ?_ 0 _ rfl;(with_reducible repeat (first|refine kN ?_ _|refine kD ?_|refine kA ?_ _));exact BK282.out)) : gb283 ≠ gb282));clear HO_9;clear HO_68;clear HO_255000;clear HO_277000;clear HO_280000;clear BK254;clear BK276;clear BK279;clear BK282;clear HB;have HO_9:=n0_;have HO_68:=n1_;have HO_255000:=n2_;have HO_277000:=n3_;have HO_280000:=n4_;have BK254:=n5_;have BK276:=n6_;have BK279:=n7_;have BK282:=n8_;have HB:=n9_;have BK283:=n10_;have GW283:=n11_;have GE283:=n12_;have NB254_283:=n13_;have NB283_254:=n14_;have NB276_283:=n15_;have NB283_276:=n16_;have NB279_283:=n17_;have NB283_279:=n18_;have NB282_283:=n19_;have NB283_282:=n20_;clear n0_ n1_ n2_ n3_ n4_ n5_ n6_ n7_ n8_ n9_ n10_ n11_ n12_ n13_ n14_ n15_ n16_ n17_ n18_ n19_ n20_;clear hb hbox hg;have hnb68:=NB279_254.out;have hnc68:=NB254_279.out;have hnb69:=NB279_276.out;have hnc69:=NB276_279.out;have hnb70:=NB279_283.out;have hnc70:=NB283_279.out;have hcz71_0 : w67.cell? ⟨gb279,0,none⟩ = some (u280000):=(kC BK279.out 0).trans rfl;have hfz71_0:=blk_frozen BK279.out 0;have hnb72:=NB282_283.out;have hnc72:=NB283_282.out;have hcz73_0 : w67.cell? ⟨gb282,0,none⟩ = some (.int .i64 ((rd_T38 y266 x70_3).f0)):=(kC BK282.out 0).trans rfl;have hcz73_1 : w67.cell? ⟨gb282,1,none⟩ = some (.bool ((rd_T38 y266 x70_3).f1)):=(kC BK282.out 1).trans rfl;have hcz73_2 : w67.cell? ⟨gb282,2,none⟩ = some (.int .u32 ((rd_T38 y266 x70_3).f2)):=(kC BK282.out 2).trans rfl;have hcz73_3 : w67.cell? ⟨gb282,3,none⟩ = some (.int .i64 ((rd_T38 y266 x70_3).f3.f0)):=(kC BK282.out 3).trans rfl;have hcz73_4 : w67.cell? ⟨gb282,4,none⟩ = some (.int .i64 ((rd_T38 y266 x70_3).f3.f1)):=(kC BK282.out 4).trans rfl;have hcz73_5 : w67.cell? ⟨gb282,5,none⟩ = some (.int .i64 ((rd_T38 y266 x70_3).f3.f2)):=(kC BK282.out 5).trans rfl;have hcz73_6 : w67.cell? ⟨gb282,6,none⟩ = some (.int .i64 ((rd_T38 y266 x70_3).f3.f3)):=(kC BK282.out 6).trans rfl;have hcz73_7 : w67.cell? ⟨gb282,7,none⟩ = some (.int .i64 ((rd_T38 y266 x70_3).f4)):=(kC BK282.out 7).trans rfl;have hfz73_0:=blk_frozen BK282.out 0;have hfz73_1:=blk_frozen BK282.out 1;have hfz73_2:=blk_frozen BK282.out 2;have hfz73_3:=blk_frozen BK282.out 3;have hfz73_4:=blk_frozen BK282.out 4;have hfz73_5:=blk_frozen BK282.out 5;have hfz73_6:=blk_frozen BK282.out 6;have hfz73_7:=blk_frozen BK282.out 7;obtain ⟨Ao74,co74,eo74⟩:=Kd.R_slice HO_280000.out;subst eo74)|((with_reducible refine gate_callee (f:=18) rfl ?_);refine goesL_ (some 79) rfl rfl Try.func18 (by kernel_rfl) rfl #[.agg #[.slice Ao74 x280000_3.length co74],.int .i64 a1,.agg #[.int .i64 ((rd_T38 y266 x70_3).f0),.bool ((rd_T38 y266 x70_3).f1),.int .u32 ((rd_T38 y266 x70_3).f2),.int .i64 ((rd_T38 y266 x70_3).f3.f0),.int .i64 ((rd_T38 y266 x70_3).f3.f1),.int .i64 ((rd_T38 y266 x70_3).f3.f2),.int .i64 ((rd_T38 y266 x70_3).f3.f3),.int .i64 ((rd_T38 y266 x70_3).f4)]] rfl (by (try simp only [List.map_toArray,List.map_cons,List.map_nil]);first|done|rfl|(simp only [List.length_drop,List.length_take];rfl)) ?_;(with_reducible refine (gazetteerref22_Apply.calls k3 _ _ x280000_3 a1 ((rd_T38 y266 x70_3).f0) ((rd_T38 y266 x70_3).f1) ((rd_T38 y266 x70_3).f2) ((rd_T38 y266 x70_3).f3.f0) ((rd_T38 y266 x70_3).f3.f1) ((rd_T38 y266 x70_3).f3.f2) ((rd_T38 y266 x70_3).f3.f3) ((rd_T38 y266 x70_3).f4) t284 t287 t288 t289 _ ?side1 ?side2 A58.out).mono ?_);(case side1 => repeat (first|exact (Kd.R_reads' HO_280000.out).2.2|(with_reducible refine Kd.C_alloc ?_ _)|(with_reducible refine Kd.C_drewN ?_ _)|(with_reducible refine Kd.C_drew ?_)));(case side2 => exact (Kd.R_reads' HO_280000.out).2.1);rintro e w75 ⟨v285,v290,rfl,ho0,ho1,hb⟩;refine ⟨_,rfl,?_⟩;have n0_:=Ak (Kd.S_mono (Kd.S_told (Kd.S_told (Kd.S_old (by (with_reducible repeat (first|apply Kd.S_alloc|apply Kd.S_drewN|apply Kd.S_drew));exact HO_9.out) hb) (Kd.R_base ho0)) (Kd.R_base ho1)) (fun _ h_ => h_.1));have n1_:=Ak (Kd.R_below (by (with_reducible repeat (first|apply Kd.R_alloc|apply Kd.R_drewN|apply Kd.R_drew));exact HO_68.out) hb);have n2_:=Ak (Kd.R_mono (Kd.R_told (Kd.R_told (Kd.R_old (by (with_reducible repeat (first|apply Kd.R_alloc|apply Kd.R_drewN|apply Kd.R_drew));exact HO_255000.out) hb) (Kd.R_base ho0)) (Kd.R_base ho1)) (fun _ h_ => h_.1));have n3_:=Ak (Kd.R_mono (Kd.R_told (Kd.R_told (Kd.R_old (by (with_reducible repeat (first|apply Kd.R_alloc|apply Kd.R_drewN|apply Kd.R_drew));exact HO_277000.out) hb) (Kd.R_base ho0)) (Kd.R_base ho1)) (fun _ h_ => h_.1));have n4_:=Ak (Kd.R_mono (Kd.R_told (Kd.R_told (Kd.R_old (by (with_reducible repeat (first|apply Kd.R_alloc|apply Kd.R_drewN|apply Kd.R_drew));exact HO_280000.out) hb) (Kd.R_base ho0)) (Kd.R_base ho1)) (fun _ h_ => h_.1));have n5_:=Ak (Kd.R_lower (Kd.R_new' (Kd.R_new' (Kd.R_new' ho0 (Kd.R_lt (by (with_reducible repeat (first|apply Kd.R_alloc|apply Kd.R_drewN|apply Kd.R_drew));exact HO_255000.out))) (Kd.R_lt (by (with_reducible repeat (first|apply Kd.R_alloc|apply Kd.R_drewN|apply Kd.R_drew));exact HO_277000.out))) (Kd.R_lt (by (with_reducible repeat (first|apply Kd.R_alloc|apply Kd.R_drewN|apply Kd.R_drew));exact HO_280000.out))) (below_size (by repeat (first|(with_reducible first|exact HB.out|apply bA|apply bN|apply bD|refine bS ?_ GE254.out|refine bS ?_ GE276.out|refine bS ?_ GE279.out|refine bS ?_ GE282.out|refine bS ?_ GE283.out)|exact HB.out))));have n6_:=Ak (Kd.R_lower (Kd.R_new' (Kd.R_new' (Kd.R_new' ho1 (Kd.R_lt (by (with_reducible repeat (first|apply Kd.R_alloc|apply Kd.R_drewN|apply Kd.R_drew));exact HO_255000.out))) (Kd.R_lt (by (with_reducible repeat (first|apply Kd.R_alloc|apply Kd.R_drewN|apply Kd.R_drew));exact HO_277000.out))) (Kd.R_lt (by (with_reducible repeat (first|apply Kd.R_alloc|apply Kd.R_drewN|apply Kd.R_drew));exact HO_280000.out))) (below_size (by repeat (first|(with_reducible first|exact HB.out|apply bA|apply bN|apply bD|refine bS ?_ GE254.out|refine bS ?_ GE276.out|refine bS ?_ GE279.out|refine bS ?_ GE282.out|refine bS ?_ GE283.out)|exact HB.out))));have n7_:=Ak (kB (g:=gb254) (o:=.cells #[.slice Ao18 t256.length co18] 24 (0,0)) (by (with_reducible repeat (first|refine kN ?_ _|refine kD ?_|refine kA ?_ _));exact BK254.out) hb);have n8_:=Ak (kB (g:=gb276) (o:=.cells #[.slice Ao28 t269.length co28] 24 (0,0)) (by (with_reducible repeat (first|refine kN ?_ _|refine kD ?_|refine kA ?_ _));exact BK276.out) hb);have n9_:=Ak (kB (g:=gb279) (o:=.cells #[.slice Ao74 x280000_3.length co74] 24 (0,0)) (by (with_reducible repeat (first|refine kN ?_ _|refine kD ?_|refine kA ?_ _));exact BK279.out) hb);have n10_:=Ak (kB (g:=gb282) (o:=.cells #[.int .i64 ((rd_T38 y266 x70_3).f0),.bool ((rd_T38 y266 x70_3).f1),.int .u32 ((rd_T38 y266 x70_3).f2),.int .i64 ((rd_T38 y266 x70_3).f3.f0),.int .i64 ((rd_T38 y266 x70_3).f3.f1),.int .i64 ((rd_T38 y266 x70_3).f3.f2),.int .i64 ((rd_T38 y266 x70_3).f3.f3),.int .i64 ((rd_T38 y266 x70_3).f4)] 38 (0,0)) (by (with_reducible repeat (first|refine kN ?_ _|refine kD ?_|refine kA ?_ _));exact BK282.out) hb);have n11_:=Ak (kB (g:=gb283) (o:=.cells #[.int .i64 0,.int .u64 0,.slice none 0 0] 41 (0,0)) (by (with_reducible repeat (first|refine kN ?_ _|refine kD ?_|refine kA ?_ _));exact BK283.out) hb);have n12_:=Ak (below_step (by repeat (first|(with_reducible first|exact HB.out|apply bA|apply bN|apply bD|refine bS ?_ GE254.out|refine bS ?_ GE276.out|refine bS ?_ GE279.out|refine bS ?_ GE282.out|refine bS ?_ GE283.out)|exact HB.out)) hb);clear HO_9;clear HO_68;clear HO_255000;clear HO_277000;clear HO_280000;clear BK254;clear BK276;clear BK279;clear BK282;clear BK283;clear HB;have HO_9:=n0_;have HO_68:=n1_;have HO_255000:=n2_;have HO_277000:=n3_;have HO_280000:=n4_;have HO286:=n5_;have HO291:=n6_;have BK254:=n7_;have BK276:=n8_;have BK279:=n9_;have BK282:=n10_;have BK283:=n11_;have HB:=n12_;clear n0_ n1_ n2_ n3_ n4_ n5_ n6_ n7_ n8_ n9_ n10_ n11_ n12_;(try clear hb);(try clear hb2);(try clear hk);(try clear hi);(try clear ho0);(try clear ho1);obtain ⟨Ao76,co76,eo76⟩:=Kd.R_slice HO286.out;subst eo76;have hcz77_0 : w75.cell? ⟨gb279,0,none⟩ = some (.slice Ao74 x280000_3.length co74):=(kC BK279.out 0).trans rfl;have hfz77_0:=blk_frozen BK279.out 0;have hnb78:=NB283_254.out;have hnc78:=NB254_283.out;have hnb79:=NB283_276.out;have hnc79:=NB276_283.out;have hcz80_0 : w75.cell? ⟨gb283,0,none⟩ = some (.int .i64 0):=(kC BK283.out 0).trans rfl;have hcz80_1 : w75.cell? ⟨gb283,1,none⟩ = some (.int .u64 0):=(kC BK283.out 1).trans rfl;have hcz80_2 : w75.cell? ⟨gb283,2,none⟩ = some (.slice none 0 0):=(kC BK283.out 2).trans rfl;have hfz80_0:=blk_frozen BK283.out 0;have hfz80_1:=blk_frozen BK283.out 1;have hfz80_2:=blk_frozen BK283.out 2;obtain ⟨Ao81,co81,eo81⟩:=Kd.R_slice HO291.out;subst eo81))
                  have n0_ : Aside0 (Kd.S k41 41 ((((w75.setCell ⟨gb279,0,none⟩ (.slice Ao76 t284.length co76)).setCell ⟨gb283,0,none⟩ (.int .i64 t287)).setCell ⟨gb283,1,none⟩ (.int .u64 t288)).setCell ⟨gb283,2,none⟩ (.slice Ao81 t289.length co81)) w.heap.size (fun k_ => some k_ ≠ (.slice Ao18 t256.length co18 : Value).ownBlock∧some k_ ≠ (.slice Ao28 t269.length co28 : Value).ownBlock∧some k_ ≠ (.slice Ao74 x280000_3.length co74 : Value).ownBlock∧some k_ ≠ (.slice Ao76 t284.length co76 : Value).ownBlock∧some k_ ≠ (.slice Ao81 t289.length co81 : Value).ownBlock∧k_ ≠ gb283) v273 t272):=⟨by (with_reducible repeat (first|apply Kd.S_alloc|apply Kd.S_drewN|apply Kd.S_drew));exact Kd.S_mono (Kd.S_far (p:=⟨gb283,2,none⟩) (Kd.S_far (p:=⟨gb283,1,none⟩) (Kd.S_far (p:=⟨gb283,0,none⟩) (Kd.S_far (p:=⟨gb279,0,none⟩) (Kd.S_mono (Kd.S_types HO_9.out BK279.out (by decide)) (fun k_ hk => (⟨hk,hk.1.1.1.2⟩ : _∧k_ ≠ gb283))) (fun _ hk => hk.1.2) (.slice Ao76 t284.length co76)) (fun _ hk => hk.2) (.int .i64 t287)) (fun _ hk => hk.2) (.int .u64 t288)) (fun _ hk => hk.2) (.slice Ao81 t289.length co81)) (fun _ hk => ⟨hk.1.1.1.1.1.1,⟨hk.1.1.1.1.1.2.1,⟨hk.1.1.1.1.1.2.2,⟨hk.1.1.1.2,⟨hk.1.1.2,hk.1.1.1.1.2⟩⟩⟩⟩⟩)⟩
                  have n1_ : Aside0 (Kd.R k38 38 ((((w75.setCell ⟨gb279,0,none⟩ (.slice Ao76 t284.length co76)).setCell ⟨gb283,0,none⟩ (.int .i64 t287)).setCell ⟨gb283,1,none⟩ (.int .u64 t288)).setCell ⟨gb283,2,none⟩ (.slice Ao81 t289.length co81)) w.heap.size (fun k_ => k_ ≠ gb282) (.slice (some ad281) y266.length co25) y266):=⟨by (with_reducible repeat (first|apply Kd.R_alloc|apply Kd.R_drewN|apply Kd.R_drew));exact Kd.R_mono (Kd.R_far (p:=⟨gb283,2,none⟩) (Kd.R_far (p:=⟨gb283,1,none⟩) (Kd.R_far (p:=⟨gb283,0,none⟩) (Kd.R_far (p:=⟨gb279,0,none⟩) (Kd.R_types (Kd.R_types HO_68.out BK279.out (by decide)) BK283.out (by decide)) (fun _ hk => hk.1.2) (.slice Ao76 t284.length co76)) (fun _ hk => hk.2) (.int .i64 t287)) (fun _ hk => hk.2) (.int .u64 t288)) (fun _ hk => hk.2) (.slice Ao81 t289.length co81)) (fun _ hk => hk.1.1.2)⟩
                  have n2_ : Aside0 (Kd.R k51 51 ((((w75.setCell ⟨gb279,0,none⟩ (.slice Ao76 t284.length co76)).setCell ⟨gb283,0,none⟩ (.int .i64 t287)).setCell ⟨gb283,1,none⟩ (.int .u64 t288)).setCell ⟨gb283,2,none⟩ (.slice Ao81 t289.length co81)) w.heap.size (fun k_ => some k_ ≠ (.slice Ao28 t269.length co28 : Value).ownBlock∧some k_ ≠ (.slice Ao76 t284.length co76 : Value).ownBlock∧some k_ ≠ (.slice Ao81 t289.length co81 : Value).ownBlock) (.slice Ao18 t256.length co18) t256):=⟨by (with_reducible repeat (first|apply Kd.R_alloc|apply Kd.R_drewN|apply Kd.R_drew));exact Kd.R_mono (Kd.R_far (p:=⟨gb283,2,none⟩) (Kd.R_far (p:=⟨gb283,1,none⟩) (Kd.R_far (p:=⟨gb283,0,none⟩) (Kd.R_far (p:=⟨gb279,0,none⟩) (Kd.R_types (Kd.R_types HO_255000.out BK279.out (by decide)) BK283.out (by decide)) (fun _ hk => hk.1.2) (.slice Ao76 t284.length co76)) (fun _ hk => hk.2) (.int .i64 t287)) (fun _ hk => hk.2) (.int .u64 t288)) (fun _ hk => hk.2) (.slice Ao81 t289.length co81)) (fun _ hk => ⟨hk.1.1.1.1,⟨hk.1.1.1.2,hk.1.1.2⟩⟩)⟩
                  have n3_ : Aside0 (Kd.R k51 51 ((((w75.setCell ⟨gb279,0,none⟩ (.slice Ao76 t284.length co76)).setCell ⟨gb283,0,none⟩ (.int .i64 t287)).setCell ⟨gb283,1,none⟩ (.int .u64 t288)).setCell ⟨gb283,2,none⟩ (.slice Ao81 t289.length co81)) w.heap.size (fun k_ => some k_ ≠ (.slice Ao18 t256.length co18 : Value).ownBlock∧some k_ ≠ (.slice Ao74 x280000_3.length co74 : Value).ownBlock∧some k_ ≠ (.slice Ao76 t284.length co76 : Value).ownBlock∧some k_ ≠ (.slice Ao81 t289.length co81 : Value).ownBlock) (.slice Ao28 t269.length co28) t269):=⟨by (with_reducible repeat (first|apply Kd.R_alloc|apply Kd.R_drewN|apply Kd.R_drew));exact Kd.R_mono (Kd.R_far (p:=⟨gb283,2,none⟩) (Kd.R_far (p:=⟨gb283,1,none⟩) (Kd.R_far (p:=⟨gb283,0,none⟩) (Kd.R_far (p:=⟨gb279,0,none⟩) (Kd.R_types (Kd.R_types HO_277000.out BK279.out (by decide)) BK283.out (by decide)) (fun _ hk => hk.1.2) (.slice Ao76 t284.length co76)) (fun _ hk => hk.2) (.int .i64 t287)) (fun _ hk => hk.2) (.int .u64 t288)) (fun _ hk => hk.2) (.slice Ao81 t289.length co81)) (fun _ hk => ⟨hk.1.1.1.1.1,⟨hk.1.1.1.1.2,⟨hk.1.1.1.2,hk.1.1.2⟩⟩⟩)⟩
                  have n4_ : Aside0 (Kd.R k51 51 ((((w75.setCell ⟨gb279,0,none⟩ (.slice Ao76 t284.length co76)).setCell ⟨gb283,0,none⟩ (.int .i64 t287)).setCell ⟨gb283,1,none⟩ (.int .u64 t288)).setCell ⟨gb283,2,none⟩ (.slice Ao81 t289.length co81)) w.heap.size (fun k_ => some k_ ≠ (.slice Ao28 t269.length co28 : Value).ownBlock∧some k_ ≠ (.slice Ao76 t284.length co76 : Value).ownBlock∧some k_ ≠ (.slice Ao81 t289.length co81 : Value).ownBlock) (.slice Ao74 x280000_3.length co74) x280000_3):=⟨by (with_reducible repeat (first|apply Kd.R_alloc|apply Kd.R_drewN|apply Kd.R_drew));exact Kd.R_mono (Kd.R_far (p:=⟨gb283,2,none⟩) (Kd.R_far (p:=⟨gb283,1,none⟩) (Kd.R_far (p:=⟨gb283,0,none⟩) (Kd.R_far (p:=⟨gb279,0,none⟩) (Kd.R_types (Kd.R_types HO_280000.out BK279.out (by decide)) BK283.out (by decide)) (fun _ hk => hk.1.2) (.slice Ao76 t284.length co76)) (fun _ hk => hk.2) (.int .i64 t287)) (fun _ hk => hk.2) (.int .u64 t288)) (fun _ hk => hk.2) (.slice Ao81 t289.length co81)) (fun _ hk => ⟨hk.1.1.1.1,⟨hk.1.1.1.2,hk.1.1.2⟩⟩)⟩
                  have n5_ : Aside0 (Kd.R k51 51 ((((w75.setCell ⟨gb279,0,none⟩ (.slice Ao76 t284.length co76)).setCell ⟨gb283,0,none⟩ (.int .i64 t287)).setCell ⟨gb283,1,none⟩ (.int .u64 t288)).setCell ⟨gb283,2,none⟩ (.slice Ao81 t289.length co81)) w.heap.size (fun k_ => some k_ ≠ (.slice Ao18 t256.length co18 : Value).ownBlock∧some k_ ≠ (.slice Ao28 t269.length co28 : Value).ownBlock∧some k_ ≠ (.slice Ao74 x280000_3.length co74 : Value).ownBlock∧some k_ ≠ (.slice Ao81 t289.length co81 : Value).ownBlock) (.slice Ao76 t284.length co76) t284):=⟨by (with_reducible repeat (first|apply Kd.R_alloc|apply Kd.R_drewN|apply Kd.R_drew));exact Kd.R_mono (Kd.R_far (p:=⟨gb283,2,none⟩) (Kd.R_far (p:=⟨gb283,1,none⟩) (Kd.R_far (p:=⟨gb283,0,none⟩) (Kd.R_far (p:=⟨gb279,0,none⟩) (Kd.R_types (Kd.R_types HO286.out BK279.out (by decide)) BK283.out (by decide)) (fun _ hk => hk.1.2) (.slice Ao76 t284.length co76)) (fun _ hk => hk.2) (.int .i64 t287)) (fun _ hk => hk.2) (.int .u64 t288)) (fun _ hk => hk.2) (.slice Ao81 t289.length co81)) (fun _ hk => ⟨hk.1.1.1.1.2,⟨hk.1.1.1.2,⟨hk.1.1.2,hk.1.1.1.1.1⟩⟩⟩)⟩
                  have n6_ : Aside0 (Kd.R k51 51 ((((w75.setCell ⟨gb279,0,none⟩ (.slice Ao76 t284.length co76)).setCell ⟨gb283,0,none⟩ (.int .i64 t287)).setCell ⟨gb283,1,none⟩ (.int .u64 t288)).setCell ⟨gb283,2,none⟩ (.slice Ao81 t289.length co81)) w.heap.size (fun k_ => some k_ ≠ (.slice Ao18 t256.length co18 : Value).ownBlock∧some k_ ≠ (.slice Ao28 t269.length co28 : Value).ownBlock∧some k_ ≠ (.slice Ao74 x280000_3.length co74 : Value).ownBlock∧some k_ ≠ (.slice Ao76 t284.length co76 : Value).ownBlock) (.slice Ao81 t289.length co81) t289):=⟨by (with_reducible repeat (first|apply Kd.R_alloc|apply Kd.R_drewN|apply Kd.R_drew));exact Kd.R_mono (Kd.R_far (p:=⟨gb283,2,none⟩) (Kd.R_far (p:=⟨gb283,1,none⟩) (Kd.R_far (p:=⟨gb283,0,none⟩) (Kd.R_far (p:=⟨gb279,0,none⟩) (Kd.R_types (Kd.R_types HO291.out BK279.out (by decide)) BK283.out (by decide)) (fun _ hk => hk.1.2) (.slice Ao76 t284.length co76)) (fun _ hk => hk.2) (.int .i64 t287)) (fun _ hk => hk.2) (.int .u64 t288)) (fun _ hk => hk.2) (.slice Ao81 t289.length co81)) (fun _ hk => ⟨hk.1.1.1.1.2,⟨hk.1.1.1.2,⟨hk.1.1.2,hk.1.1.1.1.1⟩⟩⟩)⟩
                  have n7_ : Aside0 (((((w75.setCell ⟨gb279,0,none⟩ (.slice Ao76 t284.length co76)).setCell ⟨gb283,0,none⟩ (.int .i64 t287)).setCell ⟨gb283,1,none⟩ (.int .u64 t288)).setCell ⟨gb283,2,none⟩ (.slice Ao81 t289.length co81)).heap[gb254]? = some (.cells #[.slice Ao18 t256.length co18] 24 (0,0))):=⟨by (with_reducible repeat (first|refine kN ?_ _|refine kD ?_|refine kA ?_ _));refine blk_far ?_ NB254_283.out _;(with_reducible repeat (first|refine kN ?_ _|refine kD ?_|refine kA ?_ _));refine blk_far ?_ NB254_283.out _;(with_reducible repeat (first|refine kN ?_ _|refine kD ?_|refine kA ?_ _));refine blk_far ?_ NB254_283.out _;(with_reducible repeat (first|refine kN ?_ _|refine kD ?_|refine kA ?_ _));refine blk_far ?_ NB254_279.out _;(with_reducible repeat (first|refine kN ?_ _|refine kD ?_|refine kA ?_ _));exact BK254.out⟩
                  have n8_ : Aside0 (((((w75.setCell ⟨gb279,0,none⟩ (.slice Ao76 t284.length co76)).setCell ⟨gb283,0,none⟩ (.int .i64 t287)).setCell ⟨gb283,1,none⟩ (.int .u64 t288)).setCell ⟨gb283,2,none⟩ (.slice Ao81 t289.length co81)).heap[gb276]? = some (.cells #[.slice Ao28 t269.length co28] 24 (0,0))):=⟨by (with_reducible repeat (first|refine kN ?_ _|refine kD ?_|refine kA ?_ _));refine blk_far ?_ NB276_283.out _;(with_reducible repeat (first|refine kN ?_ _|refine kD ?_|refine kA ?_ _));refine blk_far ?_ NB276_283.out _;(with_reducible repeat (first|refine kN ?_ _|refine kD ?_|refine kA ?_ _));refine blk_far ?_ NB276_283.out _;(with_reducible repeat (first|refine kN ?_ _|refine kD ?_|refine kA ?_ _));refine blk_far ?_ NB276_279.out _;(with_reducible repeat (first|refine kN ?_ _|refine kD ?_|refine kA ?_ _));exact BK276.out⟩
                  have n9_ : Aside0 (((((w75.setCell ⟨gb279,0,none⟩ (.slice Ao76 t284.length co76)).setCell ⟨gb283,0,none⟩ (.int .i64 t287)).setCell ⟨gb283,1,none⟩ (.int .u64 t288)).setCell ⟨gb283,2,none⟩ (.slice Ao81 t289.length co81)).heap[gb279]? = some (.cells #[.slice Ao76 t284.length co76] 24 (0,0))):=⟨by (with_reducible repeat (first|refine kN ?_ _|refine kD ?_|refine kA ?_ _));refine blk_far ?_ NB279_283.out _;(with_reducible repeat (first|refine kN ?_ _|refine kD ?_|refine kA ?_ _));refine blk_far ?_ NB279_283.out _;(with_reducible repeat (first|refine kN ?_ _|refine kD ?_|refine kA ?_ _));refine blk_far ?_ NB279_283.out _;(with_reducible repeat (first|refine kN ?_ _|refine kD ?_|refine kA ?_ _));refine blk_put (cs:=#[.slice Ao74 x280000_3.length co74]) ?_ 0 _ rfl;(with_reducible repeat (first|refine kN ?_ _|refine kD ?_|refine kA ?_ _));exact BK279.out⟩
                  have n10_ : Aside0 (((((w75.setCell ⟨gb279,0,none⟩ (.slice Ao76 t284.length co76)).setCell ⟨gb283,0,none⟩ (.int .i64 t287)).setCell ⟨gb283,1,none⟩ (.int .u64 t288)).setCell ⟨gb283,2,none⟩ (.slice Ao81 t289.length co81)).heap[gb282]? = some (.cells #[.int .i64 ((rd_T38 y266 x70_3).f0),.bool ((rd_T38 y266 x70_3).f1),.int .u32 ((rd_T38 y266 x70_3).f2),.int .i64 ((rd_T38 y266 x70_3).f3.f0),.int .i64 ((rd_T38 y266 x70_3).f3.f1),.int .i64 ((rd_T38 y266 x70_3).f3.f2),.int .i64 ((rd_T38 y266 x70_3).f3.f3),.int .i64 ((rd_T38 y266 x70_3).f4)] 38 (0,0))):=⟨by (with_reducible repeat (first|refine kN ?_ _|refine kD ?_|refine kA ?_ _));refine blk_far ?_ NB282_283.out _;(with_reducible repeat (first|refine kN ?_ _|refine kD ?_|refine kA ?_ _));refine blk_far ?_ NB282_283.out _;(with_reducible repeat (first|refine kN ?_ _|refine kD ?_|refine kA ?_ _));refine blk_far ?_ NB282_283.out _;(with_reducible repeat (first|refine kN ?_ _|refine kD ?_|refine kA ?_ _));refine blk_far ?_ NB282_279.out _;(with_reducible repeat (first|refine kN ?_ _|refine kD ?_|refine kA ?_ _));exact BK282.out⟩
                  have n11_ : Aside0 (((((w75.setCell ⟨gb279,0,none⟩ (.slice Ao76 t284.length co76)).setCell ⟨gb283,0,none⟩ (.int .i64 t287)).setCell ⟨gb283,1,none⟩ (.int .u64 t288)).setCell ⟨gb283,2,none⟩ (.slice Ao81 t289.length co81)).heap[gb283]? = some (.cells #[.int .i64 t287,.int .u64 t288,.slice Ao81 t289.length co81] 41 (0,0))):=⟨by (with_reducible repeat (first|refine kN ?_ _|refine kD ?_|refine kA ?_ _));refine blk_put (cs:=#[.int .i64 t287,.int .u64 t288,.slice none 0 0]) ?_ 2 _ rfl;(with_reducible repeat (first|refine kN ?_ _|refine kD ?_|refine kA ?_ _));refine blk_put (cs:=#[.int .i64 t287,.int .u64 0,.slice none 0 0]) ?_ 1 _ rfl;(with_reducible repeat (first|refine kN ?_ _|refine kD ?_|refine kA ?_ _));refine blk_put (cs:=#[.int .i64 0,.int .u64 0,.slice none 0 0]) ?_ 0 _ rfl;(with_reducible repeat (first|refine kN ?_ _|refine kD ?_|refine kA ?_ _));refine blk_far ?_ NB283_279.out _;(with_reducible repeat (first|refine kN ?_ _|refine kD ?_|refine kA ?_ _));exact BK283.out⟩
                  have n12_ : Aside0 (Below w.heap.size w ((((w75.setCell ⟨gb279,0,none⟩ (.slice Ao76 t284.length co76)).setCell ⟨gb283,0,none⟩ (.int .i64 t287)).setCell ⟨gb283,1,none⟩ (.int .u64 t288)).setCell ⟨gb283,2,none⟩ (.slice Ao81 t289.length co81))):=⟨by repeat (first|(with_reducible first|exact HB.out|apply bA|apply bN|apply bD|refine bS ?_ GE254.out|refine bS ?_ GE276.out|refine bS ?_ GE279.out|refine bS ?_ GE282.out|refine bS ?_ GE283.out)|exact HB.out)⟩
                  (try clear HO_9)
                  (try clear HO_68)
                  (try clear HO_255000)
                  (try clear HO_277000)
                  (try clear HO_280000)
                  (try clear HO286)
                  (try clear HO291)
                  (try clear BK254)
                  (try clear BK276)
                  (try clear BK279)
                  (try clear BK282)
                  (try clear BK283)
                  (try clear HB)
                  generalize ((((w75.setCell ⟨gb279,0,none⟩ (.slice Ao76 t284.length co76)).setCell ⟨gb283,0,none⟩ (.int .i64 t287)).setCell ⟨gb283,1,none⟩ (.int .u64 t288)).setCell ⟨gb283,2,none⟩ (.slice Ao81 t289.length co81)) = w82 at n0_ n1_ n2_ n3_ n4_ n5_ n6_ n7_ n8_ n9_ n10_ n11_ n12_ ⊢
                  have HO_9:=n0_
                  have HO_68:=n1_
                  have HO_255000:=n2_
                  have HO_277000:=n3_
                  have HO_280000:=n4_
                  have HO286:=n5_
                  have HO291:=n6_
                  have BK254:=n7_
                  have BK276:=n8_
                  have BK279:=n9_
                  have BK282:=n10_
                  have BK283:=n11_
                  have HB:=n12_
                  clear n0_ n1_ n2_ n3_ n4_ n5_ n6_ n7_ n8_ n9_ n10_ n11_ n12_
                  have n0_:=Ak (Kd.S_drew HO_9.out)
                  have n1_:=Ak (Kd.R_drew HO_68.out)
                  have n2_:=Ak (Kd.R_drew HO_255000.out)
                  have n3_:=Ak (Kd.R_drew HO_277000.out)
                  have n4_:=Ak (Kd.R_drew HO_280000.out)
                  have n5_:=Ak (Kd.R_drew HO286.out)
                  have n6_:=Ak (Kd.R_drew HO291.out)
                  have n7_:=Ak (kD BK254.out)
                  have n8_:=Ak (kD BK276.out)
                  have n9_:=Ak (kD BK279.out)
                  have n10_:=Ak (kD BK282.out)
                  have n11_:=Ak (kD BK283.out)
                  have n12_:=Ak (bD HB.out)
                  clear HO_9
                  clear HO_68
                  clear HO_255000
                  clear HO_277000
                  clear HO_280000
                  clear HO286
                  clear HO291
                  clear BK254
                  clear BK276
                  clear BK279
                  clear BK282
                  clear BK283
                  clear HB
                  have HO_9:=n0_
                  have HO_68:=n1_
                  have HO_255000:=n2_
                  have HO_277000:=n3_
                  have HO_280000:=n4_
                  have HO286:=n5_
                  have HO291:=n6_
                  have BK254:=n7_
                  have BK276:=n8_
                  have BK279:=n9_
                  have BK282:=n10_
                  have BK283:=n11_
                  have HB:=n12_
                  clear n0_ n1_ n2_ n3_ n4_ n5_ n6_ n7_ n8_ n9_ n10_ n11_ n12_
                  obtain ⟨Ao84,co84,eo84⟩:=Kd.S_slice HO_9.out
                  (first|subst eo84|(injection eo84 with f1_ f2_ f3_;have f4_:=f1_.symm;have f5_:=f3_.symm;clear f1_ f2_ f3_;subst f4_;subst f5_))
                  have p292 : 0 ≤ (x70_3 : Int):=of_decide_eq_true (by first|(with_reducible assumption)|assumption)
                  have q292 : x70_3 < (t272.length : Int):=of_decide_eq_true (by first|(with_reducible assumption)|assumption)
                  obtain ⟨ad292,A292_2,c292_2,e292,hx292_0,hx292_1,hx292_2,hl292_2,hi292_2⟩:=at_T41 (Kd.S_reads' HO_9.out).2.2 x70_3 p292 q292
                  cases e292
                  obtain ⟨ce292,hce292,hMe292,hcc292⟩:=Kd.S_get HO_9.out z41 x70_3 p292 (by first|exact q292|exact of_decide_eq_true (by first|(with_reducible assumption)|assumption)|(have e_:=(Kd.S_reads' HO_9.out).1;omega))
                  obtain ⟨ve292_2,rfl,ge292_2⟩:=k41_openM hMe292
                  have hv292_2:=hcc292 2 _ rfl
                  rw [add_field _ _ 2 (by omega)] at hv292_2
                  replace hv292_2:=Option.some.inj (hv292_2.symm.trans hx292_2)
                  rw [hv292_2] at ge292_2
                  have HL292_2:=Ak (show Kd.R k51 51 _ _ _ _ ((rd_T41 t272 x70_3).f2) from ge292_2)
                  clear hv292_2 ge292_2
                  clear hcc292 hce292
                  have HR292_2:=Ak hi292_2
                  have HC292_2:=Ak hl292_2
                  clear hi292_2 hl292_2
                  replace p292:=eq_true p292
                  replace q292:=eq_true q292
                  refine start_ (n:=7) (S:=fun w' => w'.cell? ⟨gb283,0,none⟩ = some (.int .i64 t287)∧w'.cell? ⟨gb283,1,none⟩ = some (.int .u64 t288)∧w'.cell? ⟨gb283,2,none⟩ = some (.slice Ao81 t289.length co81)∧w'.cell? (ad292.add ((x70_3).toNat*3)) = some (.int .i64 ((rd_T41 t272 x70_3).f0))∧w'.cell? ⟨(ad292.add ((x70_3).toNat*3)).block,(ad292.add ((x70_3).toNat*3)).off+1,none⟩ = some (.int .u64 ((rd_T41 t272 x70_3).f1))∧w'.cell? ⟨(ad292.add ((x70_3).toNat*3)).block,(ad292.add ((x70_3).toNat*3)).off+2,none⟩ = some (.slice A292_2 ((rd_T41 t272 x70_3).f2).length c292_2)) (ds:=[]) #[ff,ff,ff,ff,ff,ff,ff] (by kernel_rfl) rfl rfl ⟨(kC BK283.out 0).trans rfl,(kC BK283.out 1).trans rfl,(kC BK283.out 2).trans rfl,hx292_0,hx292_1,hx292_2⟩ (fun hHeld => ?_)
                  generalize w82.drew = w83 at HO_9 HO_68 HO_255000 HO_277000 HO_280000 HO286 HO291 BK254 BK276 BK279 BK282 BK283 HB HL292_2 HR292_2 hx292_0 hx292_1 hx292_2 hHeld ⊢
                  refine pure_ (i:=0) (N:=some 82) (v:=?_) (a':=?_) #[tt,ff,ff,ff,ff,ff,ff] rfl rfl (by kernel_rfl) (fun _ _ _ h => h) (Or.inl ⟨by rfl,?_⟩) ?_ ?_
                  rotate_left
                  ·intro w'
                   go_simp
                   with_reducible rfl
                  rotate_left
                  ·simp only [Act.put,sA,sZ,sS,i64_w,i32_w]
                   rfl
                  refine pure_ (i:=1) (N:=some 83) (v:=?_) (a':=?_) #[tt,tt,ff,ff,ff,ff,ff] rfl rfl (by kernel_rfl) (fun _ _ _ h => h) (Or.inl ⟨by rfl,?_⟩) ?_ ?_
                  rotate_left
                  ·intro w'
                   go_simp
                   with_reducible rfl
                  rotate_left
                  ·simp only [Act.put,sA,sZ,sS,i64_w,i32_w]
                   rfl
                  refine pure_ (i:=2) (N:=some 84) (v:=?_) (a':=?_) #[tt,tt,tt,ff,ff,ff,ff] rfl rfl (by kernel_rfl) (fun _ _ _ h => h) (Or.inl ⟨by rfl,?_⟩) ?_ ?_
                  rotate_left
                  ·intro w'
                   go_simp
                   with_reducible rfl
                  rotate_left
                  ·simp only [Act.put,sA,sZ,sS,i64_w,i32_w]
                   rfl
                  refine take_ (i:=3) (N:=some 85) (v:=?_) (a':=?_) #[tt,tt,tt,tt,ff,ff,ff] rfl rfl (by kernel_rfl) (fun _ _ _ h => h) (Or.inl ⟨by rfl,?_⟩) hHeld ?_ ?_
                  rotate_left
                  ·rintro w' ⟨s0,s1,s2,s3,s4,s5⟩
                   go_simp
                   with_reducible rfl
                  rotate_left
                  ·simp only [Act.put,sA,sZ,sS,i64_w,i32_w]
                   rfl
                  refine take_ (i:=4) (N:=some 86) (v:=?_) (a':=?_) #[tt,tt,tt,tt,tt,ff,ff] rfl rfl (by kernel_rfl) (fun _ _ _ h => h) (Or.inl ⟨by rfl,?_⟩) hHeld ?_ ?_
                  rotate_left
                  ·rintro w' ⟨s0,s1,s2,s3,s4,s5⟩
                   go_simp
                   with_reducible rfl
                  rotate_left
                  ·simp only [Act.put,sA,sZ,sS,i64_w,i32_w]
                   rfl
                  refine one_ (i:=5) (N:=some 87) #[tt,tt,tt,tt,tt,tt,ff] rfl rfl (by kernel_rfl) (by decide) (fun K hK => ?_)
                  refine goes_ Try.func19 (by kernel_rfl) rfl #[.agg #[.int .i64 ((rd_T41 t272 x70_3).f0),.int .u64 ((rd_T41 t272 x70_3).f1),.slice A292_2 ((rd_T41 t272 x70_3).f2).length c292_2],.agg #[.int .i64 t287,.int .u64 t288,.slice Ao81 t289.length co81]] (by rfl) rfl rfl (by (try simp only [List.map_toArray,List.map_cons,List.map_nil]);first|done|rfl|(simp only [List.length_drop,List.length_take];rfl)) ?_
                  with_reducible refine (gazetteerref22_Alike.calls k3 ((rd_T41 t272 x70_3).f0) ((rd_T41 t272 x70_3).f1) _ _ ((rd_T41 t272 x70_3).f2) t287 t288 _ _ t289 true _ ?side1 ?side2 ?side3 ?side4 A60.out).mono ?_
                  (case side1 => repeat (first|exact (by repeat (first|(with_reducible exact HR292_2.out)|(with_reducible refine Kd.C_alloc ?_ _)|(with_reducible refine Kd.C_drewN ?_ _)|(with_reducible refine Kd.C_drew ?_)|exact HR292_2.out))|(with_reducible refine Kd.C_alloc ?_ _)|(with_reducible refine Kd.C_drewN ?_ _)|(with_reducible refine Kd.C_drew ?_)))
                  (case side2 => exact HC292_2.out)
                  (case side3 => repeat (first|exact (Kd.R_reads' HO291.out).2.2|(with_reducible refine Kd.C_alloc ?_ _)|(with_reducible refine Kd.C_drewN ?_ _)|(with_reducible refine Kd.C_drew ?_)))
                  (case side4 => exact (Kd.R_reads' HO291.out).2.1)
                  rintro e w85 ⟨rfl,hb⟩
                  have HS3_:=(hb.cell (World.block_lt_of_cell? _ _ (hHeld.2.2.2.1))).trans (hHeld.2.2.2.1)
                  have HS4_:=(hb.cell (World.block_lt_of_cell? _ _ (hHeld.2.2.2.2.1))).trans (hHeld.2.2.2.2.1)
                  have HS5_:=(hb.cell (World.block_lt_of_cell? _ _ (hHeld.2.2.2.2.2))).trans (hHeld.2.2.2.2.2)
                  refine ⟨_,rfl,?_⟩
                  have n0_:=Ak (Kd.S_below (by (with_reducible repeat (first|apply Kd.S_alloc|apply Kd.S_drewN|apply Kd.S_drew));exact HO_9.out) hb)
                  have n1_:=Ak (Kd.R_below (by (with_reducible repeat (first|apply Kd.R_alloc|apply Kd.R_drewN|apply Kd.R_drew));exact HO_68.out) hb)
                  have n2_:=Ak (Kd.R_below (by (with_reducible repeat (first|apply Kd.R_alloc|apply Kd.R_drewN|apply Kd.R_drew));exact HO_255000.out) hb)
                  have n3_:=Ak (Kd.R_below (by (with_reducible repeat (first|apply Kd.R_alloc|apply Kd.R_drewN|apply Kd.R_drew));exact HO_277000.out) hb)
                  have n4_:=Ak (Kd.R_below (by (with_reducible repeat (first|apply Kd.R_alloc|apply Kd.R_drewN|apply Kd.R_drew));exact HO_280000.out) hb)
                  have n5_:=Ak (Kd.R_below (by (with_reducible repeat (first|apply Kd.R_alloc|apply Kd.R_drewN|apply Kd.R_drew));exact HO286.out) hb)
                  have n6_:=Ak (Kd.R_below (by (with_reducible repeat (first|apply Kd.R_alloc|apply Kd.R_drewN|apply Kd.R_drew));exact HO291.out) hb)
                  have n7_:=Ak (Kd.R_below (by (with_reducible repeat (first|apply Kd.R_alloc|apply Kd.R_drewN|apply Kd.R_drew));exact HL292_2.out) hb)
                  have n8_:=Ak (kB (g:=gb254) (o:=.cells #[.slice Ao18 t256.length co18] 24 (0,0)) (by (with_reducible repeat (first|refine kN ?_ _|refine kD ?_|refine kA ?_ _));exact BK254.out) hb)
                  have n9_:=Ak (kB (g:=gb276) (o:=.cells #[.slice Ao28 t269.length co28] 24 (0,0)) (by (with_reducible repeat (first|refine kN ?_ _|refine kD ?_|refine kA ?_ _));exact BK276.out) hb)
                  have n10_:=Ak (kB (g:=gb279) (o:=.cells #[.slice Ao76 t284.length co76] 24 (0,0)) (by (with_reducible repeat (first|refine kN ?_ _|refine kD ?_|refine kA ?_ _));exact BK279.out) hb)
                  have n11_:=Ak (kB (g:=gb282) (o:=.cells #[.int .i64 ((rd_T38 y266 x70_3).f0),.bool ((rd_T38 y266 x70_3).f1),.int .u32 ((rd_T38 y266 x70_3).f2),.int .i64 ((rd_T38 y266 x70_3).f3.f0),.int .i64 ((rd_T38 y266 x70_3).f3.f1),.int .i64 ((rd_T38 y266 x70_3).f3.f2),.int .i64 ((rd_T38 y266 x70_3).f3.f3),.int .i64 ((rd_T38 y266 x70_3).f4)] 38 (0,0)) (by (with_reducible repeat (first|refine kN ?_ _|refine kD ?_|refine kA ?_ _));exact BK282.out) hb)
                  have n12_:=Ak (kB (g:=gb283) (o:=.cells #[.int .i64 t287,.int .u64 t288,.slice Ao81 t289.length co81] 41 (0,0)) (by (with_reducible repeat (first|refine kN ?_ _|refine kD ?_|refine kA ?_ _));exact BK283.out) hb)
                  have n13_:=Ak (Kd.C_below (by repeat (first|(with_reducible exact HR292_2.out)|(with_reducible refine Kd.C_alloc ?_ _)|(with_reducible refine Kd.C_drewN ?_ _)|(with_reducible refine Kd.C_drew ?_)|exact HR292_2.out)) hb)
                  have n14_:=Ak (below_step (by repeat (first|(with_reducible first|exact HB.out|apply bA|apply bN|apply bD|refine bS ?_ GE254.out|refine bS ?_ GE276.out|refine bS ?_ GE279.out|refine bS ?_ GE282.out|refine bS ?_ GE283.out)|exact HB.out)) hb)
                  clear HO_9
                  clear HO_68
                  clear HO_255000
                  clear HO_277000
                  clear HO_280000
                  clear HO286
                  clear HO291
                  clear HL292_2
                  clear BK254
                  clear BK276
                  clear BK279
                  clear BK282
                  clear BK283
                  clear HR292_2
                  clear HB
                  have HO_9:=n0_
                  have HO_68:=n1_
                  have HO_255000:=n2_
                  have HO_277000:=n3_
                  have HO_280000:=n4_
                  have HO286:=n5_
                  have HO291:=n6_
                  have HL292_2:=n7_
                  have BK254:=n8_
                  have BK276:=n9_
                  have BK279:=n10_
                  have BK282:=n11_
                  have BK283:=n12_
                  have HR292_2:=n13_
                  have HB:=n14_
                  clear n0_ n1_ n2_ n3_ n4_ n5_ n6_ n7_ n8_ n9_ n10_ n11_ n12_ n13_ n14_
                  (try clear hb)
                  (try clear hb2)
                  (try clear hk)
                  (try clear hi)
                  refine hK.out _ _ ⟨(kC BK283.out 0).trans rfl,(kC BK283.out 1).trans rfl,(kC BK283.out 2).trans rfl,HS3_,HS4_,HS5_⟩ (fun hHeld => ?_)
                  clear hK K
                  refine norm_ (a':=?_) ?_ ?_
                  rotate_left
                  ·show Act.put _ (some 87) _ = _
                   simp only [Act.put,sA,sZ,sS,i64_w,i32_w]
                   rfl
                  refine pure_ (i:=6) (N:=some 88) (v:=?_) (a':=?_) #[tt,tt,tt,tt,tt,tt,tt] rfl rfl (by kernel_rfl) (fun _ _ _ h => h) (Or.inl ⟨by rfl,?_⟩) ?_ ?_
                  rotate_left
                  ·intro w'
                   go_simp
                   with_reducible rfl
                  rotate_left
                  ·simp only [Act.put,sA,sZ,sS,i64_w,i32_w]
                   rfl
                  refine done_ (by kernel_rfl) ?_
                  try go_wp2
                  go_roundg k3
                  case measure => have:=HJ12.out;have:=HJ44.out;have:=HK3.out;omega
                  case rel => exact ⟨(wrap64 (x70_3+1)),(t284),(.slice Ao76 t284.length co76),(by first|rfl|(simp;done)|(simp [*];done)),H',⟨by have:=HJ12.out;have:=HJ44.out;have:=HK3.out;omega⟩,⟨by (with_reducible repeat (first|apply Kd.S_alloc|apply Kd.S_drewN|apply Kd.S_drew));exact Kd.S_mono HO_9.out (fun _ hk => ⟨hk.1,⟨hk.2.1,hk.2.2.2.1⟩⟩)⟩,⟨by (with_reducible repeat (first|apply Kd.R_alloc|apply Kd.R_drewN|apply Kd.R_drew));exact Kd.R_mono HO_68.out (fun _ hk => trivial)⟩,⟨by (with_reducible repeat (first|apply Kd.R_alloc|apply Kd.R_drewN|apply Kd.R_drew));exact Kd.R_mono HO_255000.out (fun _ hk => by first|exact ⟨hk.1,hk.2.1⟩|exact hk.1|exact hk.2.1|exact hk)⟩,⟨by (with_reducible repeat (first|apply Kd.R_alloc|apply Kd.R_drewN|apply Kd.R_drew));exact Kd.R_mono HO_277000.out (fun _ hk => by first|exact ⟨hk.1,hk.2.2.1⟩|exact hk.1|exact hk.2.2.1|exact hk)⟩,⟨by (with_reducible repeat (first|apply Kd.R_alloc|apply Kd.R_drewN|apply Kd.R_drew));exact Kd.R_mono HO286.out (fun _ hk => by first|exact ⟨hk.1,hk.2.1⟩|exact hk.1|exact hk.2.1|exact hk)⟩,⟨by (with_reducible repeat (first|refine kN ?_ _|refine kD ?_|refine kA ?_ _));exact BK254.out⟩,⟨by (with_reducible repeat (first|refine kN ?_ _|refine kD ?_|refine kA ?_ _));exact BK276.out⟩,⟨by (with_reducible repeat (first|refine kN ?_ _|refine kD ?_|refine kA ?_ _));exact BK279.out⟩,⟨by repeat (first|(with_reducible first|exact HB.out|apply bA|apply bN|apply bD|refine bS ?_ GE254.out|refine bS ?_ GE276.out|refine bS ?_ GE279.out|refine bS ?_ GE282.out|refine bS ?_ GE283.out)|exact HB.out)⟩⟩
                 ·replace c61:=Bool.eq_false_iff.mpr c61
                  subst c61
                  have H1 : (some false) = some r:=by rw [if_neg (show ¬ (false = true) by decide)] at H;exact H
                  clear H
                  have H:=H1
                  clear H1
                  obtain rfl:=Option.some.inj H
                  have p281 : 0 ≤ (x70_3 : Int):=of_decide_eq_true (by first|(with_reducible assumption)|assumption)
                  have q281 : x70_3 < (y266.length : Int):=of_decide_eq_true (by first|(with_reducible assumption)|assumption)
                  obtain ⟨ad281,e281,hx281_0,hx281_1,hx281_2,hx281_3,hx281_4,hx281_5,hx281_6,hx281_7⟩:=at_T38 (Kd.R_reads' HO_68.out).2.2 x70_3 p281 q281
                  cases e281
                  replace p281:=eq_true p281
                  replace q281:=eq_true q281
                  try go_wp2_with (first|((with_reducible refine gate_dst (N:=15) rfl ?_);(try (refine gate_guard (by rfl) ?_;dsimp only));refine box_event ?hg (N:=15) ?hd (cs:=#[.int .i64 0,.bool false,.int .u32 0,.int .i64 0,.int .i64 0,.int .i64 0,.int .i64 0,.int .i64 0]) (t:=38) ?hr ?_;(case hd => rfl);(case hg => rfl);(case hr => first|(go_simp;done)|(go_simp;rfl));intro gb282 hg w86 hbox hb;have n0_:=Ak (Kd.S_below (by (with_reducible repeat (first|apply Kd.S_alloc|apply Kd.S_drewN|apply Kd.S_drew));exact HO_9.out) hb);have n1_:=Ak (Kd.R_below (Kd.R_elderB (by (with_reducible repeat (first|apply Kd.R_alloc|apply Kd.R_drewN|apply Kd.R_drew));exact HO_68.out) gb282 (Nat.le_of_eq hg.symm)) hb);have n2_:=Ak (Kd.R_below (by (with_reducible repeat (first|apply Kd.R_alloc|apply Kd.R_drewN|apply Kd.R_drew));exact HO_255000.out) hb);have n3_:=Ak (Kd.R_below (by (with_reducible repeat (first|apply Kd.R_alloc|apply Kd.R_drewN|apply Kd.R_drew));exact HO_277000.out) hb);have n4_:=Ak (Kd.R_below (by (with_reducible repeat (first|apply Kd.R_alloc|apply Kd.R_drewN|apply Kd.R_drew));exact HO_280000.out) hb);have n5_:=Ak (kB (g:=gb254) (o:=.cells #[.slice Ao18 t256.length co18] 24 (0,0)) (by (with_reducible repeat (first|refine kN ?_ _|refine kD ?_|refine kA ?_ _));exact BK254.out) hb);have n6_:=Ak (kB (g:=gb276) (o:=.cells #[.slice Ao28 t269.length co28] 24 (0,0)) (by (with_reducible repeat (first|refine kN ?_ _|refine kD ?_|refine kA ?_ _));exact BK276.out) hb);have n7_:=Ak (kB (g:=gb279) (o:=.cells #[u280000] 24 (0,0)) (by (with_reducible repeat (first|refine kN ?_ _|refine kD ?_|refine kA ?_ _));exact BK279.out) hb);have n8_:=Ak (below_step (by repeat (first|(with_reducible first|exact HB.out|apply bA|apply bN|apply bD|refine bS ?_ GE254.out|refine bS ?_ GE276.out|refine bS ?_ GE279.out)|exact HB.out)) hb);have n9_:=Ak (hbox);have n10_:=Ak ((by rw [hg];exact (below_size (by repeat (first|(with_reducible first|exact HB.out|apply bA|apply bN|apply bD|refine bS ?_ GE254.out|refine bS ?_ GE276.out|refine bS ?_ GE279.out)|exact HB.out))) : w.heap.size ≤ gb282));have n11_:=Ak ((by rw [hg];exact (below_size (by repeat (first|(with_reducible first|exact HB.out|apply bA|apply bN|apply bD|refine bS ?_ GE254.out|refine bS ?_ GE276.out|refine bS ?_ GE279.out)|exact HB.out))) : w.heap.size ≤ gb282));have n12_:=Ak ((by rw [hg];exact Nat.ne_of_lt (blk_lt (g:=gb254) (o:=.cells #[.slice Ao18 t256.length co18] 24 (0,0)) (by (with_reducible repeat (first|refine kN ?_ _|refine kD ?_|refine kA ?_ _));exact BK254.out)) : gb254 ≠ gb282));have n13_:=Ak ((by rw [hg];exact Nat.ne_of_gt (blk_lt (g:=gb254) (o:=.cells #[.slice Ao18 t256.length co18] 24 (0,0)) (by (with_reducible repeat (first|refine kN ?_ _|refine kD ?_|refine kA ?_ _));exact BK254.out)) : gb282 ≠ gb254));have n14_:=Ak ((by rw [hg];exact Nat.ne_of_lt (blk_lt (g:=gb276) (o:=.cells #[.slice Ao28 t269.length co28] 24 (0,0)) (by (with_reducible repeat (first|refine kN ?_ _|refine kD ?_|refine kA ?_ _));exact BK276.out)) : gb276 ≠ gb282));have n15_:=Ak ((by rw [hg];exact Nat.ne_of_gt (blk_lt (g:=gb276) (o:=.cells #[.slice Ao28 t269.length co28] 24 (0,0)) (by (with_reducible repeat (first|refine kN ?_ _|refine kD ?_|refine kA ?_ _));exact BK276.out)) : gb282 ≠ gb276));have n16_:=Ak ((by rw [hg];exact Nat.ne_of_lt (blk_lt (g:=gb279) (o:=.cells #[u280000] 24 (0,0)) (by (with_reducible repeat (first|refine kN ?_ _|refine kD ?_|refine kA ?_ _));exact BK279.out)) : gb279 ≠ gb282));have n17_:=Ak ((by rw [hg];exact Nat.ne_of_gt (blk_lt (g:=gb279) (o:=.cells #[u280000] 24 (0,0)) (by (with_reducible repeat (first|refine kN ?_ _|refine kD ?_|refine kA ?_ _));exact BK279.out)) : gb282 ≠ gb279));clear HO_9;clear HO_68;clear HO_255000;clear HO_277000;clear HO_280000;clear BK254;clear BK276;clear BK279;clear HB;have HO_9:=n0_;have HO_68:=n1_;have HO_255000:=n2_;have HO_277000:=n3_;have HO_280000:=n4_;have BK254:=n5_;have BK276:=n6_;have BK279:=n7_;have HB:=n8_;have BK282:=n9_;have GW282:=n10_;have GE282:=n11_;have NB254_282:=n12_;have NB282_254:=n13_;have NB276_282:=n14_;have NB282_276:=n15_;have NB279_282:=n16_;have NB282_279:=n17_;clear n0_ n1_ n2_ n3_ n4_ n5_ n6_ n7_ n8_ n9_ n10_ n11_ n12_ n13_ n14_ n15_ n16_ n17_;clear hb hbox hg;have hnb87:=NB282_254.out;have hnc87:=NB254_282.out;have hnb88:=NB282_276.out;have hnc88:=NB276_282.out;have hnb89:=NB282_279.out;have hnc89:=NB279_282.out;have hcz90_0 : w86.cell? ⟨gb282,0,none⟩ = some (.int .i64 0):=(kC BK282.out 0).trans rfl;have hcz90_1 : w86.cell? ⟨gb282,1,none⟩ = some (.bool false):=(kC BK282.out 1).trans rfl;have hcz90_2 : w86.cell? ⟨gb282,2,none⟩ = some (.int .u32 0):=(kC BK282.out 2).trans rfl;have hcz90_3 : w86.cell? ⟨gb282,3,none⟩ = some (.int .i64 0):=(kC BK282.out 3).trans rfl;have hcz90_4 : w86.cell? ⟨gb282,4,none⟩ = some (.int .i64 0):=(kC BK282.out 4).trans rfl;have hcz90_5 : w86.cell? ⟨gb282,5,none⟩ = some (.int .i64 0):=(kC BK282.out 5).trans rfl;have hcz90_6 : w86.cell? ⟨gb282,6,none⟩ = some (.int .i64 0):=(kC BK282.out 6).trans rfl;have hcz90_7 : w86.cell? ⟨gb282,7,none⟩ = some (.int .i64 0):=(kC BK282.out 7).trans rfl;have hfz90_0:=blk_frozen BK282.out 0;have hfz90_1:=blk_frozen BK282.out 1;have hfz90_2:=blk_frozen BK282.out 2;have hfz90_3:=blk_frozen BK282.out 3;have hfz90_4:=blk_frozen BK282.out 4;have hfz90_5:=blk_frozen BK282.out 5;have hfz90_6:=blk_frozen BK282.out 6;have hfz90_7:=blk_frozen BK282.out 7)|((with_reducible refine gate_dst (N:=16) rfl ?_);(try (refine gate_guard (by rfl) ?_;dsimp only));refine box_event ?hg (N:=16) ?hd (cs:=#[.int .i64 0,.int .u64 0,.slice none 0 0]) (t:=41) ?hr ?_;(case hd => rfl);(case hg => rfl);(case hr => first|(go_simp;done)|(go_simp;rfl));intro gb283 hg w91 hbox hb;have n0_:=Ak (Kd.S_below (Kd.S_elderB (by (with_reducible repeat (first|apply Kd.S_alloc|apply Kd.S_drewN|apply Kd.S_drew));exact (Kd.S_mono (Kd.S_far (p:=⟨gb282,7,none⟩) (Kd.S_far (p:=⟨gb282,6,none⟩) (Kd.S_far (p:=⟨gb282,5,none⟩) (Kd.S_far (p:=⟨gb282,4,none⟩) (Kd.S_far (p:=⟨gb282,3,none⟩) (Kd.S_far (p:=⟨gb282,2,none⟩) (Kd.S_far (p:=⟨gb282,1,none⟩) (Kd.S_far (p:=⟨gb282,0,none⟩) (Kd.S_types HO_9.out BK282.out (by decide)) (fun _ hk => hk.2) (.int .i64 ((rd_T38 y266 x70_3).f0))) (fun _ hk => hk.2) (.bool ((rd_T38 y266 x70_3).f1))) (fun _ hk => hk.2) (.int .u32 ((rd_T38 y266 x70_3).f2))) (fun _ hk => hk.2) (.int .i64 ((rd_T38 y266 x70_3).f3.f0))) (fun _ hk => hk.2) (.int .i64 ((rd_T38 y266 x70_3).f3.f1))) (fun _ hk => hk.2) (.int .i64 ((rd_T38 y266 x70_3).f3.f2))) (fun _ hk => hk.2) (.int .i64 ((rd_T38 y266 x70_3).f3.f3))) (fun _ hk => hk.2) (.int .i64 ((rd_T38 y266 x70_3).f4))) (fun _ h_ => h_.1))) gb283 (Nat.le_of_eq hg.symm)) hb);have n1_:=Ak (Kd.R_below (by (with_reducible repeat (first|apply Kd.R_alloc|apply Kd.R_drewN|apply Kd.R_drew));exact (Kd.R_mono (Kd.R_far (p:=⟨gb282,7,none⟩) (Kd.R_far (p:=⟨gb282,6,none⟩) (Kd.R_far (p:=⟨gb282,5,none⟩) (Kd.R_far (p:=⟨gb282,4,none⟩) (Kd.R_far (p:=⟨gb282,3,none⟩) (Kd.R_far (p:=⟨gb282,2,none⟩) (Kd.R_far (p:=⟨gb282,1,none⟩) (Kd.R_far (p:=⟨gb282,0,none⟩) (Kd.R_mono HO_68.out (fun k_ hk => (⟨hk,hk.2⟩ : _∧k_ ≠ gb282))) (fun _ hk => hk.2) (.int .i64 ((rd_T38 y266 x70_3).f0))) (fun _ hk => hk.2) (.bool ((rd_T38 y266 x70_3).f1))) (fun _ hk => hk.2) (.int .u32 ((rd_T38 y266 x70_3).f2))) (fun _ hk => hk.2) (.int .i64 ((rd_T38 y266 x70_3).f3.f0))) (fun _ hk => hk.2) (.int .i64 ((rd_T38 y266 x70_3).f3.f1))) (fun _ hk => hk.2) (.int .i64 ((rd_T38 y266 x70_3).f3.f2))) (fun _ hk => hk.2) (.int .i64 ((rd_T38 y266 x70_3).f3.f3))) (fun _ hk => hk.2) (.int .i64 ((rd_T38 y266 x70_3).f4))) (fun _ h_ => h_.1))) hb);have n2_:=Ak (Kd.R_below (by (with_reducible repeat (first|apply Kd.R_alloc|apply Kd.R_drewN|apply Kd.R_drew));exact (Kd.R_mono (Kd.R_far (p:=⟨gb282,7,none⟩) (Kd.R_far (p:=⟨gb282,6,none⟩) (Kd.R_far (p:=⟨gb282,5,none⟩) (Kd.R_far (p:=⟨gb282,4,none⟩) (Kd.R_far (p:=⟨gb282,3,none⟩) (Kd.R_far (p:=⟨gb282,2,none⟩) (Kd.R_far (p:=⟨gb282,1,none⟩) (Kd.R_far (p:=⟨gb282,0,none⟩) (Kd.R_types HO_255000.out BK282.out (by decide)) (fun _ hk => hk.2) (.int .i64 ((rd_T38 y266 x70_3).f0))) (fun _ hk => hk.2) (.bool ((rd_T38 y266 x70_3).f1))) (fun _ hk => hk.2) (.int .u32 ((rd_T38 y266 x70_3).f2))) (fun _ hk => hk.2) (.int .i64 ((rd_T38 y266 x70_3).f3.f0))) (fun _ hk => hk.2) (.int .i64 ((rd_T38 y266 x70_3).f3.f1))) (fun _ hk => hk.2) (.int .i64 ((rd_T38 y266 x70_3).f3.f2))) (fun _ hk => hk.2) (.int .i64 ((rd_T38 y266 x70_3).f3.f3))) (fun _ hk => hk.2) (.int .i64 ((rd_T38 y266 x70_3).f4))) (fun _ h_ => h_.1))) hb);have n3_:=Ak (Kd.R_below (by (with_reducible repeat (first|apply Kd.R_alloc|apply Kd.R_drewN|apply Kd.R_drew));exact (Kd.R_mono (Kd.R_far (p:=⟨gb282,7,none⟩) (Kd.R_far (p:=⟨gb282,6,none⟩) (Kd.R_far (p:=⟨gb282,5,none⟩) (Kd.R_far (p:=⟨gb282,4,none⟩) (Kd.R_far (p:=⟨gb282,3,none⟩) (Kd.R_far (p:=⟨gb282,2,none⟩) (Kd.R_far (p:=⟨gb282,1,none⟩) (Kd.R_far (p:=⟨gb282,0,none⟩) (Kd.R_types HO_277000.out BK282.out (by decide)) (fun _ hk => hk.2) (.int .i64 ((rd_T38 y266 x70_3).f0))) (fun _ hk => hk.2) (.bool ((rd_T38 y266 x70_3).f1))) (fun _ hk => hk.2) (.int .u32 ((rd_T38 y266 x70_3).f2))) (fun _ hk => hk.2) (.int .i64 ((rd_T38 y266 x70_3).f3.f0))) (fun _ hk => hk.2) (.int .i64 ((rd_T38 y266 x70_3).f3.f1))) (fun _ hk => hk.2) (.int .i64 ((rd_T38 y266 x70_3).f3.f2))) (fun _ hk => hk.2) (.int .i64 ((rd_T38 y266 x70_3).f3.f3))) (fun _ hk => hk.2) (.int .i64 ((rd_T38 y266 x70_3).f4))) (fun _ h_ => h_.1))) hb);have n4_:=Ak (Kd.R_below (by (with_reducible repeat (first|apply Kd.R_alloc|apply Kd.R_drewN|apply Kd.R_drew));exact (Kd.R_mono (Kd.R_far (p:=⟨gb282,7,none⟩) (Kd.R_far (p:=⟨gb282,6,none⟩) (Kd.R_far (p:=⟨gb282,5,none⟩) (Kd.R_far (p:=⟨gb282,4,none⟩) (Kd.R_far (p:=⟨gb282,3,none⟩) (Kd.R_far (p:=⟨gb282,2,none⟩) (Kd.R_far (p:=⟨gb282,1,none⟩) (Kd.R_far (p:=⟨gb282,0,none⟩) (Kd.R_types HO_280000.out BK282.out (by decide)) (fun _ hk => hk.2) (.int .i64 ((rd_T38 y266 x70_3).f0))) (fun _ hk => hk.2) (.bool ((rd_T38 y266 x70_3).f1))) (fun _ hk => hk.2) (.int .u32 ((rd_T38 y266 x70_3).f2))) (fun _ hk => hk.2) (.int .i64 ((rd_T38 y266 x70_3).f3.f0))) (fun _ hk => hk.2) (.int .i64 ((rd_T38 y266 x70_3).f3.f1))) (fun _ hk => hk.2) (.int .i64 ((rd_T38 y266 x70_3).f3.f2))) (fun _ hk => hk.2) (.int .i64 ((rd_T38 y266 x70_3).f3.f3))) (fun _ hk => hk.2) (.int .i64 ((rd_T38 y266 x70_3).f4))) (fun _ h_ => h_.1))) hb);have n5_:=Ak (kB (g:=gb254) (o:=.cells #[.slice Ao18 t256.length co18] 24 (0,0)) (by (with_reducible repeat (first|refine kN ?_ _|refine kD ?_|refine kA ?_ _));refine blk_far ?_ NB254_282.out _;(with_reducible repeat (first|refine kN ?_ _|refine kD ?_|refine kA ?_ _));refine blk_far ?_ NB254_282.out _;(with_reducible repeat (first|refine kN ?_ _|refine kD ?_|refine kA ?_ _));refine blk_far ?_ NB254_282.out _;(with_reducible repeat (first|refine kN ?_ _|refine kD ?_|refine kA ?_ _));refine blk_far ?_ NB254_282.out _;(with_reducible repeat (first|refine kN ?_ _|refine kD ?_|refine kA ?_ _));refine blk_far ?_ NB254_282.out _;(with_reducible repeat (first|refine kN ?_ _|refine kD ?_|refine kA ?_ _));refine blk_far ?_ NB254_282.out _;(with_reducible repeat (first|refine kN ?_ _|refine kD ?_|refine kA ?_ _));refine blk_far ?_ NB254_282.out _;(with_reducible repeat (first|refine kN ?_ _|refine kD ?_|refine kA ?_ _));refine blk_far ?_ NB254_282.out _;(with_reducible repeat (first|refine kN ?_ _|refine kD ?_|refine kA ?_ _));exact BK254.out) hb);have n6_:=Ak (kB (g:=gb276) (o:=.cells #[.slice Ao28 t269.length co28] 24 (0,0)) (by (with_reducible repeat (first|refine kN ?_ _|refine kD ?_|refine kA ?_ _));refine blk_far ?_ NB276_282.out _;(with_reducible repeat (first|refine kN ?_ _|refine kD ?_|refine kA ?_ _));refine blk_far ?_ NB276_282.out _;(with_reducible repeat (first|refine kN ?_ _|refine kD ?_|refine kA ?_ _));refine blk_far ?_ NB276_282.out _;(with_reducible repeat (first|refine kN ?_ _|refine kD ?_|refine kA ?_ _));refine blk_far ?_ NB276_282.out _;(with_reducible repeat (first|refine kN ?_ _|refine kD ?_|refine kA ?_ _));refine blk_far ?_ NB276_282.out _;(with_reducible repeat (first|refine kN ?_ _|refine kD ?_|refine kA ?_ _));refine blk_far ?_ NB276_282.out _;(with_reducible repeat (first|refine kN ?_ _|refine kD ?_|refine kA ?_ _));refine blk_far ?_ NB276_282.out _;(with_reducible repeat (first|refine kN ?_ _|refine kD ?_|refine kA ?_ _));refine blk_far ?_ NB276_282.out _;(with_reducible repeat (first|refine kN ?_ _|refine kD ?_|refine kA ?_ _));exact BK276.out) hb);have n7_:=Ak (kB (g:=gb279) (o:=.cells #[u280000] 24 (0,0)) (by (with_reducible repeat (first|refine kN ?_ _|refine kD ?_|refine kA ?_ _));refine blk_far ?_ NB279_282.out _;(with_reducible repeat (first|refine kN ?_ _|refine kD ?_|refine kA ?_ _));refine blk_far ?_ NB279_282.out _;(with_reducible repeat (first|refine kN ?_ _|refine kD ?_|refine kA ?_ _));refine blk_far ?_ NB279_282.out _;(with_reducible repeat (first|refine kN ?_ _|refine kD ?_|refine kA ?_ _));refine blk_far ?_ NB279_282.out _;(with_reducible repeat (first|refine kN ?_ _|refine kD ?_|refine kA ?_ _));refine blk_far ?_ NB279_282.out _;(with_reducible repeat (first|refine kN ?_ _|refine kD ?_|refine kA ?_ _));refine blk_far ?_ NB279_282.out _;(with_reducible repeat (first|refine kN ?_ _|refine kD ?_|refine kA ?_ _));refine blk_far ?_ NB279_282.out _;(with_reducible repeat (first|refine kN ?_ _|refine kD ?_|refine kA ?_ _));refine blk_far ?_ NB279_282.out _;(with_reducible repeat (first|refine kN ?_ _|refine kD ?_|refine kA ?_ _));exact BK279.out) hb);have n8_:=Ak (kB (g:=gb282) (o:=.cells #[.int .i64 ((rd_T38 y266 x70_3).f0),.bool ((rd_T38 y266 x70_3).f1),.int .u32 ((rd_T38 y266 x70_3).f2),.int .i64 ((rd_T38 y266 x70_3).f3.f0),.int .i64 ((rd_T38 y266 x70_3).f3.f1),.int .i64 ((rd_T38 y266 x70_3).f3.f2),.int .i64 ((rd_T38 y266 x70_3).f3.f3),.int .i64 ((rd_T38 y266 x70_3).f4)] 38 (0,0)) (by (with_reducible repeat (first|refine kN ?_ _|refine kD ?_|refine kA ?_ _));refine blk_put (cs:=#[.int .i64 ((rd_T38 y266 x70_3).f0),.bool ((rd_T38 y266 x70_3).f1),.int .u32 ((rd_T38 y266 x70_3).f2),.int .i64 ((rd_T38 y266 x70_3).f3.f0),.int .i64 ((rd_T38 y266 x70_3).f3.f1),.int .i64 ((rd_T38 y266 x70_3).f3.f2),.int .i64 ((rd_T38 y266 x70_3).f3.f3),.int .i64 0]) ?_ 7 _ rfl;(with_reducible repeat (first|refine kN ?_ _|refine kD ?_|refine kA ?_ _));refine blk_put (cs:=#[.int .i64 ((rd_T38 y266 x70_3).f0),.bool ((rd_T38 y266 x70_3).f1),.int .u32 ((rd_T38 y266 x70_3).f2),.int .i64 ((rd_T38 y266 x70_3).f3.f0),.int .i64 ((rd_T38 y266 x70_3).f3.f1),.int .i64 ((rd_T38 y266 x70_3).f3.f2),.int .i64 0,.int .i64 0]) ?_ 6 _ rfl;(with_reducible repeat (first|refine kN ?_ _|refine kD ?_|refine kA ?_ _));refine blk_put (cs:=#[.int .i64 ((rd_T38 y266 x70_3).f0),.bool ((rd_T38 y266 x70_3).f1),.int .u32 ((rd_T38 y266 x70_3).f2),.int .i64 ((rd_T38 y266 x70_3).f3.f0),.int .i64 ((rd_T38 y266 x70_3).f3.f1),.int .i64 0,.int .i64 0,.int .i64 0]) ?_ 5 _ rfl;(with_reducible repeat (first|refine kN ?_ _|refine kD ?_|refine kA ?_ _));refine blk_put (cs:=#[.int .i64 ((rd_T38 y266 x70_3).f0),.bool ((rd_T38 y266 x70_3).f1),.int .u32 ((rd_T38 y266 x70_3).f2),.int .i64 ((rd_T38 y266 x70_3).f3.f0),.int .i64 0,.int .i64 0,.int .i64 0,.int .i64 0]) ?_ 4 _ rfl;(with_reducible repeat (first|refine kN ?_ _|refine kD ?_|refine kA ?_ _));refine blk_put (cs:=#[.int .i64 ((rd_T38 y266 x70_3).f0),.bool ((rd_T38 y266 x70_3).f1),.int .u32 ((rd_T38 y266 x70_3).f2),.int .i64 0,.int .i64 0,.int .i64 0,.int .i64 0,.int .i64 0]) ?_ 3 _ rfl;(with_reducible repeat (first|refine kN ?_ _|refine kD ?_|refine kA ?_ _));refine blk_put (cs:=#[.int .i64 ((rd_T38 y266 x70_3).f0),.bool ((rd_T38 y266 x70_3).f1),.int .u32 0,.int .i64 0,.int .i64 0,.int .i64 0,.int .i64 0,.int .i64 0]) ?_ 2 _ rfl;(with_reducible repeat (first|refine kN ?_ _|refine kD ?_|refine kA ?_ _));refine blk_put (cs:=#[.int .i64 ((rd_T38 y266 x70_3).f0),.bool false,.int .u32 0,.int .i64 0,.int .i64 0,.int .i64 0,.int .i64 0,.int .i64 0]) ?_ 1 _ rfl;(with_reducible repeat (first|refine kN ?_ _|refine kD ?_|refine kA ?_ _));refine blk_put (cs:=#[.int .i64 0,.bool false,.int .u32 0,.int .i64 0,.int .i64 0,.int .i64 0,.int .i64 0,.int .i64 0]) ?_ 0 _ rfl;(with_reducible repeat (first|refine kN ?_ _|refine kD ?_|refine kA ?_ _));exact BK282.out) hb);have n9_:=Ak (below_step (by repeat (first|(with_reducible first|exact HB.out|apply bA|apply bN|apply bD|refine bS ?_ GE254.out|refine bS ?_ GE276.out|refine bS ?_ GE279.out|refine bS ?_ GE282.out)|exact HB.out)) hb);have n10_:=Ak (hbox);have n11_:=Ak ((by rw [hg];exact (below_size (by repeat (first|(with_reducible first|exact HB.out|apply bA|apply bN|apply bD|refine bS ?_ GE254.out|refine bS ?_ GE276.out|refine bS ?_ GE279.out|refine bS ?_ GE282.out)|exact HB.out))) : w.heap.size ≤ gb283));have n12_:=Ak ((by rw [hg];exact (below_size (by repeat (first|(with_reducible first|exact HB.out|apply bA|apply bN|apply bD|refine bS ?_ GE254.out|refine bS ?_ GE276.out|refine bS ?_ GE279.out|refine bS ?_ GE282.out)|exact HB.out))) : w.heap.size ≤ gb283));have n13_:=Ak ((by rw [hg];exact Nat.ne_of_lt (blk_lt (g:=gb254) (o:=.cells #[.slice Ao18 t256.length co18] 24 (0,0)) (by (with_reducible repeat (first|refine kN ?_ _|refine kD ?_|refine kA ?_ _));refine blk_far ?_ NB254_282.out _;(with_reducible repeat (first|refine kN ?_ _|refine kD ?_|refine kA ?_ _));refine blk_far ?_ NB254_282.out _;(with_reducible repeat (first|refine kN ?_ _|refine kD ?_|refine kA ?_ _));refine blk_far ?_ NB254_282.out _;(with_reducible repeat (first|refine kN ?_ _|refine kD ?_|refine kA ?_ _));refine blk_far ?_ NB254_282.out _;(with_reducible repeat (first|refine kN ?_ _|refine kD ?_|refine kA ?_ _));refine blk_far ?_ NB254_282.out _;(with_reducible repeat (first|refine kN ?_ _|refine kD ?_|refine kA ?_ _));refine blk_far ?_ NB254_282.out _;(with_reducible repeat (first|refine kN ?_ _|refine kD ?_|refine kA ?_ _));refine blk_far ?_ NB254_282.out _;(with_reducible repeat (first|refine kN ?_ _|refine kD ?_|refine kA ?_ _));refine blk_far ?_ NB254_282.out _;(with_reducible repeat (first|refine kN ?_ _|refine kD ?_|refine kA ?_ _));exact BK254.out)) : gb254 ≠ gb283));have n14_:=Ak ((by rw [hg];exact Nat.ne_of_gt (blk_lt (g:=gb254) (o:=.cells #[.slice Ao18 t256.length co18] 24 (0,0)) (by (with_reducible repeat (first|refine kN ?_ _|refine kD ?_|refine kA ?_ _));refine blk_far ?_ NB254_282.out _;(with_reducible repeat (first|refine kN ?_ _|refine kD ?_|refine kA ?_ _));refine blk_far ?_ NB254_282.out _;(with_reducible repeat (first|refine kN ?_ _|refine kD ?_|refine kA ?_ _));refine blk_far ?_ NB254_282.out _;(with_reducible repeat (first|refine kN ?_ _|refine kD ?_|refine kA ?_ _));refine blk_far ?_ NB254_282.out _;(with_reducible repeat (first|refine kN ?_ _|refine kD ?_|refine kA ?_ _));refine blk_far ?_ NB254_282.out _;(with_reducible repeat (first|refine kN ?_ _|refine kD ?_|refine kA ?_ _));refine blk_far ?_ NB254_282.out _;(with_reducible repeat (first|refine kN ?_ _|refine kD ?_|refine kA ?_ _));refine blk_far ?_ NB254_282.out _;(with_reducible repeat (first|refine kN ?_ _|refine kD ?_|refine kA ?_ _));refine blk_far ?_ NB254_282.out _;(with_reducible repeat (first|refine kN ?_ _|refine kD ?_|refine kA ?_ _));exact BK254.out)) : gb283 ≠ gb254));have n15_:=Ak ((by rw [hg];exact Nat.ne_of_lt (blk_lt (g:=gb276) (o:=.cells #[.slice Ao28 t269.length co28] 24 (0,0)) (by (with_reducible repeat (first|refine kN ?_ _|refine kD ?_|refine kA ?_ _));refine blk_far ?_ NB276_282.out _;(with_reducible repeat (first|refine kN ?_ _|refine kD ?_|refine kA ?_ _));refine blk_far ?_ NB276_282.out _;(with_reducible repeat (first|refine kN ?_ _|refine kD ?_|refine kA ?_ _));refine blk_far ?_ NB276_282.out _;(with_reducible repeat (first|refine kN ?_ _|refine kD ?_|refine kA ?_ _));refine blk_far ?_ NB276_282.out _;(with_reducible repeat (first|refine kN ?_ _|refine kD ?_|refine kA ?_ _));refine blk_far ?_ NB276_282.out _;(with_reducible repeat (first|refine kN ?_ _|refine kD ?_|refine kA ?_ _));refine blk_far ?_ NB276_282.out _;(with_reducible repeat (first|refine kN ?_ _|refine kD ?_|refine kA ?_ _));refine blk_far ?_ NB276_282.out _;(with_reducible repeat (first|refine kN ?_ _|refine kD ?_|refine kA ?_ _));refine blk_far ?_ NB276_282.out _;(with_reducible repeat (first|refine kN ?_ _|refine kD ?_|refine kA ?_ _));exact BK276.out)) : gb276 ≠ gb283));have n16_:=Ak ((by rw [hg];exact Nat.ne_of_gt (blk_lt (g:=gb276) (o:=.cells #[.slice Ao28 t269.length co28] 24 (0,0)) (by (with_reducible repeat (first|refine kN ?_ _|refine kD ?_|refine kA ?_ _));refine blk_far ?_ NB276_282.out _;(with_reducible repeat (first|refine kN ?_ _|refine kD ?_|refine kA ?_ _));refine blk_far ?_ NB276_282.out _;(with_reducible repeat (first|refine kN ?_ _|refine kD ?_|refine kA ?_ _));refine blk_far ?_ NB276_282.out _;(with_reducible repeat (first|refine kN ?_ _|refine kD ?_|refine kA ?_ _));refine blk_far ?_ NB276_282.out _;(with_reducible repeat (first|refine kN ?_ _|refine kD ?_|refine kA ?_ _));refine blk_far ?_ NB276_282.out _;(with_reducible repeat (first|refine kN ?_ _|refine kD ?_|refine kA ?_ _));refine blk_far ?_ NB276_282.out _;(with_reducible repeat (first|refine kN ?_ _|refine kD ?_|refine kA ?_ _));refine blk_far ?_ NB276_282.out _;(with_reducible repeat (first|refine kN ?_ _|refine kD ?_|refine kA ?_ _));refine blk_far ?_ NB276_282.out _;(with_reducible repeat (first|refine kN ?_ _|refine kD ?_|refine kA ?_ _));exact BK276.out)) : gb283 ≠ gb276));have n17_:=Ak ((by rw [hg];exact Nat.ne_of_lt (blk_lt (g:=gb279) (o:=.cells #[u280000] 24 (0,0)) (by (with_reducible repeat (first|refine kN ?_ _|refine kD ?_|refine kA ?_ _));refine blk_far ?_ NB279_282.out _;(with_reducible repeat (first|refine kN ?_ _|refine kD ?_|refine kA ?_ _));refine blk_far ?_ NB279_282.out _;(with_reducible repeat (first|refine kN ?_ _|refine kD ?_|refine kA ?_ _));refine blk_far ?_ NB279_282.out _;(with_reducible repeat (first|refine kN ?_ _|refine kD ?_|refine kA ?_ _));refine blk_far ?_ NB279_282.out _;(with_reducible repeat (first|refine kN ?_ _|refine kD ?_|refine kA ?_ _));refine blk_far ?_ NB279_282.out _;(with_reducible repeat (first|refine kN ?_ _|refine kD ?_|refine kA ?_ _));refine blk_far ?_ NB279_282.out _;(with_reducible repeat (first|refine kN ?_ _|refine kD ?_|refine kA ?_ _));refine blk_far ?_ NB279_282.out _;(with_reducible repeat (first|refine kN ?_ _|refine kD ?_|refine kA ?_ _));refine blk_far ?_ NB279_282.out _;(with_reducible repeat (first|refine kN ?_ _|refine kD ?_|refine kA ?_ _));exact BK279.out)) : gb279 ≠ gb283));have n18_:=Ak ((by rw [hg];exact Nat.ne_of_gt (blk_lt (g:=gb279) (o:=.cells #[u280000] 24 (0,0)) (by (with_reducible repeat (first|refine kN ?_ _|refine kD ?_|refine kA ?_ _));refine blk_far ?_ NB279_282.out _;(with_reducible repeat (first|refine kN ?_ _|refine kD ?_|refine kA ?_ _));refine blk_far ?_ NB279_282.out _;(with_reducible repeat (first|refine kN ?_ _|refine kD ?_|refine kA ?_ _));refine blk_far ?_ NB279_282.out _;(with_reducible repeat (first|refine kN ?_ _|refine kD ?_|refine kA ?_ _));refine blk_far ?_ NB279_282.out _;(with_reducible repeat (first|refine kN ?_ _|refine kD ?_|refine kA ?_ _));refine blk_far ?_ NB279_282.out _;(with_reducible repeat (first|refine kN ?_ _|refine kD ?_|refine kA ?_ _));refine blk_far ?_ NB279_282.out _;(with_reducible repeat (first|refine kN ?_ _|refine kD ?_|refine kA ?_ _));refine blk_far ?_ NB279_282.out _;(with_reducible repeat (first|refine kN ?_ _|refine kD ?_|refine kA ?_ _));refine blk_far ?_ NB279_282.out _;(with_reducible repeat (first|refine kN ?_ _|refine kD ?_|refine kA ?_ _));exact BK279.out)) : gb283 ≠ gb279));have n19_:=Ak ((by rw [hg];exact Nat.ne_of_lt (blk_lt (g:=gb282) (o:=.cells #[.int .i64 ((rd_T38 y266 x70_3).f0),.bool ((rd_T38 y266 x70_3).f1),.int .u32 ((rd_T38 y266 x70_3).f2),.int .i64 ((rd_T38 y266 x70_3).f3.f0),.int .i64 ((rd_T38 y266 x70_3).f3.f1),.int .i64 ((rd_T38 y266 x70_3).f3.f2),.int .i64 ((rd_T38 y266 x70_3).f3.f3),.int .i64 ((rd_T38 y266 x70_3).f4)] 38 (0,0)) (by (with_reducible repeat (first|refine kN ?_ _|refine kD ?_|refine kA ?_ _));refine blk_put (cs:=#[.int .i64 ((rd_T38 y266 x70_3).f0),.bool ((rd_T38 y266 x70_3).f1),.int .u32 ((rd_T38 y266 x70_3).f2),.int .i64 ((rd_T38 y266 x70_3).f3.f0),.int .i64 ((rd_T38 y266 x70_3).f3.f1),.int .i64 ((rd_T38 y266 x70_3).f3.f2),.int .i64 ((rd_T38 y266 x70_3).f3.f3),.int .i64 0]) ?_ 7 _ rfl;(with_reducible repeat (first|refine kN ?_ _|refine kD ?_|refine kA ?_ _));refine blk_put (cs:=#[.int .i64 ((rd_T38 y266 x70_3).f0),.bool ((rd_T38 y266 x70_3).f1),.int .u32 ((rd_T38 y266 x70_3).f2),.int .i64 ((rd_T38 y266 x70_3).f3.f0),.int .i64 ((rd_T38 y266 x70_3).f3.f1),.int .i64 ((rd_T38 y266 x70_3).f3.f2),.int .i64 0,.int .i64 0]) ?_ 6 _ rfl;(with_reducible repeat (first|refine kN ?_ _|refine kD ?_|refine kA ?_ _));refine blk_put (cs:=#[.int .i64 ((rd_T38 y266 x70_3).f0),.bool ((rd_T38 y266 x70_3).f1),.int .u32 ((rd_T38 y266 x70_3).f2),.int .i64 ((rd_T38 y266 x70_3).f3.f0),.int .i64 ((rd_T38 y266 x70_3).f3.f1),.int .i64 0,.int .i64 0,.int .i64 0]) ?_ 5 _ rfl;(with_reducible repeat (first|refine kN ?_ _|refine kD ?_|refine kA ?_ _));refine blk_put (cs:=#[.int .i64 ((rd_T38 y266 x70_3).f0),.bool ((rd_T38 y266 x70_3).f1),.int .u32 ((rd_T38 y266 x70_3).f2),.int .i64 ((rd_T38 y266 x70_3).f3.f0),.int .i64 0,.int .i64 0,.int .i64 0,.int .i64 0]) ?_ 4 _ rfl;(with_reducible repeat (first|refine kN ?_ _|refine kD ?_|refine kA ?_ _));refine blk_put (cs:=#[.int .i64 ((rd_T38 y266 x70_3).f0),.bool ((rd_T38 y266 x70_3).f1),.int .u32 ((rd_T38 y266 x70_3).f2),.int .i64 0,.int .i64 0,.int .i64 0,.int .i64 0,.int .i64 0]) ?_ 3 _ rfl;(with_reducible repeat (first|refine kN ?_ _|refine kD ?_|refine kA ?_ _));refine blk_put (cs:=#[.int .i64 ((rd_T38 y266 x70_3).f0),.bool ((rd_T38 y266 x70_3).f1),.int .u32 0,.int .i64 0,.int .i64 0,.int .i64 0,.int .i64 0,.int .i64 0]) ?_ 2 _ rfl;(with_reducible repeat (first|refine kN ?_ _|refine kD ?_|refine kA ?_ _));refine blk_put (cs:=#[.int .i64 ((rd_T38 y266 x70_3).f0),.bool false,.int .u32 0,.int .i64 0,.int .i64 0,.int .i64 0,.int .i64 0,.int .i64 0]) ?_ 1 _ rfl;(with_reducible repeat (first|refine kN ?_ _|refine kD ?_|refine kA ?_ _));refine blk_put (cs:=#[.int .i64 0,.bool false,.int .u32 0,.int .i64 0,.int .i64 0,.int .i64 0,.int .i64 0,.int .i64 0]) ?_ 0 _ rfl;(with_reducible repeat (first|refine kN ?_ _|refine kD ?_|refine kA ?_ _));exact BK282.out)) : gb282 ≠ gb283));have n20_:=Ak ((by rw [hg];exact Nat.ne_of_gt (blk_lt (g:=gb282) (o:=.cells #[.int .i64 ((rd_T38 y266 x70_3).f0),.bool ((rd_T38 y266 x70_3).f1),.int .u32 ((rd_T38 y266 x70_3).f2),.int .i64 ((rd_T38 y266 x70_3).f3.f0),.int .i64 ((rd_T38 y266 x70_3).f3.f1),.int .i64 ((rd_T38 y266 x70_3).f3.f2),.int .i64 ((rd_T38 y266 x70_3).f3.f3),.int .i64 ((rd_T38 y266 x70_3).f4)] 38 (0,0)) (by (with_reducible repeat (first|refine kN ?_ _|refine kD ?_|refine kA ?_ _));refine blk_put (cs:=#[.int .i64 ((rd_T38 y266 x70_3).f0),.bool ((rd_T38 y266 x70_3).f1),.int .u32 ((rd_T38 y266 x70_3).f2),.int .i64 ((rd_T38 y266 x70_3).f3.f0),.int .i64 ((rd_T38 y266 x70_3).f3.f1),.int .i64 ((rd_T38 y266 x70_3).f3.f2),.int .i64 ((rd_T38 y266 x70_3).f3.f3),.int .i64 0]) ?_ 7 _ rfl;(with_reducible repeat (first|refine kN ?_ _|refine kD ?_|refine kA ?_ _));refine blk_put (cs:=#[.int .i64 ((rd_T38 y266 x70_3).f0),.bool ((rd_T38 y266 x70_3).f1),.int .u32 ((rd_T38 y266 x70_3).f2),.int .i64 ((rd_T38 y266 x70_3).f3.f0),.int .i64 ((rd_T38 y266 x70_3).f3.f1),.int .i64 ((rd_T38 y266 x70_3).f3.f2),.int .i64 0,.int .i64 0]) ?_ 6 _ rfl;(with_reducible repeat (first|refine kN ?_ _|refine kD ?_|refine kA ?_ _));refine blk_put (cs:=#[.int .i64 ((rd_T38 y266 x70_3).f0),.bool ((rd_T38 y266 x70_3).f1),.int .u32 ((rd_T38 y266 x70_3).f2),.int .i64 ((rd_T38 y266 x70_3).f3.f0),.int .i64 ((rd_T38 y266 x70_3).f3.f1),.int .i64 0,.int .i64 0,.int .i64 0]) ?_ 5 _ rfl;(with_reducible repeat (first|refine kN ?_ _|refine kD ?_|refine kA ?_ _));refine blk_put (cs:=#[.int .i64 ((rd_T38 y266 x70_3).f0),.bool ((rd_T38 y266 x70_3).f1),.int .u32 ((rd_T38 y266 x70_3).f2),.int .i64 ((rd_T38 y266 x70_3).f3.f0),.int .i64 0,.int .i64 0,.int .i64 0,.int .i64 0]) ?_ 4 _ rfl;(with_reducible repeat (first|refine kN ?_ _|refine kD ?_|refine kA ?_ _));refine blk_put (cs:=#[.int .i64 ((rd_T38 y266 x70_3).f0),.bool ((rd_T38 y266 x70_3).f1),.int .u32 ((rd_T38 y266 x70_3).f2),.int .i64 0,.int .i64 0,.int .i64 0,.int .i64 0,.int .i64 0]) ?_ 3 _ rfl;(with_reducible repeat (first|refine kN ?_ _|refine kD ?_|refine kA ?_ _));refine blk_put (cs:=#[.int .i64 ((rd_T38 y266 x70_3).f0),.bool ((rd_T38 y266 x70_3).f1),.int .u32 0,.int .i64 0,.int .i64 0,.int .i64 0,.int .i64 0,.int .i64 0]) ?_ 2 _ rfl;(with_reducible repeat (first|refine kN ?_ _|refine kD ?_|refine kA ?_ _));refine blk_put (cs:=#[.int .i64 ((rd_T38 y266 x70_3).f0),.bool false,.int .u32 0,.int .i64 0,.int .i64 0,.int .i64 0,.int .i64 0,.int .i64 0]) ?_ 1 _ rfl;(with_reducible repeat (first|refine kN ?_ _|refine kD ?_|refine kA ?_ _));refine blk_put (cs:=#[.int .i64 0,.bool false,.int .u32 0,.int .i64 0,.int .i64 0,.int .i64 0,.int .i64 0,.int .i64 0]) ?_ 0 _ rfl;(with_reducible repeat (first|refine kN ?_ _|refine kD ?_|refine kA ?_ _));exact BK282.out)) : gb283 ≠ gb282));clear HO_9;clear HO_68;clear HO_255000;clear HO_277000;clear HO_280000;clear BK254;clear BK276;clear BK279;clear BK282;clear HB;have HO_9:=n0_;have HO_68:=n1_;have HO_255000:=n2_;have HO_277000:=n3_;have HO_280000:=n4_;have BK254:=n5_;have BK276:=n6_;have BK279:=n7_;have BK282:=n8_;have HB:=n9_;have BK283:=n10_;have GW283:=n11_;have GE283:=n12_;have NB254_283:=n13_;have NB283_254:=n14_;have NB276_283:=n15_;have NB283_276:=n16_;have NB279_283:=n17_;have NB283_279:=n18_;have NB282_283:=n19_;have NB283_282:=n20_;clear n0_ n1_ n2_ n3_ n4_ n5_ n6_ n7_ n8_ n9_ n10_ n11_ n12_ n13_ n14_ n15_ n16_ n17_ n18_ n19_ n20_;clear hb hbox hg;have hnb92:=NB279_254.out;have hnc92:=NB254_279.out;have hnb93:=NB279_276.out;have hnc93:=NB276_279.out;have hnb94:=NB279_283.out;have hnc94:=NB283_279.out;have hcz95_0 : w91.cell? ⟨gb279,0,none⟩ = some (u280000):=(kC BK279.out 0).trans rfl;have hfz95_0:=blk_frozen BK279.out 0;have hnb96:=NB282_283.out;have hnc96:=NB283_282.out;have hcz97_0 : w91.cell? ⟨gb282,0,none⟩ = some (.int .i64 ((rd_T38 y266 x70_3).f0)):=(kC BK282.out 0).trans rfl;have hcz97_1 : w91.cell? ⟨gb282,1,none⟩ = some (.bool ((rd_T38 y266 x70_3).f1)):=(kC BK282.out 1).trans rfl;have hcz97_2 : w91.cell? ⟨gb282,2,none⟩ = some (.int .u32 ((rd_T38 y266 x70_3).f2)):=(kC BK282.out 2).trans rfl;have hcz97_3 : w91.cell? ⟨gb282,3,none⟩ = some (.int .i64 ((rd_T38 y266 x70_3).f3.f0)):=(kC BK282.out 3).trans rfl;have hcz97_4 : w91.cell? ⟨gb282,4,none⟩ = some (.int .i64 ((rd_T38 y266 x70_3).f3.f1)):=(kC BK282.out 4).trans rfl;have hcz97_5 : w91.cell? ⟨gb282,5,none⟩ = some (.int .i64 ((rd_T38 y266 x70_3).f3.f2)):=(kC BK282.out 5).trans rfl;have hcz97_6 : w91.cell? ⟨gb282,6,none⟩ = some (.int .i64 ((rd_T38 y266 x70_3).f3.f3)):=(kC BK282.out 6).trans rfl;have hcz97_7 : w91.cell? ⟨gb282,7,none⟩ = some (.int .i64 ((rd_T38 y266 x70_3).f4)):=(kC BK282.out 7).trans rfl;have hfz97_0:=blk_frozen BK282.out 0;have hfz97_1:=blk_frozen BK282.out 1;have hfz97_2:=blk_frozen BK282.out 2;have hfz97_3:=blk_frozen BK282.out 3;have hfz97_4:=blk_frozen BK282.out 4;have hfz97_5:=blk_frozen BK282.out 5;have hfz97_6:=blk_frozen BK282.out 6;have hfz97_7:=blk_frozen BK282.out 7;obtain ⟨Ao98,co98,eo98⟩:=Kd.R_slice HO_280000.out;subst eo98)|((with_reducible refine gate_callee (f:=18) rfl ?_);refine goesL_ (some 79) rfl rfl Try.func18 (by kernel_rfl) rfl #[.agg #[.slice Ao98 x280000_3.length co98],.int .i64 a1,.agg #[.int .i64 ((rd_T38 y266 x70_3).f0),.bool ((rd_T38 y266 x70_3).f1),.int .u32 ((rd_T38 y266 x70_3).f2),.int .i64 ((rd_T38 y266 x70_3).f3.f0),.int .i64 ((rd_T38 y266 x70_3).f3.f1),.int .i64 ((rd_T38 y266 x70_3).f3.f2),.int .i64 ((rd_T38 y266 x70_3).f3.f3),.int .i64 ((rd_T38 y266 x70_3).f4)]] rfl (by (try simp only [List.map_toArray,List.map_cons,List.map_nil]);first|done|rfl|(simp only [List.length_drop,List.length_take];rfl)) ?_;(with_reducible refine (gazetteerref22_Apply.calls k3 _ _ x280000_3 a1 ((rd_T38 y266 x70_3).f0) ((rd_T38 y266 x70_3).f1) ((rd_T38 y266 x70_3).f2) ((rd_T38 y266 x70_3).f3.f0) ((rd_T38 y266 x70_3).f3.f1) ((rd_T38 y266 x70_3).f3.f2) ((rd_T38 y266 x70_3).f3.f3) ((rd_T38 y266 x70_3).f4) t284 t287 t288 t289 _ ?side1 ?side2 A58.out).mono ?_);(case side1 => repeat (first|exact (Kd.R_reads' HO_280000.out).2.2|(with_reducible refine Kd.C_alloc ?_ _)|(with_reducible refine Kd.C_drewN ?_ _)|(with_reducible refine Kd.C_drew ?_)));(case side2 => exact (Kd.R_reads' HO_280000.out).2.1);rintro e w99 ⟨v285,v290,rfl,ho0,ho1,hb⟩;refine ⟨_,rfl,?_⟩;have n0_:=Ak (Kd.S_mono (Kd.S_told (Kd.S_told (Kd.S_old (by (with_reducible repeat (first|apply Kd.S_alloc|apply Kd.S_drewN|apply Kd.S_drew));exact HO_9.out) hb) (Kd.R_base ho0)) (Kd.R_base ho1)) (fun _ h_ => h_.1));have n1_:=Ak (Kd.R_below (by (with_reducible repeat (first|apply Kd.R_alloc|apply Kd.R_drewN|apply Kd.R_drew));exact HO_68.out) hb);have n2_:=Ak (Kd.R_mono (Kd.R_told (Kd.R_told (Kd.R_old (by (with_reducible repeat (first|apply Kd.R_alloc|apply Kd.R_drewN|apply Kd.R_drew));exact HO_255000.out) hb) (Kd.R_base ho0)) (Kd.R_base ho1)) (fun _ h_ => h_.1));have n3_:=Ak (Kd.R_mono (Kd.R_told (Kd.R_told (Kd.R_old (by (with_reducible repeat (first|apply Kd.R_alloc|apply Kd.R_drewN|apply Kd.R_drew));exact HO_277000.out) hb) (Kd.R_base ho0)) (Kd.R_base ho1)) (fun _ h_ => h_.1));have n4_:=Ak (Kd.R_mono (Kd.R_told (Kd.R_told (Kd.R_old (by (with_reducible repeat (first|apply Kd.R_alloc|apply Kd.R_drewN|apply Kd.R_drew));exact HO_280000.out) hb) (Kd.R_base ho0)) (Kd.R_base ho1)) (fun _ h_ => h_.1));have n5_:=Ak (Kd.R_lower (Kd.R_new' (Kd.R_new' (Kd.R_new' ho0 (Kd.R_lt (by (with_reducible repeat (first|apply Kd.R_alloc|apply Kd.R_drewN|apply Kd.R_drew));exact HO_255000.out))) (Kd.R_lt (by (with_reducible repeat (first|apply Kd.R_alloc|apply Kd.R_drewN|apply Kd.R_drew));exact HO_277000.out))) (Kd.R_lt (by (with_reducible repeat (first|apply Kd.R_alloc|apply Kd.R_drewN|apply Kd.R_drew));exact HO_280000.out))) (below_size (by repeat (first|(with_reducible first|exact HB.out|apply bA|apply bN|apply bD|refine bS ?_ GE254.out|refine bS ?_ GE276.out|refine bS ?_ GE279.out|refine bS ?_ GE282.out|refine bS ?_ GE283.out)|exact HB.out))));have n6_:=Ak (Kd.R_lower (Kd.R_new' (Kd.R_new' (Kd.R_new' ho1 (Kd.R_lt (by (with_reducible repeat (first|apply Kd.R_alloc|apply Kd.R_drewN|apply Kd.R_drew));exact HO_255000.out))) (Kd.R_lt (by (with_reducible repeat (first|apply Kd.R_alloc|apply Kd.R_drewN|apply Kd.R_drew));exact HO_277000.out))) (Kd.R_lt (by (with_reducible repeat (first|apply Kd.R_alloc|apply Kd.R_drewN|apply Kd.R_drew));exact HO_280000.out))) (below_size (by repeat (first|(with_reducible first|exact HB.out|apply bA|apply bN|apply bD|refine bS ?_ GE254.out|refine bS ?_ GE276.out|refine bS ?_ GE279.out|refine bS ?_ GE282.out|refine bS ?_ GE283.out)|exact HB.out))));have n7_:=Ak (kB (g:=gb254) (o:=.cells #[.slice Ao18 t256.length co18] 24 (0,0)) (by (with_reducible repeat (first|refine kN ?_ _|refine kD ?_|refine kA ?_ _));exact BK254.out) hb);have n8_:=Ak (kB (g:=gb276) (o:=.cells #[.slice Ao28 t269.length co28] 24 (0,0)) (by (with_reducible repeat (first|refine kN ?_ _|refine kD ?_|refine kA ?_ _));exact BK276.out) hb);have n9_:=Ak (kB (g:=gb279) (o:=.cells #[.slice Ao98 x280000_3.length co98] 24 (0,0)) (by (with_reducible repeat (first|refine kN ?_ _|refine kD ?_|refine kA ?_ _));exact BK279.out) hb);have n10_:=Ak (kB (g:=gb282) (o:=.cells #[.int .i64 ((rd_T38 y266 x70_3).f0),.bool ((rd_T38 y266 x70_3).f1),.int .u32 ((rd_T38 y266 x70_3).f2),.int .i64 ((rd_T38 y266 x70_3).f3.f0),.int .i64 ((rd_T38 y266 x70_3).f3.f1),.int .i64 ((rd_T38 y266 x70_3).f3.f2),.int .i64 ((rd_T38 y266 x70_3).f3.f3),.int .i64 ((rd_T38 y266 x70_3).f4)] 38 (0,0)) (by (with_reducible repeat (first|refine kN ?_ _|refine kD ?_|refine kA ?_ _));exact BK282.out) hb);have n11_:=Ak (kB (g:=gb283) (o:=.cells #[.int .i64 0,.int .u64 0,.slice none 0 0] 41 (0,0)) (by (with_reducible repeat (first|refine kN ?_ _|refine kD ?_|refine kA ?_ _));exact BK283.out) hb);have n12_:=Ak (below_step (by repeat (first|(with_reducible first|exact HB.out|apply bA|apply bN|apply bD|refine bS ?_ GE254.out|refine bS ?_ GE276.out|refine bS ?_ GE279.out|refine bS ?_ GE282.out|refine bS ?_ GE283.out)|exact HB.out)) hb);clear HO_9;clear HO_68;clear HO_255000;clear HO_277000;clear HO_280000;clear BK254;clear BK276;clear BK279;clear BK282;clear BK283;clear HB;have HO_9:=n0_;have HO_68:=n1_;have HO_255000:=n2_;have HO_277000:=n3_;have HO_280000:=n4_;have HO286:=n5_;have HO291:=n6_;have BK254:=n7_;have BK276:=n8_;have BK279:=n9_;have BK282:=n10_;have BK283:=n11_;have HB:=n12_;clear n0_ n1_ n2_ n3_ n4_ n5_ n6_ n7_ n8_ n9_ n10_ n11_ n12_;(try clear hb);(try clear hb2);(try clear hk);(try clear hi);(try clear ho0);(try clear ho1);obtain ⟨Ao100,co100,eo100⟩:=Kd.R_slice HO286.out;subst eo100;have hcz101_0 : w99.cell? ⟨gb279,0,none⟩ = some (.slice Ao98 x280000_3.length co98):=(kC BK279.out 0).trans rfl;have hfz101_0:=blk_frozen BK279.out 0;have hnb102:=NB283_254.out;have hnc102:=NB254_283.out;have hnb103:=NB283_276.out;have hnc103:=NB276_283.out;have hcz104_0 : w99.cell? ⟨gb283,0,none⟩ = some (.int .i64 0):=(kC BK283.out 0).trans rfl;have hcz104_1 : w99.cell? ⟨gb283,1,none⟩ = some (.int .u64 0):=(kC BK283.out 1).trans rfl;have hcz104_2 : w99.cell? ⟨gb283,2,none⟩ = some (.slice none 0 0):=(kC BK283.out 2).trans rfl;have hfz104_0:=blk_frozen BK283.out 0;have hfz104_1:=blk_frozen BK283.out 1;have hfz104_2:=blk_frozen BK283.out 2;obtain ⟨Ao105,co105,eo105⟩:=Kd.R_slice HO291.out;subst eo105))
                  have n0_ : Aside0 (Kd.S k41 41 ((((w99.setCell ⟨gb279,0,none⟩ (.slice Ao100 t284.length co100)).setCell ⟨gb283,0,none⟩ (.int .i64 t287)).setCell ⟨gb283,1,none⟩ (.int .u64 t288)).setCell ⟨gb283,2,none⟩ (.slice Ao105 t289.length co105)) w.heap.size (fun k_ => some k_ ≠ (.slice Ao18 t256.length co18 : Value).ownBlock∧some k_ ≠ (.slice Ao28 t269.length co28 : Value).ownBlock∧some k_ ≠ (.slice Ao98 x280000_3.length co98 : Value).ownBlock∧some k_ ≠ (.slice Ao100 t284.length co100 : Value).ownBlock∧some k_ ≠ (.slice Ao105 t289.length co105 : Value).ownBlock∧k_ ≠ gb283) v273 t272):=⟨by (with_reducible repeat (first|apply Kd.S_alloc|apply Kd.S_drewN|apply Kd.S_drew));exact Kd.S_mono (Kd.S_far (p:=⟨gb283,2,none⟩) (Kd.S_far (p:=⟨gb283,1,none⟩) (Kd.S_far (p:=⟨gb283,0,none⟩) (Kd.S_far (p:=⟨gb279,0,none⟩) (Kd.S_mono (Kd.S_types HO_9.out BK279.out (by decide)) (fun k_ hk => (⟨hk,hk.1.1.1.2⟩ : _∧k_ ≠ gb283))) (fun _ hk => hk.1.2) (.slice Ao100 t284.length co100)) (fun _ hk => hk.2) (.int .i64 t287)) (fun _ hk => hk.2) (.int .u64 t288)) (fun _ hk => hk.2) (.slice Ao105 t289.length co105)) (fun _ hk => ⟨hk.1.1.1.1.1.1,⟨hk.1.1.1.1.1.2.1,⟨hk.1.1.1.1.1.2.2,⟨hk.1.1.1.2,⟨hk.1.1.2,hk.1.1.1.1.2⟩⟩⟩⟩⟩)⟩
                  have n1_ : Aside0 (Kd.R k38 38 ((((w99.setCell ⟨gb279,0,none⟩ (.slice Ao100 t284.length co100)).setCell ⟨gb283,0,none⟩ (.int .i64 t287)).setCell ⟨gb283,1,none⟩ (.int .u64 t288)).setCell ⟨gb283,2,none⟩ (.slice Ao105 t289.length co105)) w.heap.size (fun k_ => k_ ≠ gb282) (.slice (some ad281) y266.length co25) y266):=⟨by (with_reducible repeat (first|apply Kd.R_alloc|apply Kd.R_drewN|apply Kd.R_drew));exact Kd.R_mono (Kd.R_far (p:=⟨gb283,2,none⟩) (Kd.R_far (p:=⟨gb283,1,none⟩) (Kd.R_far (p:=⟨gb283,0,none⟩) (Kd.R_far (p:=⟨gb279,0,none⟩) (Kd.R_types (Kd.R_types HO_68.out BK279.out (by decide)) BK283.out (by decide)) (fun _ hk => hk.1.2) (.slice Ao100 t284.length co100)) (fun _ hk => hk.2) (.int .i64 t287)) (fun _ hk => hk.2) (.int .u64 t288)) (fun _ hk => hk.2) (.slice Ao105 t289.length co105)) (fun _ hk => hk.1.1.2)⟩
                  have n2_ : Aside0 (Kd.R k51 51 ((((w99.setCell ⟨gb279,0,none⟩ (.slice Ao100 t284.length co100)).setCell ⟨gb283,0,none⟩ (.int .i64 t287)).setCell ⟨gb283,1,none⟩ (.int .u64 t288)).setCell ⟨gb283,2,none⟩ (.slice Ao105 t289.length co105)) w.heap.size (fun k_ => some k_ ≠ (.slice Ao28 t269.length co28 : Value).ownBlock∧some k_ ≠ (.slice Ao100 t284.length co100 : Value).ownBlock∧some k_ ≠ (.slice Ao105 t289.length co105 : Value).ownBlock) (.slice Ao18 t256.length co18) t256):=⟨by (with_reducible repeat (first|apply Kd.R_alloc|apply Kd.R_drewN|apply Kd.R_drew));exact Kd.R_mono (Kd.R_far (p:=⟨gb283,2,none⟩) (Kd.R_far (p:=⟨gb283,1,none⟩) (Kd.R_far (p:=⟨gb283,0,none⟩) (Kd.R_far (p:=⟨gb279,0,none⟩) (Kd.R_types (Kd.R_types HO_255000.out BK279.out (by decide)) BK283.out (by decide)) (fun _ hk => hk.1.2) (.slice Ao100 t284.length co100)) (fun _ hk => hk.2) (.int .i64 t287)) (fun _ hk => hk.2) (.int .u64 t288)) (fun _ hk => hk.2) (.slice Ao105 t289.length co105)) (fun _ hk => ⟨hk.1.1.1.1,⟨hk.1.1.1.2,hk.1.1.2⟩⟩)⟩
                  have n3_ : Aside0 (Kd.R k51 51 ((((w99.setCell ⟨gb279,0,none⟩ (.slice Ao100 t284.length co100)).setCell ⟨gb283,0,none⟩ (.int .i64 t287)).setCell ⟨gb283,1,none⟩ (.int .u64 t288)).setCell ⟨gb283,2,none⟩ (.slice Ao105 t289.length co105)) w.heap.size (fun k_ => some k_ ≠ (.slice Ao18 t256.length co18 : Value).ownBlock∧some k_ ≠ (.slice Ao98 x280000_3.length co98 : Value).ownBlock∧some k_ ≠ (.slice Ao100 t284.length co100 : Value).ownBlock∧some k_ ≠ (.slice Ao105 t289.length co105 : Value).ownBlock) (.slice Ao28 t269.length co28) t269):=⟨by (with_reducible repeat (first|apply Kd.R_alloc|apply Kd.R_drewN|apply Kd.R_drew));exact Kd.R_mono (Kd.R_far (p:=⟨gb283,2,none⟩) (Kd.R_far (p:=⟨gb283,1,none⟩) (Kd.R_far (p:=⟨gb283,0,none⟩) (Kd.R_far (p:=⟨gb279,0,none⟩) (Kd.R_types (Kd.R_types HO_277000.out BK279.out (by decide)) BK283.out (by decide)) (fun _ hk => hk.1.2) (.slice Ao100 t284.length co100)) (fun _ hk => hk.2) (.int .i64 t287)) (fun _ hk => hk.2) (.int .u64 t288)) (fun _ hk => hk.2) (.slice Ao105 t289.length co105)) (fun _ hk => ⟨hk.1.1.1.1.1,⟨hk.1.1.1.1.2,⟨hk.1.1.1.2,hk.1.1.2⟩⟩⟩)⟩
                  have n4_ : Aside0 (Kd.R k51 51 ((((w99.setCell ⟨gb279,0,none⟩ (.slice Ao100 t284.length co100)).setCell ⟨gb283,0,none⟩ (.int .i64 t287)).setCell ⟨gb283,1,none⟩ (.int .u64 t288)).setCell ⟨gb283,2,none⟩ (.slice Ao105 t289.length co105)) w.heap.size (fun k_ => some k_ ≠ (.slice Ao28 t269.length co28 : Value).ownBlock∧some k_ ≠ (.slice Ao100 t284.length co100 : Value).ownBlock∧some k_ ≠ (.slice Ao105 t289.length co105 : Value).ownBlock) (.slice Ao98 x280000_3.length co98) x280000_3):=⟨by (with_reducible repeat (first|apply Kd.R_alloc|apply Kd.R_drewN|apply Kd.R_drew));exact Kd.R_mono (Kd.R_far (p:=⟨gb283,2,none⟩) (Kd.R_far (p:=⟨gb283,1,none⟩) (Kd.R_far (p:=⟨gb283,0,none⟩) (Kd.R_far (p:=⟨gb279,0,none⟩) (Kd.R_types (Kd.R_types HO_280000.out BK279.out (by decide)) BK283.out (by decide)) (fun _ hk => hk.1.2) (.slice Ao100 t284.length co100)) (fun _ hk => hk.2) (.int .i64 t287)) (fun _ hk => hk.2) (.int .u64 t288)) (fun _ hk => hk.2) (.slice Ao105 t289.length co105)) (fun _ hk => ⟨hk.1.1.1.1,⟨hk.1.1.1.2,hk.1.1.2⟩⟩)⟩
                  have n5_ : Aside0 (Kd.R k51 51 ((((w99.setCell ⟨gb279,0,none⟩ (.slice Ao100 t284.length co100)).setCell ⟨gb283,0,none⟩ (.int .i64 t287)).setCell ⟨gb283,1,none⟩ (.int .u64 t288)).setCell ⟨gb283,2,none⟩ (.slice Ao105 t289.length co105)) w.heap.size (fun k_ => some k_ ≠ (.slice Ao18 t256.length co18 : Value).ownBlock∧some k_ ≠ (.slice Ao28 t269.length co28 : Value).ownBlock∧some k_ ≠ (.slice Ao98 x280000_3.length co98 : Value).ownBlock∧some k_ ≠ (.slice Ao105 t289.length co105 : Value).ownBlock) (.slice Ao100 t284.length co100) t284):=⟨by (with_reducible repeat (first|apply Kd.R_alloc|apply Kd.R_drewN|apply Kd.R_drew));exact Kd.R_mono (Kd.R_far (p:=⟨gb283,2,none⟩) (Kd.R_far (p:=⟨gb283,1,none⟩) (Kd.R_far (p:=⟨gb283,0,none⟩) (Kd.R_far (p:=⟨gb279,0,none⟩) (Kd.R_types (Kd.R_types HO286.out BK279.out (by decide)) BK283.out (by decide)) (fun _ hk => hk.1.2) (.slice Ao100 t284.length co100)) (fun _ hk => hk.2) (.int .i64 t287)) (fun _ hk => hk.2) (.int .u64 t288)) (fun _ hk => hk.2) (.slice Ao105 t289.length co105)) (fun _ hk => ⟨hk.1.1.1.1.2,⟨hk.1.1.1.2,⟨hk.1.1.2,hk.1.1.1.1.1⟩⟩⟩)⟩
                  have n6_ : Aside0 (Kd.R k51 51 ((((w99.setCell ⟨gb279,0,none⟩ (.slice Ao100 t284.length co100)).setCell ⟨gb283,0,none⟩ (.int .i64 t287)).setCell ⟨gb283,1,none⟩ (.int .u64 t288)).setCell ⟨gb283,2,none⟩ (.slice Ao105 t289.length co105)) w.heap.size (fun k_ => some k_ ≠ (.slice Ao18 t256.length co18 : Value).ownBlock∧some k_ ≠ (.slice Ao28 t269.length co28 : Value).ownBlock∧some k_ ≠ (.slice Ao98 x280000_3.length co98 : Value).ownBlock∧some k_ ≠ (.slice Ao100 t284.length co100 : Value).ownBlock) (.slice Ao105 t289.length co105) t289):=⟨by (with_reducible repeat (first|apply Kd.R_alloc|apply Kd.R_drewN|apply Kd.R_drew));exact Kd.R_mono (Kd.R_far (p:=⟨gb283,2,none⟩) (Kd.R_far (p:=⟨gb283,1,none⟩) (Kd.R_far (p:=⟨gb283,0,none⟩) (Kd.R_far (p:=⟨gb279,0,none⟩) (Kd.R_types (Kd.R_types HO291.out BK279.out (by decide)) BK283.out (by decide)) (fun _ hk => hk.1.2) (.slice Ao100 t284.length co100)) (fun _ hk => hk.2) (.int .i64 t287)) (fun _ hk => hk.2) (.int .u64 t288)) (fun _ hk => hk.2) (.slice Ao105 t289.length co105)) (fun _ hk => ⟨hk.1.1.1.1.2,⟨hk.1.1.1.2,⟨hk.1.1.2,hk.1.1.1.1.1⟩⟩⟩)⟩
                  have n7_ : Aside0 (((((w99.setCell ⟨gb279,0,none⟩ (.slice Ao100 t284.length co100)).setCell ⟨gb283,0,none⟩ (.int .i64 t287)).setCell ⟨gb283,1,none⟩ (.int .u64 t288)).setCell ⟨gb283,2,none⟩ (.slice Ao105 t289.length co105)).heap[gb254]? = some (.cells #[.slice Ao18 t256.length co18] 24 (0,0))):=⟨by (with_reducible repeat (first|refine kN ?_ _|refine kD ?_|refine kA ?_ _));refine blk_far ?_ NB254_283.out _;(with_reducible repeat (first|refine kN ?_ _|refine kD ?_|refine kA ?_ _));refine blk_far ?_ NB254_283.out _;(with_reducible repeat (first|refine kN ?_ _|refine kD ?_|refine kA ?_ _));refine blk_far ?_ NB254_283.out _;(with_reducible repeat (first|refine kN ?_ _|refine kD ?_|refine kA ?_ _));refine blk_far ?_ NB254_279.out _;(with_reducible repeat (first|refine kN ?_ _|refine kD ?_|refine kA ?_ _));exact BK254.out⟩
                  have n8_ : Aside0 (((((w99.setCell ⟨gb279,0,none⟩ (.slice Ao100 t284.length co100)).setCell ⟨gb283,0,none⟩ (.int .i64 t287)).setCell ⟨gb283,1,none⟩ (.int .u64 t288)).setCell ⟨gb283,2,none⟩ (.slice Ao105 t289.length co105)).heap[gb276]? = some (.cells #[.slice Ao28 t269.length co28] 24 (0,0))):=⟨by (with_reducible repeat (first|refine kN ?_ _|refine kD ?_|refine kA ?_ _));refine blk_far ?_ NB276_283.out _;(with_reducible repeat (first|refine kN ?_ _|refine kD ?_|refine kA ?_ _));refine blk_far ?_ NB276_283.out _;(with_reducible repeat (first|refine kN ?_ _|refine kD ?_|refine kA ?_ _));refine blk_far ?_ NB276_283.out _;(with_reducible repeat (first|refine kN ?_ _|refine kD ?_|refine kA ?_ _));refine blk_far ?_ NB276_279.out _;(with_reducible repeat (first|refine kN ?_ _|refine kD ?_|refine kA ?_ _));exact BK276.out⟩
                  have n9_ : Aside0 (((((w99.setCell ⟨gb279,0,none⟩ (.slice Ao100 t284.length co100)).setCell ⟨gb283,0,none⟩ (.int .i64 t287)).setCell ⟨gb283,1,none⟩ (.int .u64 t288)).setCell ⟨gb283,2,none⟩ (.slice Ao105 t289.length co105)).heap[gb279]? = some (.cells #[.slice Ao100 t284.length co100] 24 (0,0))):=⟨by (with_reducible repeat (first|refine kN ?_ _|refine kD ?_|refine kA ?_ _));refine blk_far ?_ NB279_283.out _;(with_reducible repeat (first|refine kN ?_ _|refine kD ?_|refine kA ?_ _));refine blk_far ?_ NB279_283.out _;(with_reducible repeat (first|refine kN ?_ _|refine kD ?_|refine kA ?_ _));refine blk_far ?_ NB279_283.out _;(with_reducible repeat (first|refine kN ?_ _|refine kD ?_|refine kA ?_ _));refine blk_put (cs:=#[.slice Ao98 x280000_3.length co98]) ?_ 0 _ rfl;(with_reducible repeat (first|refine kN ?_ _|refine kD ?_|refine kA ?_ _));exact BK279.out⟩
                  have n10_ : Aside0 (((((w99.setCell ⟨gb279,0,none⟩ (.slice Ao100 t284.length co100)).setCell ⟨gb283,0,none⟩ (.int .i64 t287)).setCell ⟨gb283,1,none⟩ (.int .u64 t288)).setCell ⟨gb283,2,none⟩ (.slice Ao105 t289.length co105)).heap[gb282]? = some (.cells #[.int .i64 ((rd_T38 y266 x70_3).f0),.bool ((rd_T38 y266 x70_3).f1),.int .u32 ((rd_T38 y266 x70_3).f2),.int .i64 ((rd_T38 y266 x70_3).f3.f0),.int .i64 ((rd_T38 y266 x70_3).f3.f1),.int .i64 ((rd_T38 y266 x70_3).f3.f2),.int .i64 ((rd_T38 y266 x70_3).f3.f3),.int .i64 ((rd_T38 y266 x70_3).f4)] 38 (0,0))):=⟨by (with_reducible repeat (first|refine kN ?_ _|refine kD ?_|refine kA ?_ _));refine blk_far ?_ NB282_283.out _;(with_reducible repeat (first|refine kN ?_ _|refine kD ?_|refine kA ?_ _));refine blk_far ?_ NB282_283.out _;(with_reducible repeat (first|refine kN ?_ _|refine kD ?_|refine kA ?_ _));refine blk_far ?_ NB282_283.out _;(with_reducible repeat (first|refine kN ?_ _|refine kD ?_|refine kA ?_ _));refine blk_far ?_ NB282_279.out _;(with_reducible repeat (first|refine kN ?_ _|refine kD ?_|refine kA ?_ _));exact BK282.out⟩
                  have n11_ : Aside0 (((((w99.setCell ⟨gb279,0,none⟩ (.slice Ao100 t284.length co100)).setCell ⟨gb283,0,none⟩ (.int .i64 t287)).setCell ⟨gb283,1,none⟩ (.int .u64 t288)).setCell ⟨gb283,2,none⟩ (.slice Ao105 t289.length co105)).heap[gb283]? = some (.cells #[.int .i64 t287,.int .u64 t288,.slice Ao105 t289.length co105] 41 (0,0))):=⟨by (with_reducible repeat (first|refine kN ?_ _|refine kD ?_|refine kA ?_ _));refine blk_put (cs:=#[.int .i64 t287,.int .u64 t288,.slice none 0 0]) ?_ 2 _ rfl;(with_reducible repeat (first|refine kN ?_ _|refine kD ?_|refine kA ?_ _));refine blk_put (cs:=#[.int .i64 t287,.int .u64 0,.slice none 0 0]) ?_ 1 _ rfl;(with_reducible repeat (first|refine kN ?_ _|refine kD ?_|refine kA ?_ _));refine blk_put (cs:=#[.int .i64 0,.int .u64 0,.slice none 0 0]) ?_ 0 _ rfl;(with_reducible repeat (first|refine kN ?_ _|refine kD ?_|refine kA ?_ _));refine blk_far ?_ NB283_279.out _;(with_reducible repeat (first|refine kN ?_ _|refine kD ?_|refine kA ?_ _));exact BK283.out⟩
                  have n12_ : Aside0 (Below w.heap.size w ((((w99.setCell ⟨gb279,0,none⟩ (.slice Ao100 t284.length co100)).setCell ⟨gb283,0,none⟩ (.int .i64 t287)).setCell ⟨gb283,1,none⟩ (.int .u64 t288)).setCell ⟨gb283,2,none⟩ (.slice Ao105 t289.length co105))):=⟨by repeat (first|(with_reducible first|exact HB.out|apply bA|apply bN|apply bD|refine bS ?_ GE254.out|refine bS ?_ GE276.out|refine bS ?_ GE279.out|refine bS ?_ GE282.out|refine bS ?_ GE283.out)|exact HB.out)⟩
                  (try clear HO_9)
                  (try clear HO_68)
                  (try clear HO_255000)
                  (try clear HO_277000)
                  (try clear HO_280000)
                  (try clear HO286)
                  (try clear HO291)
                  (try clear BK254)
                  (try clear BK276)
                  (try clear BK279)
                  (try clear BK282)
                  (try clear BK283)
                  (try clear HB)
                  generalize ((((w99.setCell ⟨gb279,0,none⟩ (.slice Ao100 t284.length co100)).setCell ⟨gb283,0,none⟩ (.int .i64 t287)).setCell ⟨gb283,1,none⟩ (.int .u64 t288)).setCell ⟨gb283,2,none⟩ (.slice Ao105 t289.length co105)) = w106 at n0_ n1_ n2_ n3_ n4_ n5_ n6_ n7_ n8_ n9_ n10_ n11_ n12_ ⊢
                  have HO_9:=n0_
                  have HO_68:=n1_
                  have HO_255000:=n2_
                  have HO_277000:=n3_
                  have HO_280000:=n4_
                  have HO286:=n5_
                  have HO291:=n6_
                  have BK254:=n7_
                  have BK276:=n8_
                  have BK279:=n9_
                  have BK282:=n10_
                  have BK283:=n11_
                  have HB:=n12_
                  clear n0_ n1_ n2_ n3_ n4_ n5_ n6_ n7_ n8_ n9_ n10_ n11_ n12_
                  have n0_:=Ak (Kd.S_drew HO_9.out)
                  have n1_:=Ak (Kd.R_drew HO_68.out)
                  have n2_:=Ak (Kd.R_drew HO_255000.out)
                  have n3_:=Ak (Kd.R_drew HO_277000.out)
                  have n4_:=Ak (Kd.R_drew HO_280000.out)
                  have n5_:=Ak (Kd.R_drew HO286.out)
                  have n6_:=Ak (Kd.R_drew HO291.out)
                  have n7_:=Ak (kD BK254.out)
                  have n8_:=Ak (kD BK276.out)
                  have n9_:=Ak (kD BK279.out)
                  have n10_:=Ak (kD BK282.out)
                  have n11_:=Ak (kD BK283.out)
                  have n12_:=Ak (bD HB.out)
                  clear HO_9
                  clear HO_68
                  clear HO_255000
                  clear HO_277000
                  clear HO_280000
                  clear HO286
                  clear HO291
                  clear BK254
                  clear BK276
                  clear BK279
                  clear BK282
                  clear BK283
                  clear HB
                  have HO_9:=n0_
                  have HO_68:=n1_
                  have HO_255000:=n2_
                  have HO_277000:=n3_
                  have HO_280000:=n4_
                  have HO286:=n5_
                  have HO291:=n6_
                  have BK254:=n7_
                  have BK276:=n8_
                  have BK279:=n9_
                  have BK282:=n10_
                  have BK283:=n11_
                  have HB:=n12_
                  clear n0_ n1_ n2_ n3_ n4_ n5_ n6_ n7_ n8_ n9_ n10_ n11_ n12_
                  obtain ⟨Ao108,co108,eo108⟩:=Kd.S_slice HO_9.out
                  (first|subst eo108|(injection eo108 with f1_ f2_ f3_;have f4_:=f1_.symm;have f5_:=f3_.symm;clear f1_ f2_ f3_;subst f4_;subst f5_))
                  have p292 : 0 ≤ (x70_3 : Int):=of_decide_eq_true (by first|(with_reducible assumption)|assumption)
                  have q292 : x70_3 < (t272.length : Int):=of_decide_eq_true (by first|(with_reducible assumption)|assumption)
                  obtain ⟨ad292,A292_2,c292_2,e292,hx292_0,hx292_1,hx292_2,hl292_2,hi292_2⟩:=at_T41 (Kd.S_reads' HO_9.out).2.2 x70_3 p292 q292
                  cases e292
                  obtain ⟨ce292,hce292,hMe292,hcc292⟩:=Kd.S_get HO_9.out z41 x70_3 p292 (by first|exact q292|exact of_decide_eq_true (by first|(with_reducible assumption)|assumption)|(have e_:=(Kd.S_reads' HO_9.out).1;omega))
                  obtain ⟨ve292_2,rfl,ge292_2⟩:=k41_openM hMe292
                  have hv292_2:=hcc292 2 _ rfl
                  rw [add_field _ _ 2 (by omega)] at hv292_2
                  replace hv292_2:=Option.some.inj (hv292_2.symm.trans hx292_2)
                  rw [hv292_2] at ge292_2
                  have HL292_2:=Ak (show Kd.R k51 51 _ _ _ _ ((rd_T41 t272 x70_3).f2) from ge292_2)
                  clear hv292_2 ge292_2
                  clear hcc292 hce292
                  have HR292_2:=Ak hi292_2
                  have HC292_2:=Ak hl292_2
                  clear hi292_2 hl292_2
                  replace p292:=eq_true p292
                  replace q292:=eq_true q292
                  refine start_ (n:=7) (S:=fun w' => w'.cell? ⟨gb283,0,none⟩ = some (.int .i64 t287)∧w'.cell? ⟨gb283,1,none⟩ = some (.int .u64 t288)∧w'.cell? ⟨gb283,2,none⟩ = some (.slice Ao105 t289.length co105)∧w'.cell? (ad292.add ((x70_3).toNat*3)) = some (.int .i64 ((rd_T41 t272 x70_3).f0))∧w'.cell? ⟨(ad292.add ((x70_3).toNat*3)).block,(ad292.add ((x70_3).toNat*3)).off+1,none⟩ = some (.int .u64 ((rd_T41 t272 x70_3).f1))∧w'.cell? ⟨(ad292.add ((x70_3).toNat*3)).block,(ad292.add ((x70_3).toNat*3)).off+2,none⟩ = some (.slice A292_2 ((rd_T41 t272 x70_3).f2).length c292_2)) (ds:=[]) #[ff,ff,ff,ff,ff,ff,ff] (by kernel_rfl) rfl rfl ⟨(kC BK283.out 0).trans rfl,(kC BK283.out 1).trans rfl,(kC BK283.out 2).trans rfl,hx292_0,hx292_1,hx292_2⟩ (fun hHeld => ?_)
                  generalize w106.drew = w107 at HO_9 HO_68 HO_255000 HO_277000 HO_280000 HO286 HO291 BK254 BK276 BK279 BK282 BK283 HB HL292_2 HR292_2 hx292_0 hx292_1 hx292_2 hHeld ⊢
                  refine pure_ (i:=0) (N:=some 82) (v:=?_) (a':=?_) #[tt,ff,ff,ff,ff,ff,ff] rfl rfl (by kernel_rfl) (fun _ _ _ h => h) (Or.inl ⟨by rfl,?_⟩) ?_ ?_
                  rotate_left
                  ·intro w'
                   go_simp
                   with_reducible rfl
                  rotate_left
                  ·simp only [Act.put,sA,sZ,sS,i64_w,i32_w]
                   rfl
                  refine pure_ (i:=1) (N:=some 83) (v:=?_) (a':=?_) #[tt,tt,ff,ff,ff,ff,ff] rfl rfl (by kernel_rfl) (fun _ _ _ h => h) (Or.inl ⟨by rfl,?_⟩) ?_ ?_
                  rotate_left
                  ·intro w'
                   go_simp
                   with_reducible rfl
                  rotate_left
                  ·simp only [Act.put,sA,sZ,sS,i64_w,i32_w]
                   rfl
                  refine pure_ (i:=2) (N:=some 84) (v:=?_) (a':=?_) #[tt,tt,tt,ff,ff,ff,ff] rfl rfl (by kernel_rfl) (fun _ _ _ h => h) (Or.inl ⟨by rfl,?_⟩) ?_ ?_
                  rotate_left
                  ·intro w'
                   go_simp
                   with_reducible rfl
                  rotate_left
                  ·simp only [Act.put,sA,sZ,sS,i64_w,i32_w]
                   rfl
                  refine take_ (i:=3) (N:=some 85) (v:=?_) (a':=?_) #[tt,tt,tt,tt,ff,ff,ff] rfl rfl (by kernel_rfl) (fun _ _ _ h => h) (Or.inl ⟨by rfl,?_⟩) hHeld ?_ ?_
                  rotate_left
                  ·rintro w' ⟨s0,s1,s2,s3,s4,s5⟩
                   go_simp
                   with_reducible rfl
                  rotate_left
                  ·simp only [Act.put,sA,sZ,sS,i64_w,i32_w]
                   rfl
                  refine take_ (i:=4) (N:=some 86) (v:=?_) (a':=?_) #[tt,tt,tt,tt,tt,ff,ff] rfl rfl (by kernel_rfl) (fun _ _ _ h => h) (Or.inl ⟨by rfl,?_⟩) hHeld ?_ ?_
                  rotate_left
                  ·rintro w' ⟨s0,s1,s2,s3,s4,s5⟩
                   go_simp
                   with_reducible rfl
                  rotate_left
                  ·simp only [Act.put,sA,sZ,sS,i64_w,i32_w]
                   rfl
                  refine one_ (i:=5) (N:=some 87) #[tt,tt,tt,tt,tt,tt,ff] rfl rfl (by kernel_rfl) (by decide) (fun K hK => ?_)
                  refine goes_ Try.func19 (by kernel_rfl) rfl #[.agg #[.int .i64 ((rd_T41 t272 x70_3).f0),.int .u64 ((rd_T41 t272 x70_3).f1),.slice A292_2 ((rd_T41 t272 x70_3).f2).length c292_2],.agg #[.int .i64 t287,.int .u64 t288,.slice Ao105 t289.length co105]] (by rfl) rfl rfl (by (try simp only [List.map_toArray,List.map_cons,List.map_nil]);first|done|rfl|(simp only [List.length_drop,List.length_take];rfl)) ?_
                  with_reducible refine (gazetteerref22_Alike.calls k3 ((rd_T41 t272 x70_3).f0) ((rd_T41 t272 x70_3).f1) _ _ ((rd_T41 t272 x70_3).f2) t287 t288 _ _ t289 false _ ?side1 ?side2 ?side3 ?side4 A60.out).mono ?_
                  (case side1 => repeat (first|exact (by repeat (first|(with_reducible exact HR292_2.out)|(with_reducible refine Kd.C_alloc ?_ _)|(with_reducible refine Kd.C_drewN ?_ _)|(with_reducible refine Kd.C_drew ?_)|exact HR292_2.out))|(with_reducible refine Kd.C_alloc ?_ _)|(with_reducible refine Kd.C_drewN ?_ _)|(with_reducible refine Kd.C_drew ?_)))
                  (case side2 => exact HC292_2.out)
                  (case side3 => repeat (first|exact (Kd.R_reads' HO291.out).2.2|(with_reducible refine Kd.C_alloc ?_ _)|(with_reducible refine Kd.C_drewN ?_ _)|(with_reducible refine Kd.C_drew ?_)))
                  (case side4 => exact (Kd.R_reads' HO291.out).2.1)
                  rintro e w109 ⟨rfl,hb⟩
                  have HS3_:=(hb.cell (World.block_lt_of_cell? _ _ (hHeld.2.2.2.1))).trans (hHeld.2.2.2.1)
                  have HS4_:=(hb.cell (World.block_lt_of_cell? _ _ (hHeld.2.2.2.2.1))).trans (hHeld.2.2.2.2.1)
                  have HS5_:=(hb.cell (World.block_lt_of_cell? _ _ (hHeld.2.2.2.2.2))).trans (hHeld.2.2.2.2.2)
                  refine ⟨_,rfl,?_⟩
                  have n0_:=Ak (Kd.S_below (by (with_reducible repeat (first|apply Kd.S_alloc|apply Kd.S_drewN|apply Kd.S_drew));exact HO_9.out) hb)
                  have n1_:=Ak (Kd.R_below (by (with_reducible repeat (first|apply Kd.R_alloc|apply Kd.R_drewN|apply Kd.R_drew));exact HO_68.out) hb)
                  have n2_:=Ak (Kd.R_below (by (with_reducible repeat (first|apply Kd.R_alloc|apply Kd.R_drewN|apply Kd.R_drew));exact HO_255000.out) hb)
                  have n3_:=Ak (Kd.R_below (by (with_reducible repeat (first|apply Kd.R_alloc|apply Kd.R_drewN|apply Kd.R_drew));exact HO_277000.out) hb)
                  have n4_:=Ak (Kd.R_below (by (with_reducible repeat (first|apply Kd.R_alloc|apply Kd.R_drewN|apply Kd.R_drew));exact HO_280000.out) hb)
                  have n5_:=Ak (Kd.R_below (by (with_reducible repeat (first|apply Kd.R_alloc|apply Kd.R_drewN|apply Kd.R_drew));exact HO286.out) hb)
                  have n6_:=Ak (Kd.R_below (by (with_reducible repeat (first|apply Kd.R_alloc|apply Kd.R_drewN|apply Kd.R_drew));exact HO291.out) hb)
                  have n7_:=Ak (Kd.R_below (by (with_reducible repeat (first|apply Kd.R_alloc|apply Kd.R_drewN|apply Kd.R_drew));exact HL292_2.out) hb)
                  have n8_:=Ak (kB (g:=gb254) (o:=.cells #[.slice Ao18 t256.length co18] 24 (0,0)) (by (with_reducible repeat (first|refine kN ?_ _|refine kD ?_|refine kA ?_ _));exact BK254.out) hb)
                  have n9_:=Ak (kB (g:=gb276) (o:=.cells #[.slice Ao28 t269.length co28] 24 (0,0)) (by (with_reducible repeat (first|refine kN ?_ _|refine kD ?_|refine kA ?_ _));exact BK276.out) hb)
                  have n10_:=Ak (kB (g:=gb279) (o:=.cells #[.slice Ao100 t284.length co100] 24 (0,0)) (by (with_reducible repeat (first|refine kN ?_ _|refine kD ?_|refine kA ?_ _));exact BK279.out) hb)
                  have n11_:=Ak (kB (g:=gb282) (o:=.cells #[.int .i64 ((rd_T38 y266 x70_3).f0),.bool ((rd_T38 y266 x70_3).f1),.int .u32 ((rd_T38 y266 x70_3).f2),.int .i64 ((rd_T38 y266 x70_3).f3.f0),.int .i64 ((rd_T38 y266 x70_3).f3.f1),.int .i64 ((rd_T38 y266 x70_3).f3.f2),.int .i64 ((rd_T38 y266 x70_3).f3.f3),.int .i64 ((rd_T38 y266 x70_3).f4)] 38 (0,0)) (by (with_reducible repeat (first|refine kN ?_ _|refine kD ?_|refine kA ?_ _));exact BK282.out) hb)
                  have n12_:=Ak (kB (g:=gb283) (o:=.cells #[.int .i64 t287,.int .u64 t288,.slice Ao105 t289.length co105] 41 (0,0)) (by (with_reducible repeat (first|refine kN ?_ _|refine kD ?_|refine kA ?_ _));exact BK283.out) hb)
                  have n13_:=Ak (Kd.C_below (by repeat (first|(with_reducible exact HR292_2.out)|(with_reducible refine Kd.C_alloc ?_ _)|(with_reducible refine Kd.C_drewN ?_ _)|(with_reducible refine Kd.C_drew ?_)|exact HR292_2.out)) hb)
                  have n14_:=Ak (below_step (by repeat (first|(with_reducible first|exact HB.out|apply bA|apply bN|apply bD|refine bS ?_ GE254.out|refine bS ?_ GE276.out|refine bS ?_ GE279.out|refine bS ?_ GE282.out|refine bS ?_ GE283.out)|exact HB.out)) hb)
                  clear HO_9
                  clear HO_68
                  clear HO_255000
                  clear HO_277000
                  clear HO_280000
                  clear HO286
                  clear HO291
                  clear HL292_2
                  clear BK254
                  clear BK276
                  clear BK279
                  clear BK282
                  clear BK283
                  clear HR292_2
                  clear HB
                  have HO_9:=n0_
                  have HO_68:=n1_
                  have HO_255000:=n2_
                  have HO_277000:=n3_
                  have HO_280000:=n4_
                  have HO286:=n5_
                  have HO291:=n6_
                  have HL292_2:=n7_
                  have BK254:=n8_
                  have BK276:=n9_
                  have BK279:=n10_
                  have BK282:=n11_
                  have BK283:=n12_
                  have HR292_2:=n13_
                  have HB:=n14_
                  clear n0_ n1_ n2_ n3_ n4_ n5_ n6_ n7_ n8_ n9_ n10_ n11_ n12_ n13_ n14_
                  (try clear hb)
                  (try clear hb2)
                  (try clear hk)
                  (try clear hi)
                  refine hK.out _ _ ⟨(kC BK283.out 0).trans rfl,(kC BK283.out 1).trans rfl,(kC BK283.out 2).trans rfl,HS3_,HS4_,HS5_⟩ (fun hHeld => ?_)
                  clear hK K
                  refine norm_ (a':=?_) ?_ ?_
                  rotate_left
                  ·show Act.put _ (some 87) _ = _
                   simp only [Act.put,sA,sZ,sS,i64_w,i32_w]
                   rfl
                  refine pure_ (i:=6) (N:=some 88) (v:=?_) (a':=?_) #[tt,tt,tt,tt,tt,tt,tt] rfl rfl (by kernel_rfl) (fun _ _ _ h => h) (Or.inl ⟨by rfl,?_⟩) ?_ ?_
                  rotate_left
                  ·intro w'
                   go_simp
                   with_reducible rfl
                  rotate_left
                  ·simp only [Act.put,sA,sZ,sS,i64_w,i32_w]
                   rfl
                  refine done_ (by kernel_rfl) ?_
                  try go_wp2
                  go_ret
                  exact ⟨by first|rfl|(simp [errW_none,errW_some] <;> rfl)|(simp only [← hji7];first|rfl|(simp [errW_none,errW_some] <;> rfl))|(simp [*,errW_none,errW_some] <;> rfl),by repeat (first|(with_reducible first|exact HB.out|apply bA|apply bN|apply bD|refine bS ?_ GE254.out|refine bS ?_ GE276.out|refine bS ?_ GE279.out|refine bS ?_ GE282.out|refine bS ?_ GE283.out)|exact HB.out)⟩
                ·rw [if_neg c59] at H
                 exact absurd H (by simp)
               ·rw [if_neg c57] at H
                exact absurd H (by simp)
              ·rw [if_neg c56] at H
               exact absurd H (by simp)
             ·rw [if_neg c55] at H
              have c55b0 : decide (x70_3 < (y266.length : Int)) = false:=decide_eq_false c55
              clear c55
              replace H:=Option.bind_eq_some_iff.mp H
              obtain ⟨t280,A1100,H⟩:=H
              replace H : (some t280) = some r:=H
              have A110:=Ak A1100
              clear A1100
              obtain rfl:=Option.some.inj H
              have hnb111:=NB276_254.out
              have hnc111:=NB254_276.out
              have hnb112:=NB276_279.out
              have hnc112:=NB279_276.out
              have hcz113_0 : wr.cell? ⟨gb276,0,none⟩ = some (.slice Ao28 t269.length co28):=(kC BK276.out 0).trans rfl
              have hfz113_0:=blk_frozen BK276.out 0
              have hnb114:=NB279_254.out
              have hnc114:=NB254_279.out
              have hcz115_0 : wr.cell? ⟨gb279,0,none⟩ = some (u280000):=(kC BK279.out 0).trans rfl
              have hfz115_0:=blk_frozen BK279.out 0
              obtain ⟨Ao116,co116,eo116⟩:=Kd.R_slice HO_280000.out
              subst eo116
              go_wp2_with (first|((with_reducible refine gate_callee (f:=20) rfl ?_);refine goesL_ (some 94) rfl rfl Try.func20 (by kernel_rfl) rfl #[.slice Ao28 t269.length co28,.slice Ao116 x280000_3.length co116] rfl (by (try simp only [List.map_toArray,List.map_cons,List.map_nil]);first|done|rfl|(simp only [List.length_drop,List.length_take];rfl)) ?_;(with_reducible refine (gazetteerref22_SameRows.calls k3 _ _ t269 _ _ x280000_3 t280 _ ?side1 ?side2 ?side3 ?side4 A110.out).mono ?_);(case side1 => repeat (first|exact (Kd.R_reads' HO_277000.out).2.2|(with_reducible refine Kd.C_alloc ?_ _)|(with_reducible refine Kd.C_drewN ?_ _)|(with_reducible refine Kd.C_drew ?_)));(case side2 => exact (Kd.R_reads' HO_277000.out).2.1);(case side3 => repeat (first|exact (Kd.R_reads' HO_280000.out).2.2|(with_reducible refine Kd.C_alloc ?_ _)|(with_reducible refine Kd.C_drewN ?_ _)|(with_reducible refine Kd.C_drew ?_)));(case side4 => exact (Kd.R_reads' HO_280000.out).2.1);rintro e w' ⟨rfl,⟨nd,rfl⟩⟩;refine ⟨_,rfl,?_⟩))
              go_ret
              exact ⟨by first|rfl|(simp [errW_none,errW_some] <;> rfl)|(simp only [← hji7];first|rfl|(simp [errW_none,errW_some] <;> rfl))|(simp [*,errW_none,errW_some] <;> rfl),by repeat (first|(with_reducible first|exact HB.out|apply bA|apply bN|apply bD|refine bS ?_ GE254.out|refine bS ?_ GE276.out|refine bS ?_ GE279.out)|exact HB.out)⟩
    ·rw [if_neg c10] at H
     exact absurd H (by simp)
   ·rw [if_neg c9] at H
    exact absurd H (by simp)
  ·rw [if_neg c8] at H
   exact absurd H (by simp)
 ·replace c5:=Bool.eq_false_iff.mpr c5
  subst c5
  have H1 : (some false) = some r:=by rw [if_neg (show ¬ (false = true) by decide)] at H;exact H
  clear H
  have H:=H1
  clear H1
  obtain rfl:=Option.some.inj H
  go_enter Try.func3,Try.ntmps3
  go_wp2_with (first|((with_reducible refine gate_dst (N:=3) rfl ?_);(try (refine gate_guard (by rfl) ?_;dsimp only));refine box_event ?hg (N:=3) ?hd (cs:=#[.slice A0_0 l0_0.length c0_0]) (t:=24) ?hr ?_;(case hd => rfl);(case hg => rfl);(case hr => first|(go_simp;done)|(go_simp;rfl));intro gb254 hg w117 hbox hb;have n0_:=Ak (below_step (by repeat (first|(with_reducible first|exact HB.out|apply bA|apply bN|apply bD)|exact HB.out)) hb);have n1_:=Ak (hbox);have n2_:=Ak ((by rw [hg];exact (below_size (by repeat (first|(with_reducible first|exact HB.out|apply bA|apply bN|apply bD)|exact HB.out))) : w.heap.size ≤ gb254));have n3_:=Ak ((by rw [hg];exact (below_size (by repeat (first|(with_reducible first|exact HB.out|apply bA|apply bN|apply bD)|exact HB.out))) : w.heap.size ≤ gb254));clear HB;have HB:=n0_;have BK254:=n1_;have GW254:=n2_;have GE254:=n3_;clear n0_ n1_ n2_ n3_;clear hb hbox hg)|((with_reducible refine gate_callee (f:=13) rfl ?_);refine goesL_ (some 17) rfl rfl Try.func13 (by kernel_rfl) rfl #[] rfl (by (try simp only [List.map_toArray,List.map_cons,List.map_nil]);first|done|rfl|(simp only [List.length_drop,List.length_take];rfl)) ?_;(with_reducible refine (gazetteerlaw22_wakes.calls k  false _ A4.out).mono ?_);rintro e w118 ⟨rfl,hb⟩;refine ⟨_,rfl,?_⟩;have n0_:=Ak (kB (g:=gb254) (o:=.cells #[.slice A0_0 l0_0.length c0_0] 24 (0,0)) (by (with_reducible repeat (first|refine kN ?_ _|refine kD ?_|refine kA ?_ _));exact BK254.out) hb);have n1_:=Ak (below_step (by repeat (first|(with_reducible first|exact HB.out|apply bA|apply bN|apply bD|refine bS ?_ GE254.out)|exact HB.out)) hb);clear BK254;clear HB;have BK254:=n0_;have HB:=n1_;clear n0_ n1_;(try clear hb);(try clear hb2);(try clear hk);(try clear hi)))
  go_ret
  exact ⟨by first|rfl|(simp [errW_none,errW_some] <;> rfl)|(simp [*,errW_none,errW_some] <;> rfl),by repeat (first|(with_reducible first|exact HB.out|apply bA|apply bN|apply bD|refine bS ?_ GE254.out)|exact HB.out)⟩
end Go.Proofs.Ytknlbfandkmeiaa.M
end
section
namespace Go.Proofs.Ytknlbfandkmeiaa.M
open Go.RowKit Go.Proofs.YtknlbfandkmeiaaW.PrintWords Go.Proofs.YtknlbfandkmeiaaW.PrintLast Go.Proofs.YtknlbfandkmeiaaW.PrintMore
attribute [local go_sem] max2_int min2_int max_two min_two max_three min_three max_four min_four   -- for this text's walks alone
def wf36 (x : S36) : Prop := ((Lit.int .i64 x.f0).wf = true) ∧ ((Lit.int .i64 x.f1).wf = true) ∧ ((Lit.int .i64 x.f2).wf = true) ∧ ((Lit.int .i64 x.f3).wf = true)
theorem op36 : Opens 36 k36 wf36 := Opens.iso (fun x : S36 => (x.f0, x.f1, x.f2, x.f3)) (fun a => ⟨a.1, a.2.1, a.2.2.1, a.2.2.2⟩) (fun _ => rfl) (Opens.struct Try.underlying36 (by kernel_rfl) (OpensF.cons rfl (Opens.int Try.underlying2 (by kernel_rfl)) (OpensF.cons rfl (Opens.int Try.underlying2 (by kernel_rfl)) (OpensF.cons rfl (Opens.int Try.underlying2 (by kernel_rfl)) (OpensF.last rfl (Opens.int Try.underlying2 (by kernel_rfl)))))))
def wf51 (x : S51) : Prop := ((Lit.int .u32 x.f0).wf = true) ∧ (wf36 x.f1) ∧ ((Lit.int .i64 x.f2).wf = true)
theorem op51 : Opens 51 k51 wf51 := Opens.iso (fun x : S51 => (x.f0, x.f1, x.f2)) (fun a => ⟨a.1, a.2.1, a.2.2⟩) (fun _ => rfl) (Opens.struct Try.underlying51 (by kernel_rfl) (OpensF.cons rfl (Opens.int Try.underlying34 (by kernel_rfl)) (OpensF.cons rfl op36 (OpensF.last rfl (Opens.int Try.underlying2 (by kernel_rfl))))))
def wf22 (l : List (S51)) : Prop := l.length ≤ maxLen ∧ ∀ a ∈ l, wf51 a
theorem op22 : Opens 22 (Kd.slice 51 k51) wf22 := Opens.slice Try.underlying22 (by kernel_rfl) op51
def wf24 (x : S24) : Prop := (wf22 x.f0)
theorem op24 : Opens 24 k24 wf24 := Opens.iso (fun x : S24 => x.f0) (fun a => ⟨a⟩) (fun _ => rfl) (Opens.struct Try.underlying24 (by kernel_rfl) (OpensF.last rfl op22))
def wf38 (x : S38) : Prop := ((Lit.int .i64 x.f0).wf = true) ∧ (True) ∧ ((Lit.int .u32 x.f2).wf = true) ∧ (wf36 x.f3) ∧ ((Lit.int .i64 x.f4).wf = true)
theorem op38 : Opens 38 k38 wf38 := Opens.iso (fun x : S38 => (x.f0, x.f1, x.f2, x.f3, x.f4)) (fun a => ⟨a.1, a.2.1, a.2.2.1, a.2.2.2.1, a.2.2.2.2⟩) (fun _ => rfl) (Opens.struct Try.underlying38 (by kernel_rfl) (OpensF.cons rfl (Opens.int Try.underlying3 (by kernel_rfl)) (OpensF.cons rfl (Opens.bool Try.underlying4 (by kernel_rfl)) (OpensF.cons rfl (Opens.int Try.underlying34 (by kernel_rfl)) (OpensF.cons rfl op36 (OpensF.last rfl (Opens.int Try.underlying2 (by kernel_rfl))))))))
def wf25 (l : List (S38)) : Prop := l.length ≤ maxLen ∧ ∀ a ∈ l, wf38 a
theorem op25 : Opens 25 (Kd.slice 38 k38) wf25 := Opens.slice Try.underlying25 (by kernel_rfl) op38
end Go.Proofs.Ytknlbfandkmeiaa.M
end
section
namespace Go.Proofs.Ytknlbfandkmeiaa.M
open Go.RowKit Go.Proofs.YtknlbfandkmeiaaW.PrintWords Go.Proofs.YtknlbfandkmeiaaW.PrintLast Go.Proofs.YtknlbfandkmeiaaW.PrintMore
attribute [local go_sem] max2_int min2_int max_two min_two max_three min_three max_four min_four   -- for this text's walks alone
def ModelRuns_Pure : Prop := ∀ (x0 : S24) (x1 : Int) (x2 : List (S38)), wf24 x0 → (Lit.int .i64 x1).wf = true → wf25 x2 → ∃ k, gazetteerlaw22_ModelRuns.f k x0.f0 x1 x2 = some true
end Go.Proofs.Ytknlbfandkmeiaa.M
end
