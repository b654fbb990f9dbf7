/- What the row of this claim reaches. No condition. -/
import Derived.Test.YtknlbfandkmeiaaZX5
import Derived.Test.YtknlbfandkmeiaaZMPure3
set_option linter.unusedVariables false
set_option linter.unusedSimpArgs false
namespace Go.Proofs.Ytknlbfandkmeiaa.M
open Go.RowKit Go.Proofs.YtknlbfandkmeiaaW.PrintWords Go.Proofs.YtknlbfandkmeiaaW.PrintLast Go.Proofs.YtknlbfandkmeiaaW.PrintMore
theorem wakes_ev : Ev (fun k => gazetteerlaw22_wakes.f k) true:=Ev.of (fun k => gazetteerlaw22_wakes.mono k) (k:=20) (by kernel_rfl)
def runR (a1 : Int) : List S38→List S51→List S41 × List S51
 | [],L => ([],L)
 | o :: os,L =>
  let r:=applyR L a1 o.f0 o.f2 o.f3.f0 o.f3.f1 o.f3.f2 o.f3.f3 o.f4
  (⟨r.2.1,r.2.2.1,r.2.2.2⟩ :: (runR a1 os r.1).1,(runR a1 os r.1).2)
theorem at_cons38 {L : List S38} {i : Nat} {x : S38} {rest : List S38} (h : L.drop i = x :: rest) : i < L.length∧rd_T38 L (i : Int) = x∧L.drop (i+1) = rest:=by
 have hi : i < L.length:=by
  rcases Nat.lt_or_ge i L.length with h1|h1
  ·exact h1
  ·rw [List.drop_eq_nil_of_le h1] at h;cases h
 rw [List.drop_eq_getElem_cons hi] at h
 injection h with h1 h2
 refine ⟨hi,?_,h2⟩
 unfold rd_T38
 rw [Int.toNat_natCast,List.getD_eq_getElem?_getD,List.getElem?_eq_getElem hi]
 exact h1
theorem at_nil38 {L : List S38} {i : Nat} (h : L.drop i = []) : L.length ≤ i:=by
 rcases Nat.lt_or_ge i L.length with h1|h1
 ·rw [List.drop_eq_getElem_cons h1] at h;cases h
 ·exact h1
theorem at_cons41 {L : List S41} {i : Nat} {x : S41} {rest : List S41} (h : L.drop i = x :: rest) : i < L.length∧rd_T41 L (i : Int) = x∧L.drop (i+1) = rest:=by
 have hi : i < L.length:=by
  rcases Nat.lt_or_ge i L.length with h1|h1
  ·exact h1
  ·rw [List.drop_eq_nil_of_le h1] at h;cases h
 rw [List.drop_eq_getElem_cons hi] at h
 injection h with h1 h2
 refine ⟨hi,?_,h2⟩
 unfold rd_T41
 rw [Int.toNat_natCast,List.getD_eq_getElem?_getD,List.getElem?_eq_getElem hi]
 exact h1
theorem run_length (a1 : Int) : ∀ (os : List S38) (L : List S51),(runR a1 os L).1.length = os.length
 | [],_ => rfl
 | o :: os,L => by simp [runR,run_length a1 os]
theorem run_loop (a1 : Int) (O : List S38) (hO : O.length ≤ 100) (hw : ∀ o ∈ O,0 ≤ o.f2) : ∀ (rest : List S38) (i : Nat) (acc : List S41) (L : List S51),O.drop i = rest→acc.length ≤ i→okT L→Ev (fun k => model_Run.l0 k a1 acc O (O.length : Int) (i : Int) L) ((runR a1 rest L).2,acc ++ (runR a1 rest L).1,0)
 | [],i,acc,L,h,ha,hok => by
  have hi:=at_nil38 h
  refine Ev.ret fun k => ?_
  rw [model_Run.l0,if_neg (by omega)]
  simp [runR]
 | o :: rest,i,acc,L,h,ha,hok => by
  obtain ⟨hi,hx,hd⟩:=at_cons38 h
  have ho : 0 ≤ o.f2:=hw o (by rw [← List.take_append_drop i O,h];simp)
  have hw' : wrap64 ((i : Int)+1) = ((i+1 : Nat) : Int):=by rw [wrap_up (by omega) (by omega)];rfl
  have ih:=run_loop a1 O hO hw rest (i+1) (acc ++ [⟨(applyR L a1 o.f0 o.f2 o.f3.f0 o.f3.f1 o.f3.f2 o.f3.f3 o.f4).2.1,(applyR L a1 o.f0 o.f2 o.f3.f0 o.f3.f1 o.f3.f2 o.f3.f3 o.f4).2.2.1,(applyR L a1 o.f0 o.f2 o.f3.f0 o.f3.f1 o.f3.f2 o.f3.f3 o.f4).2.2.2⟩]) (applyR L a1 o.f0 o.f2 o.f3.f0 o.f3.f1 o.f3.f2 o.f3.f3 o.f4).1 hd (by simp;omega) (okT_apply hok _ _ _ _ _ _ _ _ ho)
  have e : acc ++ (runR a1 (o :: rest) L).1 = (acc ++ [⟨(applyR L a1 o.f0 o.f2 o.f3.f0 o.f3.f1 o.f3.f2 o.f3.f3 o.f4).2.1,(applyR L a1 o.f0 o.f2 o.f3.f0 o.f3.f1 o.f3.f2 o.f3.f3 o.f4).2.2.1,(applyR L a1 o.f0 o.f2 o.f3.f0 o.f3.f1 o.f3.f2 o.f3.f3 o.f4).2.2.2⟩]) ++ (runR a1 rest (applyR L a1 o.f0 o.f2 o.f3.f0 o.f3.f1 o.f3.f2 o.f3.f3 o.f4).1).1:=by simp [runR]
  rw [e]
  refine Ev.step (fun k => ?_) ih
  rw [model_Run.l0,if_pos (by omega),if_pos (by omega),if_pos (by omega),hx,apply_f hok.1 hok.2.1,Option.bind_some,if_pos (by omega),hw']
theorem law_loop (a1 : Int) (h1 : 1 ≤ a1) (h3 : a1 ≤ 3) (O : List S38) (hO : O.length ≤ 100) (hw : ∀ o ∈ O,0 ≤ o.f2) (A : List S41) (N : List S51) : ∀ (rest : List S38) (i : Nat) (L : List S51),O.drop i = rest→okT L→A.drop i = (runR a1 rest L).1→N = (runR a1 rest L).2→Ev (fun k => gazetteerlaw22_ModelRuns.l0 k a1 A O (O.length : Int) (i : Int) N L) true
 | [],i,L,h,hok,hA,hN => by
  have hi:=at_nil38 h
  have hN' : N = L:=hN
  subst hN'
  have hl : N.length ≤ 1000:=by have:=hok.1;omega
  refine Ev.step (f:=fun k => (gazetteerref22_SameRows.f k N N).bind fun t280 => some t280) (fun k => ?_) (Ev.bind (same_ev hl) (Ev.now true))
  rw [gazetteerlaw22_ModelRuns.l0,if_neg (by omega)]
 | o :: rest,i,L,h,hok,hA,hN => by
  obtain ⟨hi,hx,hd⟩:=at_cons38 h
  have ho : 0 ≤ o.f2:=hw o (by rw [← List.take_append_drop i O,h];simp)
  have hw' : wrap64 ((i : Int)+1) = ((i+1 : Nat) : Int):=by rw [wrap_up (by omega) (by omega)];rfl
  obtain ⟨hi2,hx2,hd2⟩:=at_cons41 hA
  have hap:=refApply_ev hok h1 h3 o.f0 o.f1 o.f2 o.f3.f0 o.f3.f1 o.f3.f2 o.f3.f3 o.f4
  have hok2:=okT_apply hok a1 o.f0 o.f2 o.f3.f0 o.f3.f1 o.f3.f2 o.f3.f3 o.f4 ho
  have ih:=law_loop a1 h1 h3 O hO hw A N rest (i+1) (applyR L a1 o.f0 o.f2 o.f3.f0 o.f3.f1 o.f3.f2 o.f3.f3 o.f4).1 hd hok2 hd2 hN
  have hal : (applyR L a1 o.f0 o.f2 o.f3.f0 o.f3.f1 o.f3.f2 o.f3.f3 o.f4).2.2.2.length ≤ 1000:=by
   have hl:=hok.1
   unfold applyR
   repeat' split
   all_goals first
    | (show (List.filter _ L).length ≤ 1000;have:=List.length_filter_le (meetB ⟨o.f3.f0,o.f3.f1,o.f3.f2,o.f3.f3⟩) L;omega)
    | (show ([] : List S51).length ≤ 1000;simp)
  generalize applyR L a1 o.f0 o.f2 o.f3.f0 o.f3.f1 o.f3.f2 o.f3.f3 o.f4 = R at *
  refine Ev.step (fun k => ?_) (Ev.bind (f:=fun k bt => (gazetteerref22_Alike.f k R.2.1 R.2.2.1 R.2.2.2 bt.2.1 bt.2.2.1 bt.2.2.2).bind fun t => if t = true then gazetteerlaw22_ModelRuns.l0 k a1 A O (O.length : Int) ((i+1 : Nat) : Int) N bt.1 else some false) hap ?_)
  ·rw [gazetteerlaw22_ModelRuns.l0,if_pos (by omega),if_pos (by omega),if_pos (by omega),hx,hw']
   simp only [hx2,if_pos (show (i : Int) < (A.length : Int) by omega)]
  ·exact Ev.bind (f:=fun k t => if t = true then gazetteerlaw22_ModelRuns.l0 k a1 A O (O.length : Int) ((i+1 : Nat) : Int) N R.1 else some false) (alike_ev R.2.1 R.2.2.1 hal) (by simpa using ih)
theorem u32_pos {a : Int} (h : (Lit.int .u32 a).wf = true) : 0 ≤ a:=by
 have:=bounds_u32 h
 omega
theorem ready_ev {L : List S51} (a : Int) (hL : L.length ≤ 1000) : Ev (fun k => model_ready.f k L a) (if okT L then (if a < 1 then 2 else if a > 3 then 2 else 0) else 320):=by
 refine Ev.bind (f:=fun k t => if t = 0 then (if a < 1 then (some 2) else (if a > 3 then (some 2) else (some 0))) else (some 320)) (check_ev hL) ?_
 by_cases h : okT L
 ·simp only [if_pos h,if_true]
  by_cases h1 : a < 1
  ·simp only [if_pos h1];exact Ev.now _
  ·by_cases h3 : a > 3
   ·simp only [if_neg h1,if_pos h3];exact Ev.now _
   ·simp only [if_neg h1,if_neg h3];exact Ev.now _
 ·simp only [if_neg h,show ¬ (320 : Int) = 0 by omega,if_false];exact Ev.now _
theorem modelRun_ev {L : List S51} (a : Int) (O : List S38) (hL : L.length ≤ 1000) (hO : O.length ≤ 100) (hw : ∀ o ∈ O,0 ≤ o.f2) : Ev (fun k => model_Run.f k L a O) (if okT L∧1 ≤ a∧a ≤ 3 then ((runR a O L).2,(runR a O L).1,0) else ([],[],if okT L then 2 else 320)):=by
 refine Ev.bind (f:=fun k t => if t = 0 then ((api_Row_43.f L).bind fun t128 => (model_Run.l0 k a ([] : List (S41)) O (O.length : Int) 0 t128)) else (some (([] : List (S51)),([] : List (S41)),t))) (ready_ev a hL) ?_
 by_cases h : okT L
 ·simp only [if_pos h]
  by_cases h1 : a < 1
  ·simp only [if_pos h1,show ¬ (2 : Int) = 0 by omega,if_false]
   rw [if_neg (by omega)]
   exact Ev.now _
  ·by_cases h3 : a > 3
   ·simp only [if_neg h1,if_pos h3,show ¬ (2 : Int) = 0 by omega,if_false]
    rw [if_neg (by omega)]
    exact Ev.now _
   ·simp only [if_neg h1,if_neg h3,if_true]
    rw [if_pos ⟨h,by omega,by omega⟩]
    have:=run_loop a O hO hw O 0 [] L rfl (Nat.le_refl _) h
    rw [List.nil_append] at this
    have e : api_Row_43.f L = some L:=by unfold api_Row_43.f;rw [if_pos hL]
    rw [e]
    exact this
 ·simp only [if_neg h,show ¬ (320 : Int) = 0 by omega,if_false]
  rw [if_neg (fun x => h x.1)]
  exact Ev.now _
theorem class_f (a : Int) : gazetteerref22_Class.f a = some (decide (1 ≤ a∧a ≤ 3)):=by
 unfold gazetteerref22_Class.f
 by_cases h1 : a ≥ 1
 ·rw [if_pos h1]
  congr 1
  by_cases h3 : a ≤ 3 <;> simp [h3,show 1 ≤ a from h1]
 ·rw [if_neg h1]
  have : ¬ (1 ≤ a∧a ≤ 3):=fun x => h1 x.1
  simp [this]
theorem ModelRuns_pure : ModelRuns_Pure:=by
 intro x0 x1 x2 w0 w1 w2
 refine Ev.rounds ?_
 obtain ⟨T,hT⟩ : ∃ T,x0.f0.take 129 = T:=⟨_,rfl⟩
 have hTl : T.length ≤ 1000:=by rw [← hT,List.length_take];omega
 have hTp : ∀ x ∈ T,0 ≤ x.f0:=fun x hx => u32_pos (w0.2 x (List.mem_of_mem_take (by rw [hT];exact hx))).1
 have hmn : 0 ≤ mn (x2.length : Int) 30∧mn (x2.length : Int) 30 ≤ (x2.length : Int)∧mn (x2.length : Int) 30 ≤ 30:=by unfold mn;split <;> omega
 obtain ⟨O,hOe⟩ : ∃ O,x2.take (mn (x2.length : Int) 30).toNat = O:=⟨_,rfl⟩
 have hO : O.length ≤ 100:=by rw [← hOe,List.length_take];omega
 have hOw : ∀ o ∈ O,0 ≤ o.f2:=fun o ho => u32_pos (w2.2 o (List.mem_of_mem_take (by rw [hOe];exact ho))).2.2.1
 have hrun:=modelRun_ev x1 O hTl hO hOw
 have hrt:=right_ev hTl hTp
 have hsh : gazetteerlaw22_short.f x0.f0 = some T:=by unfold gazetteerlaw22_short.f;rw [hT]
 refine Ev.congr (fun k => ?_) (Ev.bind (f:=fun k t => if t = true then (model_Run.f k T x1 O).bind fun bt => (gazetteerref22_Right.f k T).bind fun r => if r = true then gazetteerlaw22_ModelRuns.j0 k x1 O bt.2.1 bt.2.2 r (!decide (1 ≤ x1∧x1 ≤ 3)) T bt.1 else gazetteerlaw22_ModelRuns.j0 k x1 O bt.2.1 bt.2.2 r true T bt.1 else some false) wakes_ev ?_)
 ·rw [gazetteerlaw22_ModelRuns.f,hsh]
  simp only [Option.bind_some]
  rw [if_pos hmn.1,if_pos hmn.2.1]
  simp only [List.nil_append,List.length_nil,Nat.zero_add,hOe,class_f,Option.bind_some]
  rw [if_pos (show O.length < 2513169434916 by omega)]
 ·simp only [if_true]
  refine Ev.bind (f:=fun k bt => (gazetteerref22_Right.f k T).bind fun r => if r = true then gazetteerlaw22_ModelRuns.j0 k x1 O bt.2.1 bt.2.2 r (!decide (1 ≤ x1∧x1 ≤ 3)) T bt.1 else gazetteerlaw22_ModelRuns.j0 k x1 O bt.2.1 bt.2.2 r true T bt.1) hrun ?_
  refine Ev.bind (f:=fun k r => if r = true then gazetteerlaw22_ModelRuns.j0 k x1 O (if okT T∧1 ≤ x1∧x1 ≤ 3 then ((runR x1 O T).2,(runR x1 O T).1,0) else ([],[],if okT T then 2 else 320)).2.1 (if okT T∧1 ≤ x1∧x1 ≤ 3 then ((runR x1 O T).2,(runR x1 O T).1,0) else ([],[],if okT T then 2 else 320)).2.2 r (!decide (1 ≤ x1∧x1 ≤ 3)) T (if okT T∧1 ≤ x1∧x1 ≤ 3 then ((runR x1 O T).2,(runR x1 O T).1,(0 : Int)) else ([],[],if okT T then 2 else 320)).1 else gazetteerlaw22_ModelRuns.j0 k x1 O (if okT T∧1 ≤ x1∧x1 ≤ 3 then ((runR x1 O T).2,(runR x1 O T).1,0) else ([],[],if okT T then 2 else 320)).2.1 (if okT T∧1 ≤ x1∧x1 ≤ 3 then ((runR x1 O T).2,(runR x1 O T).1,0) else ([],[],if okT T then 2 else 320)).2.2 r true T (if okT T∧1 ≤ x1∧x1 ≤ 3 then ((runR x1 O T).2,(runR x1 O T).1,(0 : Int)) else ([],[],if okT T then 2 else 320)).1) hrt ?_
  by_cases ho : okT T
  ·have hd : decide (okT T) = true:=decide_eq_true ho
   simp only [hd,if_true]
   by_cases hc : 1 ≤ x1∧x1 ≤ 3
   ·rw [if_pos ⟨ho,hc⟩]
    have hdc : (!decide (1 ≤ x1∧x1 ≤ 3)) = false:=by rw [decide_eq_true hc];rfl
    rw [hdc]
    have hl:=law_loop x1 hc.1 hc.2 O hO hOw (runR x1 O T).1 (runR x1 O T).2 O 0 T rfl ho rfl rfl
    refine Ev.step (f:=fun k => gazetteerlaw22_ModelRuns.j1 k x1 O (runR x1 O T).1 false T (runR x1 O T).2) (fun k => ?_) (Ev.step (fun k => ?_) hl)
    ·rw [gazetteerlaw22_ModelRuns.j0,if_neg (by simp),if_pos rfl,run_length]
     simp
    ·rw [gazetteerlaw22_ModelRuns.j1,if_neg (by simp)]
     rfl
   ·rw [if_neg (fun x => hc x.2),if_pos ho]
    have hdc : (!decide (1 ≤ x1∧x1 ≤ 3)) = true:=by rw [decide_eq_false hc];rfl
    rw [hdc]
    refine Ev.ret fun k => ?_
    rw [gazetteerlaw22_ModelRuns.j0,if_pos rfl,if_pos rfl,if_pos rfl]
    simp [wrap64]
  ·have hd : decide (okT T) = false:=decide_eq_false ho
   simp only [hd,Bool.false_eq_true,if_false]
   rw [if_neg (fun x => ho x.1),if_neg ho]
   refine Ev.ret fun k => ?_
   rw [gazetteerlaw22_ModelRuns.j0,if_pos rfl,if_neg (by simp),if_pos rfl]
   simp [wrap64]
end Go.Proofs.Ytknlbfandkmeiaa.M
