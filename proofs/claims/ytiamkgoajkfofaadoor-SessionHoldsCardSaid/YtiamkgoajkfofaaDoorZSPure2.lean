/- What the row of this claim reaches. No condition. -/
import Derived.Test.YtiamkgoajkfofaaDoorZSPure
set_option linter.unusedVariables false
set_option linter.unusedSimpArgs false
namespace Go.Proofs.YtiamkgoajkfofaaDoor.S
open Go.RowKit Go.Proofs.YtiamkgoajkfofaaDoorW.PrintWords Go.Proofs.YtiamkgoajkfofaaDoorW.PrintLast Go.Proofs.YtiamkgoajkfofaaDoorW.PrintMore
def sameB (s t : S33) : Bool := s.f0 == t.f0 && (s.f1 == t.f1 && (s.f2 == t.f2 && (s.f3 == t.f3 && (opE s.f4 t.f4 && (s.f5 == t.f5 && (curEq s.f6 t.f6 && eqU s.f7 t.f7))))))
def Lens (s : S33) : Prop := s.f6.f1.length ≤ 1000 ∧ s.f6.f2.length ≤ 1000 ∧ s.f7.length ≤ 1000
theorem curEq_refl (c : S31) : curEq c c = true := by simp [curEq, kEq, eqS_refl, eqU_refl]
theorem opE_refl (o : S27) : opE o o = true := by simp [opE, kEq]
theorem sameB_refl (s : S33) : sameB s s = true := by simp [sameB, curEq_refl, opE_refl, eqU_refl]
theorem same_ev (s t : S33) (h : Lens s) : Ev (fun n => session_Same.f n s.f0 s.f1 s.f2 s.f3 s.f4.f0 s.f4.f1 s.f4.f2 s.f4.f3.f0 s.f4.f3.f1 s.f4.f3.f2 s.f4.f3.f3 s.f4.f4 s.f5 s.f6.f0.f0 s.f6.f0.f1 s.f6.f0.f2 s.f6.f0.f3 s.f6.f1 s.f6.f2 s.f7 t.f0 t.f1 t.f2 t.f3 t.f4.f0 t.f4.f1 t.f4.f2 t.f4.f3.f0 t.f4.f3.f1 t.f4.f3.f2 t.f4.f3.f3 t.f4.f4 t.f5 t.f6.f0.f0 t.f6.f0.f1 t.f6.f0.f2 t.f6.f0.f3 t.f6.f1 t.f6.f2 t.f7) (sameB s t) := by
  unfold sameB
  by_cases e0 : s.f0 = t.f0
  case neg => rw [beq_eq_false_iff_ne.mpr e0, Bool.false_and]; exact Ev.congr (fun n => by rw [session_Same.f, if_neg e0]) (Ev.now false)
  by_cases e1 : s.f1 = t.f1
  case neg => rw [beq_eq_false_iff_ne.mpr e1, Bool.false_and, Bool.and_false]; exact Ev.congr (fun n => by rw [session_Same.f, if_pos e0, if_neg e1]) (Ev.now false)
  by_cases e2 : (s.f2 == t.f2) = true
  case neg => rw [Bool.eq_false_iff.mpr e2, Bool.false_and, Bool.and_false, Bool.and_false]; exact Ev.congr (fun n => by rw [session_Same.f, if_pos e0, if_pos e1, if_neg e2]) (Ev.now false)
  by_cases e3 : s.f3 = t.f3
  case neg => rw [beq_eq_false_iff_ne.mpr e3, Bool.false_and, Bool.and_false, Bool.and_false, Bool.and_false]; exact Ev.congr (fun n => by rw [session_Same.f, if_pos e0, if_pos e1, if_pos e2, if_neg e3]) (Ev.now false)
  rw [beq_iff_eq.mpr e0, beq_iff_eq.mpr e1, e2, beq_iff_eq.mpr e3]
  simp only [Bool.true_and]
  by_cases e4 : opE s.f4 t.f4 = true
  case neg => rw [Bool.eq_false_iff.mpr e4, Bool.false_and]; exact Ev.congr (fun n => by rw [session_Same.f, if_pos e0, if_pos e1, if_pos e2, if_pos e3]; exact if_neg e4) (Ev.now false)
  by_cases e5 : s.f5 = t.f5
  case neg => rw [beq_eq_false_iff_ne.mpr e5, Bool.false_and, Bool.and_false]; exact Ev.congr (fun n => by rw [session_Same.f, if_pos e0, if_pos e1, if_pos e2, if_pos e3]; refine (if_pos e4).trans ?_; exact if_neg e5) (Ev.now false)
  rw [e4, beq_iff_eq.mpr e5]
  simp only [Bool.true_and]
  refine Ev.congr (f := fun n => (cursor_Same.f n s.f6.f0.f0 s.f6.f0.f1 s.f6.f0.f2 s.f6.f0.f3 s.f6.f1 s.f6.f2 t.f6.f0.f0 t.f6.f0.f1 t.f6.f0.f2 t.f6.f0.f3 t.f6.f1 t.f6.f2).bind fun b => if b = true then (slices_Equal_uint32_uint32.f n s.f7 t.f7).bind fun c => some c else some false) (fun n => by rw [session_Same.f, if_pos e0, if_pos e1, if_pos e2, if_pos e3]; refine (if_pos e4).trans ?_; exact if_pos e5) ?_
  refine Ev.bind (f := fun n b => if b = true then (slices_Equal_uint32_uint32.f n s.f7 t.f7).bind fun c => some c else some false) (cur_ev s.f6 t.f6 h.1 h.2.1) ?_
  cases curEq s.f6 t.f6
  · exact Ev.now false
  · exact Ev.bind (f := fun _ b => some b) (u32_ev s.f7 t.f7 h.2.2) (Ev.now _)
theorem rsame_l0 (s t : S33) (hb : s.f7.length = t.f7.length) (hn : s.f7.length ≤ 1000) : ∀ (m i : Nat), i + m = s.f7.length → Ev (fun n => gazetteerref21_Same.l0 n (i : Int) s.f0 s.f1 s.f2 s.f3 s.f4.f0 s.f4.f1 s.f4.f2 s.f4.f3.f0 s.f4.f3.f1 s.f4.f3.f2 s.f4.f3.f3 s.f4.f4 s.f5 s.f6.f0.f0 s.f6.f0.f1 s.f6.f0.f2 s.f6.f0.f3 s.f6.f1 s.f6.f2 s.f7 t.f0 t.f1 t.f2 t.f3 t.f4.f0 t.f4.f1 t.f4.f2 t.f4.f3.f0 t.f4.f3.f1 t.f4.f3.f2 t.f4.f3.f3 t.f4.f4 t.f5 t.f6.f0.f0 t.f6.f0.f1 t.f6.f0.f2 t.f6.f0.f3 t.f6.f1 t.f6.f2 t.f7) (eqU (s.f7.drop i) (t.f7.drop i))
  | 0, i, h => by
    rw [List.drop_eq_nil_of_le (by omega), List.drop_eq_nil_of_le (by omega)]
    refine Ev.ret fun n => ?_
    rw [gazetteerref21_Same.l0, if_neg (by omega)]
    rfl
  | m + 1, i, h => by
    have hw : wrap64 ((i : Int) + 1) = ((i + 1 : Nat) : Int) := by rw [wrap_up (by omega) (by omega)]; rfl
    have ih := rsame_l0 s t hb hn m (i + 1) (by omega)
    rw [dropU (by omega : i < s.f7.length), dropU (by omega : i < t.f7.length), eqU]
    by_cases hx : rd s.f7 i = rd t.f7 i
    · rw [beq_iff_eq.mpr hx, Bool.true_and]
      refine Ev.step (fun n => ?_) ih
      rw [gazetteerref21_Same.l0, if_pos (by omega), if_pos (by omega), if_pos (by omega), if_pos hx, hw]
    · rw [beq_eq_false_iff_ne.mpr hx, Bool.false_and]
      refine Ev.ret fun n => ?_
      rw [gazetteerref21_Same.l0, if_pos (by omega), if_pos (by omega), if_pos (by omega), if_neg hx]
theorem opE_not (a b : S27) : (!(a.f0 == b.f0) || (!(a.f1 == b.f1) || (!(a.f2 == b.f2) || ((!(a.f3.f0 == b.f3.f0) || (!(a.f3.f1 == b.f3.f1) || (!(a.f3.f2 == b.f3.f2) || (!(a.f3.f3 == b.f3.f3))))) || (!(a.f4 == b.f4)))))) = !(opE a b) := by
  rw [kEq_not]
  unfold opE
  cases (a.f0 == b.f0) <;> cases (a.f1 == b.f1) <;> cases (a.f2 == b.f2) <;> cases (kEq a.f3 b.f3) <;> cases (a.f4 == b.f4) <;> rfl
theorem rsame_ev (s t : S33) (h : Lens s) : Ev (fun n => gazetteerref21_Same.f n s.f0 s.f1 s.f2 s.f3 s.f4.f0 s.f4.f1 s.f4.f2 s.f4.f3.f0 s.f4.f3.f1 s.f4.f3.f2 s.f4.f3.f3 s.f4.f4 s.f5 s.f6.f0.f0 s.f6.f0.f1 s.f6.f0.f2 s.f6.f0.f3 s.f6.f1 s.f6.f2 s.f7 t.f0 t.f1 t.f2 t.f3 t.f4.f0 t.f4.f1 t.f4.f2 t.f4.f3.f0 t.f4.f3.f1 t.f4.f3.f2 t.f4.f3.f3 t.f4.f4 t.f5 t.f6.f0.f0 t.f6.f0.f1 t.f6.f0.f2 t.f6.f0.f3 t.f6.f1 t.f6.f2 t.f7) (sameB s t) := by
  unfold sameB
  by_cases e0 : s.f0 = t.f0
  case neg => rw [beq_eq_false_iff_ne.mpr e0, Bool.false_and]; exact Ev.ret fun n => by simp only [gazetteerref21_Same.f, gazetteerref21_Same.j0, if_neg e0, if_true]
  by_cases e1 : s.f1 = t.f1
  case neg => rw [beq_eq_false_iff_ne.mpr e1, Bool.false_and, Bool.and_false]; exact Ev.ret fun n => by simp only [gazetteerref21_Same.f, gazetteerref21_Same.j0, if_pos e0, if_neg e1, if_true]
  by_cases e2 : s.f2 = t.f2
  case neg => rw [beq_eq_false_iff_ne.mpr e2, Bool.false_and, Bool.and_false, Bool.and_false]; exact Ev.ret fun n => by simp only [gazetteerref21_Same.f, gazetteerref21_Same.j0, if_pos e0, if_pos e1, if_pos (bne_iff_ne.mpr e2), if_true]
  have e2' : ¬ (s.f2 != t.f2) = true := by simp [e2]
  by_cases e3 : s.f3 = t.f3
  case neg => rw [beq_eq_false_iff_ne.mpr e3, Bool.false_and, Bool.and_false, Bool.and_false, Bool.and_false]; exact Ev.ret fun n => by simp only [gazetteerref21_Same.f, gazetteerref21_Same.j0, if_pos e0, if_pos e1, if_neg e2', if_neg e3, if_true]
  rw [beq_iff_eq.mpr e0, beq_iff_eq.mpr e1, beq_iff_eq.mpr e2, beq_iff_eq.mpr e3]
  simp only [Bool.true_and]
  by_cases e4 : opE s.f4 t.f4 = true
  case neg =>
    have e4' := Bool.eq_false_iff.mpr e4
    rw [e4', Bool.false_and]
    exact Ev.ret fun n => by simp only [gazetteerref21_Same.f, gazetteerref21_Same.j0, if_pos e0, if_pos e1, if_neg e2', if_pos e3, opE_not, e4', Bool.not_false, if_true]
  by_cases e5 : s.f5 = t.f5
  case neg =>
    rw [beq_eq_false_iff_ne.mpr e5, Bool.false_and, Bool.and_false]
    exact Ev.ret fun n => by simp only [gazetteerref21_Same.f, gazetteerref21_Same.j0, if_pos e0, if_pos e1, if_neg e2', if_pos e3, opE_not, e4, Bool.not_true, if_neg e5, if_true, if_false, Bool.false_eq_true]
  rw [e4, beq_iff_eq.mpr e5]
  simp only [Bool.true_and]
  have hf : ∀ n, gazetteerref21_Same.f n s.f0 s.f1 s.f2 s.f3 s.f4.f0 s.f4.f1 s.f4.f2 s.f4.f3.f0 s.f4.f3.f1 s.f4.f3.f2 s.f4.f3.f3 s.f4.f4 s.f5 s.f6.f0.f0 s.f6.f0.f1 s.f6.f0.f2 s.f6.f0.f3 s.f6.f1 s.f6.f2 s.f7 t.f0 t.f1 t.f2 t.f3 t.f4.f0 t.f4.f1 t.f4.f2 t.f4.f3.f0 t.f4.f3.f1 t.f4.f3.f2 t.f4.f3.f3 t.f4.f4 t.f5 t.f6.f0.f0 t.f6.f0.f1 t.f6.f0.f2 t.f6.f0.f3 t.f6.f1 t.f6.f2 t.f7 = (gazetteerref13_Same.f n s.f6.f0.f0 s.f6.f0.f1 s.f6.f0.f2 s.f6.f0.f3 s.f6.f1 s.f6.f2 t.f6.f0.f0 t.f6.f0.f1 t.f6.f0.f2 t.f6.f0.f3 t.f6.f1 t.f6.f2).bind fun b => if b = true then gazetteerref21_Same.j0 n ((s.f7.length : Int) != (t.f7.length : Int)) s.f0 s.f1 s.f2 s.f3 s.f4.f0 s.f4.f1 s.f4.f2 s.f4.f3.f0 s.f4.f3.f1 s.f4.f3.f2 s.f4.f3.f3 s.f4.f4 s.f5 s.f6.f0.f0 s.f6.f0.f1 s.f6.f0.f2 s.f6.f0.f3 s.f6.f1 s.f6.f2 s.f7 t.f0 t.f1 t.f2 t.f3 t.f4.f0 t.f4.f1 t.f4.f2 t.f4.f3.f0 t.f4.f3.f1 t.f4.f3.f2 t.f4.f3.f3 t.f4.f4 t.f5 t.f6.f0.f0 t.f6.f0.f1 t.f6.f0.f2 t.f6.f0.f3 t.f6.f1 t.f6.f2 t.f7 else gazetteerref21_Same.j0 n true s.f0 s.f1 s.f2 s.f3 s.f4.f0 s.f4.f1 s.f4.f2 s.f4.f3.f0 s.f4.f3.f1 s.f4.f3.f2 s.f4.f3.f3 s.f4.f4 s.f5 s.f6.f0.f0 s.f6.f0.f1 s.f6.f0.f2 s.f6.f0.f3 s.f6.f1 s.f6.f2 s.f7 t.f0 t.f1 t.f2 t.f3 t.f4.f0 t.f4.f1 t.f4.f2 t.f4.f3.f0 t.f4.f3.f1 t.f4.f3.f2 t.f4.f3.f3 t.f4.f4 t.f5 t.f6.f0.f0 t.f6.f0.f1 t.f6.f0.f2 t.f6.f0.f3 t.f6.f1 t.f6.f2 t.f7 := fun n => by
    simp only [gazetteerref21_Same.f, if_pos e0, if_pos e1, if_neg e2', if_pos e3, opE_not, e4, Bool.not_true, if_pos e5, if_false, Bool.false_eq_true]
  refine Ev.congr hf ?_
  refine Ev.bind (f := fun n b => if b = true then gazetteerref21_Same.j0 n ((s.f7.length : Int) != (t.f7.length : Int)) s.f0 s.f1 s.f2 s.f3 s.f4.f0 s.f4.f1 s.f4.f2 s.f4.f3.f0 s.f4.f3.f1 s.f4.f3.f2 s.f4.f3.f3 s.f4.f4 s.f5 s.f6.f0.f0 s.f6.f0.f1 s.f6.f0.f2 s.f6.f0.f3 s.f6.f1 s.f6.f2 s.f7 t.f0 t.f1 t.f2 t.f3 t.f4.f0 t.f4.f1 t.f4.f2 t.f4.f3.f0 t.f4.f3.f1 t.f4.f3.f2 t.f4.f3.f3 t.f4.f4 t.f5 t.f6.f0.f0 t.f6.f0.f1 t.f6.f0.f2 t.f6.f0.f3 t.f6.f1 t.f6.f2 t.f7 else gazetteerref21_Same.j0 n true s.f0 s.f1 s.f2 s.f3 s.f4.f0 s.f4.f1 s.f4.f2 s.f4.f3.f0 s.f4.f3.f1 s.f4.f3.f2 s.f4.f3.f3 s.f4.f4 s.f5 s.f6.f0.f0 s.f6.f0.f1 s.f6.f0.f2 s.f6.f0.f3 s.f6.f1 s.f6.f2 s.f7 t.f0 t.f1 t.f2 t.f3 t.f4.f0 t.f4.f1 t.f4.f2 t.f4.f3.f0 t.f4.f3.f1 t.f4.f3.f2 t.f4.f3.f3 t.f4.f4 t.f5 t.f6.f0.f0 t.f6.f0.f1 t.f6.f0.f2 t.f6.f0.f3 t.f6.f1 t.f6.f2 t.f7) (rcur_ev s.f6 t.f6 h.1 h.2.1) ?_
  cases curEq s.f6 t.f6
  · exact Ev.ret fun n => by simp only [Bool.false_eq_true, if_false, gazetteerref21_Same.j0, if_true, Bool.false_and]
  · simp only [if_true, Bool.true_and]
    by_cases hl : s.f7.length = t.f7.length
    · refine Ev.step (fun n => ?_) (rsame_l0 s t hl h.2.2 s.f7.length 0 (by omega))
      rw [gazetteerref21_Same.j0, if_neg (by simp; omega)]
      rfl
    · rw [eqU_ne hl]
      refine Ev.ret fun n => ?_
      rw [gazetteerref21_Same.j0, if_pos (by simp; omega)]
def boxB (k : S25) : Bool := decide (k.f0 ≤ k.f1) && decide (k.f2 ≤ k.f3)
def keyB (c : Int) (k : S25) : Bool := boxB k && (decide (c = 1) || ((decide (c = 2) && (decide (k.f2 = 0) && decide (k.f3 = 0))) || (decide (c = 3) && (decide (k.f0 = k.f1) && decide (k.f2 = k.f3)))))
theorem box_v (k : S25) : key_box.f k.f0 k.f1 k.f2 k.f3 = some (boxB k) := by
  unfold key_box.f boxB
  by_cases h : k.f0 ≤ k.f1 <;> simp [h]
theorem key_v (c : Int) (k : S25) : key_Check.f c k.f0 k.f1 k.f2 k.f3 = some (if keyB c k = true then 0 else 2) := by
  unfold key_Check.f keyB
  rw [box_v]
  cases boxB k <;> by_cases c1 : c = 1 <;> by_cases c2 : c = 2 <;> by_cases c3 : c = 3 <;> by_cases k1 : k.f2 = 0 <;> by_cases k2 : k.f3 = 0 <;> by_cases k3 : k.f0 = k.f1 <;> by_cases k4 : k.f2 = k.f3 <;> simp_all
def refuseF (st : Int) (rd : Bool) (c : Int) (o : S27) : Int :=
  if o.f0 < 1 ∨ 6 < o.f0 then 2 else if o.f0 = 1 ∧ st = 2 then 311 else if ¬ o.f0 = 1 ∧ st = 1 then 312 else if (o.f0 = 2 ∨ o.f0 = 3) ∧ rd = true then 315 else
  if (o.f0 = 2 ∨ o.f0 = 3) ∧ o.f2 = 0 then 2 else if (o.f0 = 2 ∧ keyB c o.f3 = false) ∨ (o.f0 = 4 ∧ keyB 1 o.f3 = false) then 314 else 0
def kindF (op part : Int) (rd : Bool) : Int := if op = 4 ∧ part = 2 ∧ rd = true then 0 else tabF op part
theorem seven (op : Int) : op = 1 ∨ op = 2 ∨ op = 3 ∨ op = 4 ∨ op = 5 ∨ op = 6 ∨ (op < 1 ∨ 6 < op) := by omega
set_option maxHeartbeats 4000000 in
theorem refuse_ev (s : S33) (c : Int) (o : S27) : Ev (fun n => session_refuse.f n s.f0 s.f1 s.f2 s.f3 s.f4.f0 s.f4.f1 s.f4.f2 s.f4.f3.f0 s.f4.f3.f1 s.f4.f3.f2 s.f4.f3.f3 s.f4.f4 s.f5 s.f6.f0.f0 s.f6.f0.f1 s.f6.f0.f2 s.f6.f0.f3 s.f6.f1 s.f6.f2 s.f7 c o.f0 o.f1 o.f2 o.f3.f0 o.f3.f1 o.f3.f2 o.f3.f3 o.f4) (refuseF s.f0 s.f2 c o) := by
  refine ⟨9, fun k hk => ?_⟩
  obtain ⟨m, rfl⟩ : ∃ m, k = m + 9 := ⟨k - 9, by omega⟩
  have hk1 := key_v c o.f3
  have hk2 := key_v 1 o.f3
  unfold refuseF
  rcases seven o.f0 with h | h | h | h | h | h | h
  case inr.inr.inr.inr.inr.inr =>
    have n2 : ¬ o.f0 = 2 := by omega
    have n3 : ¬ o.f0 = 3 := by omega
    rcases h with h | h <;> simp [session_refuse.f, session_refuse.j0, session_refuse.j1, session_refuse.j2, session_refuse.j3, session_refuse.j4, session_refuse.j5, session_refuse.j6, h, n2, n3]
  all_goals
   ( by_cases h1 : s.f0 = 1 <;> by_cases h2 : s.f0 = 2 <;> cases h3 : s.f2 <;> by_cases h4 : o.f2 = 0 <;> cases h5 : keyB c o.f3 <;> cases h6 : keyB 1 o.f3 <;>
    simp [session_refuse.f, session_refuse.j0, session_refuse.j1, session_refuse.j2, session_refuse.j3, session_refuse.j4, session_refuse.j5, session_refuse.j6, h, h1, h2, h3, h4, h5, h6, hk1, hk2])
end Go.Proofs.YtiamkgoajkfofaaDoor.S
