/- What the row of this claim reaches. No condition. -/
import Derived.Test.YtiamkgoajkfofaaDoorXSPure2
set_option linter.unusedVariables false
set_option linter.unusedSimpArgs false
namespace Go.Proofs.YtiamkgoajkfofaaDoor.S
open Go.RowKit Go.Proofs.YtiamkgoajkfofaaDoorW.PrintWords Go.Proofs.YtiamkgoajkfofaaDoorW.PrintLast Go.Proofs.YtiamkgoajkfofaaDoorW.PrintMore
def rz : Bool → Int → List Int → Bool
  | _, _, [] => true
  | first, prev, x :: xs => (!(x == 0) && (first || decide (prev < x))) && rz false x xs
def risesB (l : List Int) : Bool := rz true 0 l
def posL (l : List Int) (i : Nat) : Bool := rz (decide (i = 0)) (rd l ((i : Int) - 1)) (l.drop i)
theorem posL_zero (l : List Int) : posL l 0 = risesB l := by
  unfold posL risesB
  cases l <;> simp [rz]
theorem posL_end (l : List Int) (i : Nat) (h : l.length ≤ i) : posL l i = true := by unfold posL; rw [List.drop_eq_nil_of_le h]; rfl
theorem posL_next (l : List Int) (i : Nat) (h : i < l.length) : posL l i = ((!(rd l (i : Int) == 0) && (decide (i = 0) || decide (rd l ((i : Int) - 1) < rd l (i : Int)))) && posL l (i + 1)) := by
  unfold posL
  rw [dropU h, rz]
  have : ((i + 1 : Nat) : Int) - 1 = (i : Int) := by omega
  rw [this]
  simp
theorem rises_loop (l : List Int) (hn : l.length ≤ 1000) : ∀ (m i : Nat), i + m = l.length → Ev (fun n => session_rises_uint32.l0 n l 0 l (l.length : Int) (i : Int)) (posL l i)
  | 0, i, h => by
    rw [posL_end l i (by omega)]
    refine Ev.ret fun n => ?_
    rw [session_rises_uint32.l0, if_neg (by omega)]
  | m + 1, i, h => by
    have hw : wrap64 ((i : Int) + 1) = ((i + 1 : Nat) : Int) := by rw [wrap_up (by omega) (by omega)]; rfl
    have ih := rises_loop l hn m (i + 1) (by omega)
    rw [posL_next l i (by omega)]
    by_cases hx : rd l (i : Int) = 0
    · rw [beq_iff_eq.mpr hx]
      refine Ev.ret fun n => ?_
      rw [session_rises_uint32.l0, if_pos (by omega), if_pos (by omega), if_pos (by omega), if_pos hx]
      rfl
    · rw [beq_eq_false_iff_ne.mpr hx]
      by_cases h0 : i = 0
      · rw [decide_eq_true h0]
        simp only [Bool.not_false, Bool.true_or, Bool.true_and]
        refine Ev.step (fun n => ?_) ih
        rw [session_rises_uint32.l0, if_pos (by omega), if_pos (by omega), if_pos (by omega), if_neg hx, if_neg (by omega), hw]
      · have hd : wrap64 ((i : Int) - 1) = (i : Int) - 1 := wrap_dn (by omega) (by omega)
        rw [decide_eq_false h0]
        simp only [Bool.not_false, Bool.false_or, Bool.true_and]
        by_cases hy : rd l ((i : Int) - 1) < rd l (i : Int)
        · rw [decide_eq_true hy, Bool.true_and]
          refine Ev.step (fun n => ?_) ih
          rw [session_rises_uint32.l0, if_pos (by omega), if_pos (by omega), if_pos (by omega), if_neg hx, if_pos (by omega), hd, if_pos (by omega), if_pos (by omega), if_neg (by omega), hw]
        · rw [decide_eq_false hy, Bool.false_and]
          refine Ev.ret fun n => ?_
          rw [session_rises_uint32.l0, if_pos (by omega), if_pos (by omega), if_pos (by omega), if_neg hx, if_pos (by omega), hd, if_pos (by omega), if_pos (by omega), if_pos (by omega)]
theorem rises_ev (l : List Int) (hn : l.length ≤ 1000) : Ev (fun n => session_rises_uint32.f n l) (risesB l) := by
  rw [← posL_zero]
  exact rises_loop l hn l.length 0 (by omega)
theorem rrises_loop (l : List Int) (hn : l.length ≤ 1000) : ∀ (m i : Nat), i + m = l.length → Ev (fun n => gazetteerref21_Rises.l0 n l (i : Int)) (posL l i)
  | 0, i, h => by
    rw [posL_end l i (by omega)]
    refine Ev.ret fun n => ?_
    rw [gazetteerref21_Rises.l0, if_neg (by omega)]
  | m + 1, i, h => by
    have hw : wrap64 ((i : Int) + 1) = ((i + 1 : Nat) : Int) := by rw [wrap_up (by omega) (by omega)]; rfl
    have ih := rrises_loop l hn m (i + 1) (by omega)
    rw [posL_next l i (by omega)]
    by_cases hx : rd l (i : Int) = 0
    · rw [beq_iff_eq.mpr hx]
      refine Ev.ret fun n => ?_
      rw [gazetteerref21_Rises.l0, if_pos (by omega), if_pos (by omega), if_pos hx]
      rfl
    · rw [beq_eq_false_iff_ne.mpr hx]
      by_cases h0 : i = 0
      · rw [decide_eq_true h0]
        simp only [Bool.not_false, Bool.true_or, Bool.true_and]
        refine Ev.step (fun n => ?_) ih
        rw [gazetteerref21_Rises.l0, if_pos (by omega), if_pos (by omega), if_neg hx, if_neg (by omega), hw]
      · have hd : wrap64 ((i : Int) - 1) = (i : Int) - 1 := wrap_dn (by omega) (by omega)
        rw [decide_eq_false h0]
        simp only [Bool.not_false, Bool.false_or, Bool.true_and]
        by_cases hy : rd l ((i : Int) - 1) < rd l (i : Int)
        · rw [decide_eq_true hy, Bool.true_and]
          refine Ev.step (fun n => ?_) ih
          rw [gazetteerref21_Rises.l0, if_pos (by omega), if_pos (by omega), if_neg hx, if_pos (by omega), hd, if_pos (by omega), if_pos (by omega), if_neg (by omega), hw]
        · rw [decide_eq_false hy, Bool.false_and]
          refine Ev.ret fun n => ?_
          rw [gazetteerref21_Rises.l0, if_pos (by omega), if_pos (by omega), if_neg hx, if_pos (by omega), hd, if_pos (by omega), if_pos (by omega), if_pos (by omega)]
theorem rrises_ev (l : List Int) (hn : l.length ≤ 1000) : Ev (fun n => gazetteerref21_Rises.f n l) (risesB l) := by
  rw [← posL_zero]
  exact rrises_loop l hn l.length 0 (by omega)
def noZ (l : List S63) : Bool := l.all fun x => !(x.f0 == 0)
def curB (c : S31) : Bool := boxB c.f0 && (decide (c.f1.length ≤ 128) && (noZ c.f1 && risesB c.f2))
theorem rright_l1 (c : S31) (hn : c.f2.length ≤ 1000) : ∀ (m i : Nat), i + m = c.f2.length → Ev (fun n => gazetteerref13_Right.l1 n (i : Int) c.f0.f0 c.f0.f1 c.f0.f2 c.f0.f3 c.f1 c.f2) (posL c.f2 i)
  | 0, i, h => by
    rw [posL_end c.f2 i (by omega)]
    refine Ev.ret fun n => ?_
    rw [gazetteerref13_Right.l1, if_neg (by omega)]
  | m + 1, i, h => by
    have hw : wrap64 ((i : Int) + 1) = ((i + 1 : Nat) : Int) := by rw [wrap_up (by omega) (by omega)]; rfl
    have ih := rright_l1 c hn m (i + 1) (by omega)
    rw [posL_next c.f2 i (by omega)]
    by_cases hx : rd c.f2 (i : Int) = 0
    · rw [beq_iff_eq.mpr hx]
      refine Ev.ret fun n => ?_
      rw [gazetteerref13_Right.l1, if_pos (by omega), if_pos (by omega), if_pos hx]
      rfl
    · rw [beq_eq_false_iff_ne.mpr hx]
      by_cases h0 : i = 0
      · rw [decide_eq_true h0]
        simp only [Bool.not_false, Bool.true_or, Bool.true_and]
        refine Ev.step (fun n => ?_) ih
        rw [gazetteerref13_Right.l1, if_pos (by omega), if_pos (by omega), if_neg hx, if_neg (by omega), hw]
      · have hd : wrap64 ((i : Int) - 1) = (i : Int) - 1 := wrap_dn (by omega) (by omega)
        rw [decide_eq_false h0]
        simp only [Bool.not_false, Bool.false_or, Bool.true_and]
        by_cases hy : rd c.f2 ((i : Int) - 1) < rd c.f2 (i : Int)
        · rw [decide_eq_true hy, Bool.true_and]
          refine Ev.step (fun n => ?_) ih
          rw [gazetteerref13_Right.l1, if_pos (by omega), if_pos (by omega), if_neg hx, if_pos (by omega), hd, if_pos (by omega), if_pos (by omega), if_neg (by omega), hw]
        · rw [decide_eq_false hy, Bool.false_and]
          refine Ev.ret fun n => ?_
          rw [gazetteerref13_Right.l1, if_pos (by omega), if_pos (by omega), if_neg hx, if_pos (by omega), hd, if_pos (by omega), if_pos (by omega), if_pos (by omega)]
theorem rright_l0 (c : S31) (h1 : c.f1.length ≤ 1000) (h2 : c.f2.length ≤ 1000) : ∀ (m i : Nat), i + m = c.f1.length → Ev (fun n => gazetteerref13_Right.l0 n (i : Int) c.f0.f0 c.f0.f1 c.f0.f2 c.f0.f3 c.f1 c.f2) (noZ (c.f1.drop i) && risesB c.f2)
  | 0, i, h => by
    rw [List.drop_eq_nil_of_le (by omega), ← posL_zero]
    refine Ev.step (fun n => ?_) (rright_l1 c h2 c.f2.length 0 (by omega))
    rw [gazetteerref13_Right.l0, if_neg (by omega)]
    rfl
  | m + 1, i, h => by
    have hw : wrap64 ((i : Int) + 1) = ((i + 1 : Nat) : Int) := by rw [wrap_up (by omega) (by omega)]; rfl
    have ih := rright_l0 c h1 h2 m (i + 1) (by omega)
    have e : noZ (c.f1.drop i) = (!((rd_T63 c.f1 (i : Int)).f0 == 0) && noZ (c.f1.drop (i + 1))) := by
      rw [dropS (by omega : i < c.f1.length)]
      rfl
    rw [e]
    by_cases hx : (rd_T63 c.f1 (i : Int)).f0 = 0
    · rw [beq_iff_eq.mpr hx]
      refine Ev.ret fun n => ?_
      rw [gazetteerref13_Right.l0, if_pos (by omega), if_pos (by omega), if_pos hx]
      rfl
    · rw [beq_eq_false_iff_ne.mpr hx]
      simp only [Bool.not_false, Bool.true_and]
      refine Ev.step (fun n => ?_) ih
      rw [gazetteerref13_Right.l0, if_pos (by omega), if_pos (by omega), if_neg hx, hw]
theorem rright_ev (c : S31) (h1 : c.f1.length ≤ 1000) (h2 : c.f2.length ≤ 1000) : Ev (fun n => gazetteerref13_Right.f n c.f0.f0 c.f0.f1 c.f0.f2 c.f0.f3 c.f1 c.f2) (curB c) := by
  unfold curB
  have hb := rbox_v c.f0
  cases hx : boxB c.f0
  · rw [hx] at hb
    refine Ev.ret fun n => ?_
    simp [gazetteerref13_Right.f, hb, gazetteerref13_Right.j0]
  · rw [hx] at hb
    by_cases hl : c.f1.length ≤ 128
    · rw [decide_eq_true hl]
      simp only [Bool.true_and]
      refine Ev.step (fun n => ?_) (rright_l0 c h1 h2 c.f1.length 0 (by omega))
      simp only [gazetteerref13_Right.f, hb, Option.bind_some, if_true]
      rw [gazetteerref13_Right.j0, if_neg (by simp; omega)]
      rfl
    · rw [decide_eq_false hl]
      refine Ev.ret fun n => ?_
      simp only [gazetteerref13_Right.f, hb, Option.bind_some, if_true]
      rw [gazetteerref13_Right.j0, if_pos (by simp; omega)]
      rfl
theorem zeroAt_iff : ∀ (l : List S63) (i : Int), 0 ≤ i → ((0 ≤ zeroAt l i) ↔ noZ l = false)
  | [], i, h => by simp [zeroAt, noZ]
  | x :: xs, i, h => by
    unfold zeroAt
    by_cases hx : x.f0 = 0
    · rw [if_pos hx]
      simp [noZ, hx, h]
    · rw [if_neg hx, zeroAt_iff xs (i + 1) (by omega)]
      simp [noZ, hx]
theorem rd_memU {l : List Int} {i : Nat} (h : i < l.length) : rd l (i : Int) ∈ l := by
  have : rd l (i : Int) = l[i] := by
    unfold rd
    rw [Int.toNat_natCast, List.getD_eq_getElem?_getD, List.getElem?_eq_getElem h]
    rfl
  rw [this]
  exact List.getElem_mem h
theorem risesTo_pos (l : List Int) (hp : ∀ x ∈ l, 0 ≤ x) : ∀ (m i : Nat), i + m = l.length → risesTo l l.length = (risesTo l i && posL l i)
  | 0, i, h => by rw [posL_end l i (by omega), Bool.and_true, show i = l.length by omega]
  | m + 1, i, h => by
    rw [risesTo_pos l hp m (i + 1) (by omega), risesTo_next, posL_next l i (by omega), Bool.and_assoc]
    congr 1
    congr 1
    unfold risesAt
    congr 1
    have := hp _ (rd_memU (l := l) (i := i) (by omega))
    by_cases hx : rd l (i : Int) = 0
    · simp [hx]
    · rw [beq_eq_false_iff_ne.mpr hx, decide_eq_true (by omega)]
      rfl
theorem check_v (c : S31) (h1 : c.f1.length ≤ 1000) (h2 : c.f2.length ≤ 1000) (hp : ∀ x ∈ c.f2, 0 ≤ x) : cursor_Check.f c.f0.f0 c.f0.f1 c.f0.f2 c.f0.f3 c.f1 c.f2 = some (if curB c = true then 0 else 230) := by
  unfold cursor_Check.f curB
  rw [if_pos ⟨h1, h2⟩, key_v, Option.bind_some]
  have e1 : keyB 1 c.f0 = boxB c.f0 := by simp [keyB]
  have e2 : risesTo c.f2 c.f2.length = risesB c.f2 := by
    have := risesTo_pos c.f2 hp c.f2.length 0 (by omega)
    rw [posL_zero] at this
    rw [this]
    simp [risesTo]
  have e3 : decide (¬ 0 ≤ zeroAt c.f1 0) = noZ c.f1 := by
    have := zeroAt_iff c.f1 0 (Int.le_refl _)
    cases hz : noZ c.f1
    · rw [hz] at this
      exact decide_eq_false (by simpa using this.2 rfl)
    · rw [hz] at this
      refine decide_eq_true ?_
      simpa using this
  rw [e1, e2, e3]
  cases boxB c.f0 <;> simp [and_assoc]
def busyB (s : S33) (txn idle : Bool) : Bool :=
  (if s.f4.f0 = 1 then idle else txn) && (opE s.f4 (plainO s.f4) && (decide (refuseF (if s.f4.f0 = 1 then 1 else 2) (if s.f4.f0 = 1 then false else s.f2) 1 s.f4 = 0) && (decide (¬ kindF s.f4.f0 s.f5 s.f2 = 0) &&
    ((if s.f4.f0 = 4 ∧ s.f5 = 1 then curB s.f6 && kEq s.f6.f0 s.f4.f3 else curEq s.f6 z31) && (if s.f4.f0 = 4 ∧ s.f5 = 2 then decide (0 < s.f7.length) && risesB s.f7 else decide (s.f7.length = 0))))))
theorem none_ev (c : S31) (h1 : c.f1.length ≤ 1000) (h2 : c.f2.length ≤ 1000) : Ev (fun n => session_none.f n c.f0.f0 c.f0.f1 c.f0.f2 c.f0.f3 c.f1 c.f2) (curEq c z31) :=
  Ev.bind (f := fun _ b => some b) (cur_ev c z31 h1 h2) (Ev.now _)
theorem refuse_in {st : Int} {rd : Bool} {c : Int} {o : S27} (h : refuseF st rd c o = 0) : 1 ≤ o.f0 ∧ o.f0 ≤ 6 := by
  unfold refuseF at h
  by_cases hc : o.f0 < 1 ∨ 6 < o.f0
  · rw [if_pos hc] at h; cases h
  · omega
theorem tail_ev (s : S33) (hl : Lens s) (hp : ∀ x ∈ s.f6.f2, 0 ≤ x) : Ev (fun n => busyTail n s.f0 s.f1 s.f2 s.f3 s.f4.f0 s.f4.f1 s.f4.f2 s.f4.f3.f0 s.f4.f3.f1 s.f4.f3.f2 s.f4.f3.f3 s.f4.f4 s.f5 s.f6.f0.f0 s.f6.f0.f1 s.f6.f0.f2 s.f6.f0.f3 s.f6.f1 s.f6.f2 s.f7)
    ((if s.f4.f0 = 4 ∧ s.f5 = 1 then curB s.f6 && kEq s.f6.f0 s.f4.f3 else curEq s.f6 z31) && (if s.f4.f0 = 4 ∧ s.f5 = 2 then decide (0 < s.f7.length) && risesB s.f7 else decide (s.f7.length = 0))) := by
  have hb : Ev (fun n => if s.f4.f0 = 4 ∧ s.f5 = 1 then (cursor_Check.f s.f6.f0.f0 s.f6.f0.f1 s.f6.f0.f2 s.f6.f0.f3 s.f6.f1 s.f6.f2).bind fun e2 => some (decide (e2 = 0) && kEq s.f6.f0 s.f4.f3) else session_none.f n s.f6.f0.f0 s.f6.f0.f1 s.f6.f0.f2 s.f6.f0.f3 s.f6.f1 s.f6.f2) (if s.f4.f0 = 4 ∧ s.f5 = 1 then curB s.f6 && kEq s.f6.f0 s.f4.f3 else curEq s.f6 z31) := by
    by_cases c1 : s.f4.f0 = 4 ∧ s.f5 = 1
    · simp only [if_pos c1, check_v s.f6 hl.1 hl.2.1 hp, Option.bind_some]
      cases curB s.f6
      · exact Ev.now _
      · exact Ev.now _
    · simp only [if_neg c1]
      exact none_ev s.f6 hl.1 hl.2.1
  refine Ev.bind (f := fun n b => if b = true then (if s.f4.f0 = 4 ∧ s.f5 = 2 then (if 0 < s.f7.length then session_rises_uint32.f n s.f7 else some false) else some (decide (s.f7.length = 0))) else some false) hb ?_
  cases (if s.f4.f0 = 4 ∧ s.f5 = 1 then curB s.f6 && kEq s.f6.f0 s.f4.f3 else curEq s.f6 z31)
  · exact Ev.now false
  · simp only [if_true, Bool.true_and]
    by_cases c2 : s.f4.f0 = 4 ∧ s.f5 = 2
    · simp only [if_pos c2]
      by_cases c3 : 0 < s.f7.length
      · simp only [if_pos c3, decide_eq_true c3, Bool.true_and]
        exact rises_ev s.f7 hl.2.2
      · simp only [if_neg c3, decide_eq_false c3, Bool.false_and]
        exact Ev.now false
    · simp only [if_neg c2]
      exact Ev.now _
theorem busy_ev (s : S33) (txn idle : Bool) (hl : Lens s) (hp : ∀ x ∈ s.f6.f2, 0 ≤ x) : Ev (fun n => session_busy.f n s.f0 s.f1 s.f2 s.f3 s.f4.f0 s.f4.f1 s.f4.f2 s.f4.f3.f0 s.f4.f3.f1 s.f4.f3.f2 s.f4.f3.f3 s.f4.f4 s.f5 s.f6.f0.f0 s.f6.f0.f1 s.f6.f0.f2 s.f6.f0.f3 s.f6.f1 s.f6.f2 s.f7 txn idle) (busyB s txn idle) := by
  unfold busyB
  by_cases c0 : (if s.f4.f0 = 1 then idle else txn) = true
  case neg =>
    rw [Bool.eq_false_iff.mpr c0, Bool.false_and]
    exact Ev.congr (fun n => by unfold session_busy.f busyF; exact if_neg c0) (Ev.now false)
  rw [c0, Bool.true_and]
  by_cases c1 : opE s.f4 (plainO s.f4) = true
  case neg =>
    rw [Bool.eq_false_iff.mpr c1, Bool.false_and]
    refine Ev.congr (fun n => ?_) (Ev.now false)
    unfold session_busy.f busyF
    refine (if_pos c0).trans ?_
    exact if_neg c1
  rw [c1, Bool.true_and]
  have hr := refuse_ev ⟨if s.f4.f0 = 1 then 1 else 2, 0, if s.f4.f0 = 1 then false else s.f2, 0, z27, 0, z31, []⟩ 1 s.f4
  have hf : ∀ n, session_busy.f n s.f0 s.f1 s.f2 s.f3 s.f4.f0 s.f4.f1 s.f4.f2 s.f4.f3.f0 s.f4.f3.f1 s.f4.f3.f2 s.f4.f3.f3 s.f4.f4 s.f5 s.f6.f0.f0 s.f6.f0.f1 s.f6.f0.f2 s.f6.f0.f3 s.f6.f1 s.f6.f2 s.f7 txn idle = (session_refuse.f n (if s.f4.f0 = 1 then 1 else 2) 0 (if s.f4.f0 = 1 then false else s.f2) 0 0 false 0 0 0 0 0 0 0 0 0 0 0 [] [] [] 1 s.f4.f0 s.f4.f1 s.f4.f2 s.f4.f3.f0 s.f4.f3.f1 s.f4.f3.f2 s.f4.f3.f3 s.f4.f4).bind fun e => if e = 0 then
        if s.f5 < 0 ∨ 3 < s.f5 then some false else
        if 0 ≤ s.f4.f0 ∧ s.f4.f0 < 7 then (if tabF s.f4.f0 s.f5 = 0 then some false else if s.f4.f0 = 4 ∧ s.f5 = 2 ∧ s.f2 = true then some false else busyTail n s.f0 s.f1 s.f2 s.f3 s.f4.f0 s.f4.f1 s.f4.f2 s.f4.f3.f0 s.f4.f3.f1 s.f4.f3.f2 s.f4.f3.f3 s.f4.f4 s.f5 s.f6.f0.f0 s.f6.f0.f1 s.f6.f0.f2 s.f6.f0.f3 s.f6.f1 s.f6.f2 s.f7) else none
      else some false := fun n => by
    unfold session_busy.f busyF
    refine (if_pos c0).trans ?_
    exact if_pos c1
  refine Ev.congr hf ?_
  refine Ev.bind (f := fun n e => if e = 0 then
        if s.f5 < 0 ∨ 3 < s.f5 then some false else
        if 0 ≤ s.f4.f0 ∧ s.f4.f0 < 7 then (if tabF s.f4.f0 s.f5 = 0 then some false else if s.f4.f0 = 4 ∧ s.f5 = 2 ∧ s.f2 = true then some false else busyTail n s.f0 s.f1 s.f2 s.f3 s.f4.f0 s.f4.f1 s.f4.f2 s.f4.f3.f0 s.f4.f3.f1 s.f4.f3.f2 s.f4.f3.f3 s.f4.f4 s.f5 s.f6.f0.f0 s.f6.f0.f1 s.f6.f0.f2 s.f6.f0.f3 s.f6.f1 s.f6.f2 s.f7) else none
      else some false) hr ?_
  show Ev (fun n => if refuseF (if s.f4.f0 = 1 then 1 else 2) (if s.f4.f0 = 1 then false else s.f2) 1 s.f4 = 0 then _ else _) _
  by_cases c2 : refuseF (if s.f4.f0 = 1 then 1 else 2) (if s.f4.f0 = 1 then false else s.f2) 1 s.f4 = 0
  case neg =>
    rw [decide_eq_false c2, Bool.false_and]
    simp only [if_neg c2]
    exact Ev.now false
  have hin := refuse_in c2
  rw [decide_eq_true c2, Bool.true_and]
  simp only [if_pos c2]
  have hin2 : 0 ≤ s.f4.f0 ∧ s.f4.f0 < 7 := by omega
  by_cases c3 : s.f5 < 0 ∨ 3 < s.f5
  · have : kindF s.f4.f0 s.f5 s.f2 = 0 := by
      unfold kindF tabF
      have n0 : ¬ s.f5 = 0 := by omega
      have n1 : ¬ s.f5 = 1 := by omega
      have n2 : ¬ s.f5 = 2 := by omega
      have n3 : ¬ s.f5 = 3 := by omega
      simp [n0, n1, n2, n3]
    simp only [if_pos c3, this, not_true, decide_false, Bool.false_and]
    exact Ev.now false
  simp only [if_neg c3, if_pos hin2]
  by_cases c4 : tabF s.f4.f0 s.f5 = 0
  · have : kindF s.f4.f0 s.f5 s.f2 = 0 := by
      unfold kindF
      rw [c4]
      split <;> rfl
    simp only [if_pos c4, this, not_true, decide_false, Bool.false_and]
    exact Ev.now false
  simp only [if_neg c4]
  by_cases c5 : s.f4.f0 = 4 ∧ s.f5 = 2 ∧ s.f2 = true
  · have : kindF s.f4.f0 s.f5 s.f2 = 0 := by
      unfold kindF
      rw [if_pos c5]
    simp only [if_pos c5, this, not_true, decide_false, Bool.false_and]
    exact Ev.now false
  have c6 : ¬ kindF s.f4.f0 s.f5 s.f2 = 0 := by
    unfold kindF
    rwa [if_neg c5]
  simp only [if_neg c5, decide_eq_true c6, Bool.true_and]
  exact tail_ev s hl hp
def txnB (s : S33) : Bool := decide (0 < s.f1) && (s.f2 || s.f3 == 0)
def idleB (s : S33) : Bool := (s.f1 == 0) && ((!s.f2) && (s.f3 == 0))
def bareB (s : S33) : Bool := opE s.f4 z27 && ((s.f5 == 0) && (curEq s.f6 z31 && decide (s.f7.length = 0)))
def mayB (s : S33) : Bool := if s.f0 = 1 then idleB s && bareB s else if s.f0 = 2 then txnB s && bareB s else if s.f0 = 3 then busyB s (txnB s) (idleB s) else false
theorem bare_ev (s : S33) (hl : Lens s) : Ev (fun n => session_bare.f n s.f0 s.f1 s.f2 s.f3 s.f4.f0 s.f4.f1 s.f4.f2 s.f4.f3.f0 s.f4.f3.f1 s.f4.f3.f2 s.f4.f3.f3 s.f4.f4 s.f5 s.f6.f0.f0 s.f6.f0.f1 s.f6.f0.f2 s.f6.f0.f3 s.f6.f1 s.f6.f2 s.f7) (bareB s) := by
  unfold bareB
  have e : (s.f4.f0 == 0 && (!s.f4.f1 && (s.f4.f2 == 0 && ((s.f4.f3.f0 == 0 && (s.f4.f3.f1 == 0 && (s.f4.f3.f2 == 0 && (s.f4.f3.f3 == 0)))) && (s.f4.f4 == 0))))) = opE s.f4 z27 := by
    unfold opE kEq z27 z25
    cases s.f4.f1 <;> rfl
  cases h : opE s.f4 z27
  · rw [h] at e
    refine Ev.congr (fun n => ?_) (Ev.now false)
    rw [session_bare.f, e]
    rfl
  · rw [h] at e
    by_cases h5 : s.f5 = 0
    · rw [beq_iff_eq.mpr h5]
      simp only [Bool.true_and]
      refine Ev.congr (f := fun n => (session_none.f n s.f6.f0.f0 s.f6.f0.f1 s.f6.f0.f2 s.f6.f0.f3 s.f6.f1 s.f6.f2).bind fun b => if b = true then some ((s.f7.length : Int) == 0) else some false) (fun n => by rw [session_bare.f, e, if_pos rfl, if_pos h5]) ?_
      refine Ev.bind (f := fun _ b => if b = true then some ((s.f7.length : Int) == 0) else some false) (none_ev s.f6 hl.1 hl.2.1) ?_
      cases curEq s.f6 z31
      · exact Ev.now false
      · have : ((s.f7.length : Int) == 0) = decide (s.f7.length = 0) := by
          by_cases hz : s.f7.length = 0
          · simp [hz]
          · rw [decide_eq_false hz, beq_eq_false_iff_ne.mpr (by omega)]
        simp only [if_true, Bool.true_and, this]
        exact Ev.now _
    · rw [beq_eq_false_iff_ne.mpr h5]
      refine Ev.congr (fun n => ?_) (Ev.now false)
      rw [session_bare.f, e, if_pos rfl, if_neg h5]
end Go.Proofs.YtiamkgoajkfofaaDoor.S
