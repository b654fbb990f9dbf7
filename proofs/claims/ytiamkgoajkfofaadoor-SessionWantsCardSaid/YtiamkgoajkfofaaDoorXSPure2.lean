/- What the row of this claim reaches. No condition. -/
import Derived.Test.YtiamkgoajkfofaaDoorXSPure
set_option linter.unusedVariables false
set_option linter.unusedSimpArgs false
namespace Go.Proofs.YtiamkgoajkfofaaDoor.S
open Go.RowKit Go.Proofs.YtiamkgoajkfofaaDoorW.PrintWords Go.Proofs.YtiamkgoajkfofaaDoorW.PrintLast Go.Proofs.YtiamkgoajkfofaaDoorW.PrintMore
def sameB (s t : S33) : Bool := s.f0 == t.f0 && (s.f1 == t.f1 && (s.f2 == t.f2 && (s.f3 == t.f3 && (opE s.f4 t.f4 && (s.f5 == t.f5 && (curEq s.f6 t.f6 && eqU s.f7 t.f7))))))
def Lens (s : S33) : Prop := s.f6.f1.length ≤ 1000 ∧ s.f6.f2.length ≤ 1000 ∧ s.f7.length ≤ 1000
theorem curEq_refl (c : S31) : curEq c c = true := by simp [curEq, kEq, eqS_refl, eqU_refl]
theorem opE_refl (o : S27) : opE o o = true := by simp [opE, kEq]
theorem sameB_refl (s : S33) : sameB s s = true := by simp [sameB, curEq_refl, opE_refl, eqU_refl]
def boxB (k : S25) : Bool := decide (k.f0 ≤ k.f1) && decide (k.f2 ≤ k.f3)
def keyB (c : Int) (k : S25) : Bool := boxB k && (decide (c = 1) || ((decide (c = 2) && (decide (k.f2 = 0) && decide (k.f3 = 0))) || (decide (c = 3) && (decide (k.f0 = k.f1) && decide (k.f2 = k.f3)))))
theorem box_v (k : S25) : key_box.f k.f0 k.f1 k.f2 k.f3 = some (boxB k) := by
  unfold key_box.f boxB
  by_cases h : k.f0 ≤ k.f1 <;> simp [h]
theorem rbox_v (k : S25) : gazetteerref09_Box.f k.f0 k.f1 k.f2 k.f3 = some (boxB k) := by
  unfold gazetteerref09_Box.f boxB
  by_cases h : k.f0 ≤ k.f1 <;> simp [h]
theorem key_v (c : Int) (k : S25) : key_Check.f c k.f0 k.f1 k.f2 k.f3 = some (if keyB c k = true then 0 else 2) := by
  unfold key_Check.f keyB
  rw [box_v]
  cases boxB k <;> by_cases c1 : c = 1 <;> by_cases c2 : c = 2 <;> by_cases c3 : c = 3 <;> by_cases k1 : k.f2 = 0 <;> by_cases k2 : k.f3 = 0 <;> by_cases k3 : k.f0 = k.f1 <;> by_cases k4 : k.f2 = k.f3 <;> simp_all
theorem rkey_v (c : Int) (k : S25) : gazetteerref09_Right.f c k.f0 k.f1 k.f2 k.f3 = some (keyB c k) := by
  unfold gazetteerref09_Right.f keyB
  rw [rbox_v]
  cases boxB k
  · simp
  by_cases c1 : c = 1
  · subst c1; simp
  by_cases c2 : c = 2
  · subst c2
    by_cases k1 : k.f2 = 0 <;> by_cases k2 : k.f3 = 0 <;> simp [k1, k2]
  by_cases c3 : c = 3
  · subst c3
    by_cases k3 : k.f0 = k.f1 <;> by_cases k4 : k.f2 = k.f3 <;> simp [k3, k4]
  have h : c < 1 ∨ c > 3 := by omega
  rcases h with h | h
  · simp [c1, c2, c3, h]
  · simp [c1, c2, c3, h]
def refuseF (st : Int) (rd : Bool) (c : Int) (o : S27) : Int :=
  if o.f0 < 1 ∨ 6 < o.f0 then 2 else if o.f0 = 1 ∧ st = 2 then 311 else if ¬ o.f0 = 1 ∧ st = 1 then 312 else if (o.f0 = 2 ∨ o.f0 = 3) ∧ rd = true then 315 else
  if (o.f0 = 2 ∨ o.f0 = 3) ∧ o.f2 = 0 then 2 else if (o.f0 = 2 ∧ keyB c o.f3 = false) ∨ (o.f0 = 4 ∧ keyB 1 o.f3 = false) then 314 else 0
def kindF (op part : Int) (rd : Bool) : Int := if op = 4 ∧ part = 2 ∧ rd = true then 0 else tabF op part
theorem seven (op : Int) : op = 1 ∨ op = 2 ∨ op = 3 ∨ op = 4 ∨ op = 5 ∨ op = 6 ∨ (op < 1 ∨ 6 < op) := by omega
theorem refuse_ev (s : S33) (c : Int) (o : S27) : Ev (fun n => session_refuse.f n s.f0 s.f1 s.f2 s.f3 s.f4.f0 s.f4.f1 s.f4.f2 s.f4.f3.f0 s.f4.f3.f1 s.f4.f3.f2 s.f4.f3.f3 s.f4.f4 s.f5 s.f6.f0.f0 s.f6.f0.f1 s.f6.f0.f2 s.f6.f0.f3 s.f6.f1 s.f6.f2 s.f7 c o.f0 o.f1 o.f2 o.f3.f0 o.f3.f1 o.f3.f2 o.f3.f3 o.f4) (refuseF s.f0 s.f2 c o) := Ev.now _
end Go.Proofs.YtiamkgoajkfofaaDoor.S
