/- What the row of this claim reaches. No condition. -/
import Derived.Test.YtknlbfandkmeiaaQMPure
set_option linter.unusedVariables false
set_option linter.unusedSimpArgs false
namespace Go.Proofs.Ytknlbfandkmeiaa.M
open Go.RowKit Go.Proofs.YtknlbfandkmeiaaW.PrintWords Go.Proofs.YtknlbfandkmeiaaW.PrintLast Go.Proofs.YtknlbfandkmeiaaW.PrintMore
theorem rmeets_ev (k : S36) (x : S51) : Ev (fun n => gazetteerref09_Meets.f n x.f1.f0 x.f1.f1 x.f1.f2 x.f1.f3 k.f0 k.f1 k.f2 k.f3) (meetB k x) := by
  have hm := meet_some k x
  refine ⟨3, fun n hn => ?_⟩
  obtain ⟨n, rfl⟩ : ∃ m, n = m + 3 := ⟨n - 3, by omega⟩
  rw [← hm]
  unfold key_Meets.f gazetteerref09_Meets.f
  rw [box_f, box_f, rbox_f, rbox_f]
  generalize x.f1.f0 = a0
  generalize x.f1.f1 = a1
  generalize x.f1.f2 = a2
  generalize x.f1.f3 = a3
  generalize k.f0 = b0
  generalize k.f1 = b1
  generalize k.f2 = b2
  generalize k.f3 = b3
  simp only [Option.bind_some]
  cases h1 : boxF a0 a1 a2 a3
  · rfl
  cases h2 : boxF b0 b1 b2 b3
  · rfl
  unfold boxF at h1 h2
  simp only [Bool.and_eq_true, decide_eq_true_eq] at h1 h2
  have e2 : (if true = true then (if true = true then (if a0 ≤ b1 then (if b0 ≤ a1 then (if a2 ≤ b3 then (some (decide (b2 ≤ a3))) else (some false)) else (some false)) else (some false)) else (some false)) else (some false)) = some (decide (a0 ≤ b1) && (decide (b0 ≤ a1) && (decide (a2 ≤ b3) && decide (b2 ≤ a3)))) := by
    by_cases c3 : a0 ≤ b1 <;> by_cases c4 : b0 ≤ a1 <;> by_cases c5 : a2 ≤ b3 <;> simp [c3, c4, c5]
  rw [e2]
  have j2 : ∀ n x5 x6, gazetteerref09_Meets.j2 (n + 1) x5 x6 a0 a1 a2 a3 b0 b1 b2 b3 = some ((decide (a0 ≤ x5) && decide (x5 ≤ a1)) && ((decide (b0 ≤ x5) && decide (x5 ≤ b1)) && ((decide (a2 ≤ x6) && decide (x6 ≤ a3)) && (decide (b2 ≤ x6) && decide (x6 ≤ b3))))) := fun n x5 x6 => by
    have hi : ∀ a b c, gazetteerref09_inside.f a b c = some (decide (a ≤ c) && decide (c ≤ b)) := fun a b c => by
      unfold gazetteerref09_inside.f
      by_cases h : a ≤ c <;> simp [h]
    rw [gazetteerref09_Meets.j2, hi, hi, hi, hi]
    cases (decide (a0 ≤ x5) && decide (x5 ≤ a1)) <;> cases (decide (b0 ≤ x5) && decide (x5 ≤ b1)) <;> cases (decide (a2 ≤ x6) && decide (x6 ≤ a3)) <;> rfl
  simp only [if_true, Bool.not_true]
  rw [gazetteerref09_Meets.j0, if_neg (by simp)]
  by_cases c1 : b0 > a0
  · rw [if_pos c1, gazetteerref09_Meets.j1]
    by_cases c2 : b2 > a2
    · rw [if_pos c2, j2]
      congr 1
      rw [Bool.eq_iff_iff]
      simp only [Bool.and_eq_true, decide_eq_true_eq]
      omega
    · rw [if_neg c2, j2]
      congr 1
      rw [Bool.eq_iff_iff]
      simp only [Bool.and_eq_true, decide_eq_true_eq]
      omega
  · rw [if_neg c1, gazetteerref09_Meets.j1]
    by_cases c2 : b2 > a2
    · rw [if_pos c2, j2]
      congr 1
      rw [Bool.eq_iff_iff]
      simp only [Bool.and_eq_true, decide_eq_true_eq]
      omega
    · rw [if_neg c2, j2]
      congr 1
      rw [Bool.eq_iff_iff]
      simp only [Bool.and_eq_true, decide_eq_true_eq]
      omega
theorem meets_loop (L : List S51) (k : S36) (hL : L.length ≤ 1000) : ∀ (rest : List S51) (i : Nat) (acc : List S51), L.drop i = rest → acc.length ≤ i → Ev (fun n => gazetteerref22_Meets.l0 n acc L (L.length : Int) (i : Int) k.f0 k.f1 k.f2 k.f3) (acc ++ rest.filter (meetB k))
  | [], i, acc, h, ha => by
    have hi := at_nil h
    refine Ev.ret fun n => ?_
    rw [gazetteerref22_Meets.l0, if_neg (by omega)]
    simp
  | x :: rest, i, acc, h, ha => by
    obtain ⟨hi, hx, hd⟩ := at_cons h
    have hw : wrap64 ((i : Int) + 1) = ((i + 1 : Nat) : Int) := by rw [wrap_up (by omega) (by omega)]; rfl
    have hm := rmeets_ev k x
    cases hp : meetB k x
    · have ih := meets_loop L k hL rest (i + 1) acc hd (by omega)
      rw [hp] at hm
      rw [List.filter_cons_of_neg (by simp [hp])]
      refine Ev.step (fun n => ?_) (Ev.bind (f := fun n t => if t = true then (if acc.length < 2932031007402 then gazetteerref22_Meets.l0 n (acc ++ [x]) L (L.length : Int) ((i + 1 : Nat) : Int) k.f0 k.f1 k.f2 k.f3 else none) else gazetteerref22_Meets.l0 n acc L (L.length : Int) ((i + 1 : Nat) : Int) k.f0 k.f1 k.f2 k.f3) hm ?_)
      · rw [gazetteerref22_Meets.l0, if_pos (by omega), if_pos (by omega), if_pos (by omega), hx, hw]
      · simpa using ih
    · have ih := meets_loop L k hL rest (i + 1) (acc ++ [x]) hd (by simp; omega)
      rw [hp] at hm
      rw [List.filter_cons_of_pos (by simp [hp]), ← List.singleton_append, ← List.append_assoc]
      refine Ev.step (fun n => ?_) (Ev.bind (f := fun n t => if t = true then (if acc.length < 2932031007402 then gazetteerref22_Meets.l0 n (acc ++ [x]) L (L.length : Int) ((i + 1 : Nat) : Int) k.f0 k.f1 k.f2 k.f3 else none) else gazetteerref22_Meets.l0 n acc L (L.length : Int) ((i + 1 : Nat) : Int) k.f0 k.f1 k.f2 k.f3) hm ?_)
      · rw [gazetteerref22_Meets.l0, if_pos (by omega), if_pos (by omega), if_pos (by omega), hx, hw]
      · have hc : acc.length < 2932031007402 := by omega
        simp only [if_true, hc]
        exact ih
theorem meets_ev {L : List S51} (k : S36) (hL : L.length ≤ 1000) : Ev (fun n => gazetteerref22_Meets.f n L k.f0 k.f1 k.f2 k.f3) (L.filter (meetB k)) := by
  have := meets_loop L k hL L 0 [] rfl (Nat.le_refl _)
  rwa [List.nil_append] at this
theorem same_loop (L : List S51) (hL : L.length ≤ 1000) : ∀ (rest : List S51) (i : Nat), L.drop i = rest → Ev (fun n => gazetteerref22_SameRows.l0 n L L (L.length : Int) (i : Int)) true
  | [], i, h => by
    have hi := at_nil h
    refine Ev.ret fun n => ?_
    rw [gazetteerref22_SameRows.l0, if_neg (by omega)]
  | x :: rest, i, h => by
    obtain ⟨hi, hx, hd⟩ := at_cons h
    have ih := same_loop L hL rest (i + 1) hd
    have hw : wrap64 ((i : Int) + 1) = ((i + 1 : Nat) : Int) := by rw [wrap_up (by omega) (by omega)]; rfl
    refine Ev.step (fun n => ?_) ih
    rw [gazetteerref22_SameRows.l0, if_pos (by omega), if_pos (by omega), if_pos (by omega), if_pos (by omega), hx, hw]
    simp
theorem same_ev {L : List S51} (hL : L.length ≤ 1000) : Ev (fun n => gazetteerref22_SameRows.f n L L) true := by
  have := same_loop L hL L 0 rfl
  refine Ev.congr (fun n => ?_) this
  rw [gazetteerref22_SameRows.f, if_pos rfl]
  rfl
end Go.Proofs.Ytknlbfandkmeiaa.M
