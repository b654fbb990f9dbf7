/- What the row of this claim reaches. No condition. -/
import Derived.Test.YtknlbfandkmeiaaUMPure
set_option linter.unusedVariables false
set_option linter.unusedSimpArgs false
namespace Go.Proofs.Ytknlbfandkmeiaa.M
open Go.RowKit Go.Proofs.YtknlbfandkmeiaaW.PrintWords Go.Proofs.YtknlbfandkmeiaaW.PrintLast Go.Proofs.YtknlbfandkmeiaaW.PrintMore
theorem any_th (row : Int) : ∀ (L : List S51), riseR L → (L.any fun x => decide (x.f0 = row)) = thR L row
  | [], _ => rfl
  | x :: xs, h => by
    unfold riseR at h
    obtain ⟨h1, h2⟩ := List.pairwise_cons.1 h
    rw [List.any_cons, thR]
    by_cases hlt : x.f0 < row
    · rw [if_pos hlt, ← any_th row xs h2]
      have : ¬ x.f0 = row := by omega
      simp [this]
    · rw [if_neg hlt]
      by_cases he : x.f0 = row
      · simp [he]
      · have : (xs.any fun x => decide (x.f0 = row)) = false := by
          rw [List.any_eq_false]
          intro y hy
          have := h1 y hy
          simp
          omega
        rw [this]
        simp
def insF (x : S51) : List S51 → List S51
  | [] => [x]
  | y :: ys => if y.f0 > x.f0 then x :: y :: ys else y :: insF x ys
theorem ins_take (x : S51) : ∀ L : List S51, riseR L → thR L x.f0 = false → insF x L = L.take (loR L x.f0) ++ [x] ++ L.drop (loR L x.f0)
  | [], _, _ => rfl
  | y :: ys, hr, ht => by
    unfold riseR at hr
    obtain ⟨h1, h2⟩ := List.pairwise_cons.1 hr
    unfold thR at ht
    unfold insF loR
    by_cases hlt : y.f0 < x.f0
    · rw [if_pos hlt] at ht ⊢
      rw [if_neg (by omega), ins_take x ys h2 ht]
      simp
    · rw [if_neg hlt] at ht ⊢
      have : ¬ y.f0 = x.f0 := by simpa using ht
      rw [if_pos (by omega)]
      simp
theorem del_take (row : Int) : ∀ L : List S51, riseR L → thR L row = true → (L.filter fun x => decide (¬ x.f0 = row)) = L.take (loR L row) ++ L.drop (loR L row + 1)
  | [], _, ht => by simp [thR] at ht
  | y :: ys, hr, ht => by
    unfold riseR at hr
    obtain ⟨h1, h2⟩ := List.pairwise_cons.1 hr
    unfold thR at ht
    unfold loR
    by_cases hlt : y.f0 < row
    · rw [if_pos hlt] at ht ⊢
      rw [List.filter_cons_of_pos (by simp; omega), del_take row ys h2 ht]
      simp
    · rw [if_neg hlt] at ht ⊢
      have he : y.f0 = row := by simpa using ht
      rw [List.filter_cons_of_neg (by simp [he]), List.filter_eq_self.2 (fun z hz => by have := h1 z hz; simp; omega)]
      simp
theorem del_none (row : Int) (L : List S51) (h : ∀ x ∈ L, ¬ x.f0 = row) : (L.filter fun x => decide (¬ x.f0 = row)) = L :=
  List.filter_eq_self.2 fun x hx => by simpa using h x hx
theorem mem_ins {x y : S51} : ∀ {L : List S51}, y ∈ insF x L → y = x ∨ y ∈ L
  | [], h => by simpa [insF] using h
  | z :: zs, h => by
    unfold insF at h
    split at h
    · simpa using h
    · rcases List.mem_cons.1 h with h | h
      · exact .inr (by simp [h])
      · rcases mem_ins h with h | h
        · exact .inl h
        · exact .inr (by simp [h])
theorem rise_ins {x : S51} : ∀ {L : List S51}, riseR L → (∀ y ∈ L, ¬ y.f0 = x.f0) → riseR (insF x L)
  | [], _, _ => by simp [insF, riseR]
  | z :: zs, hr, hne => by
    unfold riseR at hr
    obtain ⟨h1, h2⟩ := List.pairwise_cons.1 hr
    unfold insF
    split
    · rename_i hz
      unfold riseR
      rw [List.pairwise_cons]
      refine ⟨fun y hy => ?_, hr⟩
      rcases List.mem_cons.1 hy with rfl | hy
      · omega
      · have := h1 y hy
        omega
    · rename_i hz
      unfold riseR
      rw [List.pairwise_cons]
      refine ⟨fun y hy => ?_, rise_ins h2 (fun y hy => hne y (by simp [hy]))⟩
      rcases mem_ins hy with rfl | hy
      · have := hne z (by simp)
        omega
      · exact h1 y hy
theorem ins_length (x : S51) : ∀ L : List S51, (insF x L).length = L.length + 1
  | [] => rfl
  | z :: zs => by
    unfold insF
    split
    · simp
    · simp [ins_length x zs]
theorem th_any {row : Int} {L : List S51} (hr : riseR L) : thR L row = false ↔ ∀ y ∈ L, ¬ y.f0 = row := by
  rw [← any_th row L hr, List.any_eq_false]
  simp
end Go.Proofs.Ytknlbfandkmeiaa.M
