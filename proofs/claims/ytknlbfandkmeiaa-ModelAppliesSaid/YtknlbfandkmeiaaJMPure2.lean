/- What the row of this claim reaches. No condition. -/
import Derived.Test.YtknlbfandkmeiaaJMPure
set_option linter.unusedVariables false
set_option linter.unusedSimpArgs false
namespace Go.Proofs.Ytknlbfandkmeiaa.M
open Go.RowKit Go.Proofs.YtknlbfandkmeiaaW.PrintWords Go.Proofs.YtknlbfandkmeiaaW.PrintLast Go.Proofs.YtknlbfandkmeiaaW.PrintMore
theorem there_loop (L : List S51) (row : Int) (hL : L.length ≤ 1000) : ∀ (rest : List S51) (i : Nat), L.drop i = rest → Ev (fun k => gazetteerref22_There.l0 k row L (L.length : Int) (i : Int)) (rest.any fun x => decide (x.f0 = row))
  | [], i, h => by
    have hi := at_nil h
    refine Ev.ret fun k => ?_
    rw [gazetteerref22_There.l0, if_neg (by omega)]
    rfl
  | x :: rest, i, h => by
    obtain ⟨hi, hx, hd⟩ := at_cons h
    have ih := there_loop L row hL rest (i + 1) hd
    have hw : wrap64 ((i : Int) + 1) = ((i + 1 : Nat) : Int) := by rw [wrap_up (by omega) (by omega)]; rfl
    rw [List.any_cons]
    by_cases h1 : x.f0 = row
    · have e : (decide (x.f0 = row) || rest.any fun x => decide (x.f0 = row)) = true := by simp [h1]
      rw [e]
      refine Ev.ret fun k => ?_
      rw [gazetteerref22_There.l0, if_pos (by omega), if_pos (by omega), if_pos (by omega), hx, if_pos h1]
    · have e : (decide (x.f0 = row) || rest.any fun x => decide (x.f0 = row)) = rest.any fun x => decide (x.f0 = row) := by simp [h1]
      rw [e]
      refine Ev.step (fun k => ?_) ih
      rw [gazetteerref22_There.l0, if_pos (by omega), if_pos (by omega), if_pos (by omega), hx, if_neg h1, hw]
theorem any_th (row : Int) : ∀ (L : List S51), riseR L → (L.any fun x => decide (x.f0 = row)) = thR L row
  | [], _ => rfl
  | x :: xs, h => by
    unfold riseR at h
    obtain ⟨h1, h2⟩ := List.pairwise_cons.1 h
    rw [List.any_cons, thR]
    by_cases hlt : x.f0 < row
    · rw [if_pos hlt, ← any_th row xs h2]
      have : ¬ x.f0 = row := by omega
      simp [this]
    · rw [if_neg hlt]
      by_cases he : x.f0 = row
      · simp [he]
      · have : (xs.any fun x => decide (x.f0 = row)) = false := by
          rw [List.any_eq_false]
          intro y hy
          have := h1 y hy
          simp
          omega
        rw [this]
        simp
theorem there_ev {L : List S51} (row : Int) (hL : L.length ≤ 1000) (hr : riseR L) : Ev (fun k => gazetteerref22_There.f k L row) (thR L row) := by
  rw [← any_th row L hr]
  exact there_loop L row hL L 0 rfl
theorem without_loop (L : List S51) (row : Int) (hL : L.length ≤ 1000) : ∀ (rest : List S51) (i : Nat) (acc : List S51), L.drop i = rest → acc.length ≤ i → Ev (fun k => gazetteerref22_without.l0 k row L (L.length : Int) (i : Int) acc) (acc ++ rest.filter fun x => decide (¬ x.f0 = row))
  | [], i, acc, h, ha => by
    have hi := at_nil h
    refine Ev.ret fun k => ?_
    rw [gazetteerref22_without.l0, if_neg (by omega)]
    simp
  | x :: rest, i, acc, h, ha => by
    obtain ⟨hi, hx, hd⟩ := at_cons h
    have hw : wrap64 ((i : Int) + 1) = ((i + 1 : Nat) : Int) := by rw [wrap_up (by omega) (by omega)]; rfl
    by_cases h1 : x.f0 = row
    · have ih := without_loop L row hL rest (i + 1) acc hd (by omega)
      rw [List.filter_cons_of_neg (by simp [h1])]
      refine Ev.step (fun k => ?_) ih
      rw [gazetteerref22_without.l0, if_pos (by omega), if_pos (by omega), if_pos (by omega), hx, if_pos h1, hw]
    · have ih := without_loop L row hL rest (i + 1) (acc ++ [x]) hd (by simp; omega)
      rw [List.filter_cons_of_pos (by simp [h1]), ← List.singleton_append, ← List.append_assoc]
      refine Ev.step (fun k => ?_) ih
      rw [gazetteerref22_without.l0, if_pos (by omega), if_pos (by omega), if_pos (by omega), hx, if_neg h1, if_pos (by omega), hw]
theorem without_ev {L : List S51} (row : Int) (hL : L.length ≤ 1000) : Ev (fun k => gazetteerref22_without.f k L row) (L.filter fun x => decide (¬ x.f0 = row)) := by
  have := without_loop L row hL L 0 [] rfl (Nat.le_refl _)
  rwa [List.nil_append] at this
def insF (x : S51) : List S51 → List S51
  | [] => [x]
  | y :: ys => if y.f0 > x.f0 then x :: y :: ys else y :: insF x ys
theorem with_loop (L : List S51) (x : S51) (hL : L.length ≤ 1000) : ∀ (rest : List S51) (i : Nat) (acc : List S51) (done : Bool), L.drop i = rest → i ≤ L.length → acc.length ≤ i + 1 → (done = false → acc.length ≤ i) → Ev (fun k => gazetteerref22_with.l0 k done L (L.length : Int) (i : Int) x.f0 x.f1.f0 x.f1.f1 x.f1.f2 x.f1.f3 x.f2 acc) (acc ++ (if done = true then rest else insF x rest))
  | [], i, acc, done, h, hm, ha, hf => by
    have hi := at_nil h
    refine Ev.ret fun k => ?_
    rw [gazetteerref22_with.l0, if_neg (by omega)]
    cases done
    · rw [if_neg (by simp), if_pos (show acc.length < 2932031007402 by omega)]
      rfl
    · simp
  | y :: rest, i, acc, done, h, hm, ha, hf => by
    obtain ⟨hi, hx, hd⟩ := at_cons h
    have hw : wrap64 ((i : Int) + 1) = ((i + 1 : Nat) : Int) := by rw [wrap_up (by omega) (by omega)]; rfl
    cases done
    · rw [if_neg (by simp), insF]
      by_cases h1 : y.f0 > x.f0
      · have ih := with_loop L x hL rest (i + 1) ((acc ++ [x]) ++ [y]) true hd (by omega) (by have := hf rfl; simp; omega) (fun e => by cases e)
        rw [if_pos h1]
        rw [if_pos rfl] at ih
        have e : acc ++ x :: y :: rest = acc ++ [x] ++ [y] ++ rest := by simp
        rw [e]
        refine Ev.step (fun k => ?_) ih
        rw [gazetteerref22_with.l0, if_pos (by omega), if_pos (by omega), if_pos (by omega), if_neg (by simp), hx, if_pos h1, if_pos (by omega), Option.bind_some, if_pos (by simp; omega), hw]
      · have ih := with_loop L x hL rest (i + 1) (acc ++ [y]) false hd (by omega) (by simp; omega) (fun _ => by have := hf rfl; simp; omega)
        rw [if_neg h1]
        rw [if_neg (by simp)] at ih
        have e : acc ++ y :: insF x rest = acc ++ [y] ++ insF x rest := by simp
        rw [e]
        refine Ev.step (fun k => ?_) ih
        rw [gazetteerref22_with.l0, if_pos (by omega), if_pos (by omega), if_pos (by omega), if_neg (by simp), hx, if_neg h1, if_pos (by omega), hw]
    · have ih := with_loop L x hL rest (i + 1) (acc ++ [y]) true hd (by omega) (by simp; omega) (fun e => by cases e)
      rw [if_pos rfl] at ih ⊢
      have e : acc ++ y :: rest = acc ++ [y] ++ rest := by simp
      rw [e]
      refine Ev.step (fun k => ?_) ih
      rw [gazetteerref22_with.l0, if_pos (by omega), if_pos (by omega), if_pos (by omega), if_pos rfl, hx, if_pos (by omega), hw]
theorem with_ev {L : List S51} (x : S51) (hL : L.length ≤ 1000) : Ev (fun k => gazetteerref22_with.f k L x.f0 x.f1.f0 x.f1.f1 x.f1.f2 x.f1.f3 x.f2) (insF x L) := by
  have := with_loop L x hL L 0 [] false rfl (Nat.zero_le _) (by simp) (fun _ => Nat.le_refl _)
  rw [List.nil_append, if_neg (by simp)] at this
  exact this
theorem ins_take (x : S51) : ∀ L : List S51, riseR L → thR L x.f0 = false → insF x L = L.take (loR L x.f0) ++ [x] ++ L.drop (loR L x.f0)
  | [], _, _ => rfl
  | y :: ys, hr, ht => by
    unfold riseR at hr
    obtain ⟨h1, h2⟩ := List.pairwise_cons.1 hr
    unfold thR at ht
    unfold insF loR
    by_cases hlt : y.f0 < x.f0
    · rw [if_pos hlt] at ht ⊢
      rw [if_neg (by omega), ins_take x ys h2 ht]
      simp
    · rw [if_neg hlt] at ht ⊢
      have : ¬ y.f0 = x.f0 := by simpa using ht
      rw [if_pos (by omega)]
      simp
theorem del_take (row : Int) : ∀ L : List S51, riseR L → thR L row = true → (L.filter fun x => decide (¬ x.f0 = row)) = L.take (loR L row) ++ L.drop (loR L row + 1)
  | [], _, ht => by simp [thR] at ht
  | y :: ys, hr, ht => by
    unfold riseR at hr
    obtain ⟨h1, h2⟩ := List.pairwise_cons.1 hr
    unfold thR at ht
    unfold loR
    by_cases hlt : y.f0 < row
    · rw [if_pos hlt] at ht ⊢
      rw [List.filter_cons_of_pos (by simp; omega), del_take row ys h2 ht]
      simp
    · rw [if_neg hlt] at ht ⊢
      have he : y.f0 = row := by simpa using ht
      rw [List.filter_cons_of_neg (by simp [he]), List.filter_eq_self.2 (fun z hz => by have := h1 z hz; simp; omega)]
      simp
theorem del_none (row : Int) (L : List S51) (h : ∀ x ∈ L, ¬ x.f0 = row) : (L.filter fun x => decide (¬ x.f0 = row)) = L :=
  List.filter_eq_self.2 fun x hx => by simpa using h x hx
theorem mem_ins {x y : S51} : ∀ {L : List S51}, y ∈ insF x L → y = x ∨ y ∈ L
  | [], h => by simpa [insF] using h
  | z :: zs, h => by
    unfold insF at h
    split at h
    · simpa using h
    · rcases List.mem_cons.1 h with h | h
      · exact .inr (by simp [h])
      · rcases mem_ins h with h | h
        · exact .inl h
        · exact .inr (by simp [h])
theorem rise_ins {x : S51} : ∀ {L : List S51}, riseR L → (∀ y ∈ L, ¬ y.f0 = x.f0) → riseR (insF x L)
  | [], _, _ => by simp [insF, riseR]
  | z :: zs, hr, hne => by
    unfold riseR at hr
    obtain ⟨h1, h2⟩ := List.pairwise_cons.1 hr
    unfold insF
    split
    · rename_i hz
      unfold riseR
      rw [List.pairwise_cons]
      refine ⟨fun y hy => ?_, hr⟩
      rcases List.mem_cons.1 hy with rfl | hy
      · omega
      · have := h1 y hy
        omega
    · rename_i hz
      unfold riseR
      rw [List.pairwise_cons]
      refine ⟨fun y hy => ?_, rise_ins h2 (fun y hy => hne y (by simp [hy]))⟩
      rcases mem_ins hy with rfl | hy
      · have := hne z (by simp)
        omega
      · exact h1 y hy
theorem ins_length (x : S51) : ∀ L : List S51, (insF x L).length = L.length + 1
  | [] => rfl
  | z :: zs => by
    unfold insF
    split
    · simp
    · simp [ins_length x zs]
theorem th_any {row : Int} {L : List S51} (hr : riseR L) : thR L row = false ↔ ∀ y ∈ L, ¬ y.f0 = row := by
  rw [← any_th row L hr, List.any_eq_false]
  simp
theorem rmeets_ev (k : S36) (x : S51) : Ev (fun n => gazetteerref09_Meets.f n x.f1.f0 x.f1.f1 x.f1.f2 x.f1.f3 k.f0 k.f1 k.f2 k.f3) (meetB k x) := by
  have hm := meet_some k x
  refine ⟨3, fun n hn => ?_⟩
  obtain ⟨n, rfl⟩ : ∃ m, n = m + 3 := ⟨n - 3, by omega⟩
  rw [← hm]
  unfold key_Meets.f gazetteerref09_Meets.f
  rw [box_f, box_f, rbox_f, rbox_f]
  generalize x.f1.f0 = a0
  generalize x.f1.f1 = a1
  generalize x.f1.f2 = a2
  generalize x.f1.f3 = a3
  generalize k.f0 = b0
  generalize k.f1 = b1
  generalize k.f2 = b2
  generalize k.f3 = b3
  simp only [Option.bind_some]
  cases h1 : boxF a0 a1 a2 a3
  · rfl
  cases h2 : boxF b0 b1 b2 b3
  · rfl
  unfold boxF at h1 h2
  simp only [Bool.and_eq_true, decide_eq_true_eq] at h1 h2
  have e2 : (if true = true then (if true = true then (if a0 ≤ b1 then (if b0 ≤ a1 then (if a2 ≤ b3 then (some (decide (b2 ≤ a3))) else (some false)) else (some false)) else (some false)) else (some false)) else (some false)) = some (decide (a0 ≤ b1) && (decide (b0 ≤ a1) && (decide (a2 ≤ b3) && decide (b2 ≤ a3)))) := by
    by_cases c3 : a0 ≤ b1 <;> by_cases c4 : b0 ≤ a1 <;> by_cases c5 : a2 ≤ b3 <;> simp [c3, c4, c5]
  rw [e2]
  have j2 : ∀ n x5 x6, gazetteerref09_Meets.j2 (n + 1) x5 x6 a0 a1 a2 a3 b0 b1 b2 b3 = some ((decide (a0 ≤ x5) && decide (x5 ≤ a1)) && ((decide (b0 ≤ x5) && decide (x5 ≤ b1)) && ((decide (a2 ≤ x6) && decide (x6 ≤ a3)) && (decide (b2 ≤ x6) && decide (x6 ≤ b3))))) := fun n x5 x6 => by
    have hi : ∀ a b c, gazetteerref09_inside.f a b c = some (decide (a ≤ c) && decide (c ≤ b)) := fun a b c => by
      unfold gazetteerref09_inside.f
      by_cases h : a ≤ c <;> simp [h]
    rw [gazetteerref09_Meets.j2, hi, hi, hi, hi]
    cases (decide (a0 ≤ x5) && decide (x5 ≤ a1)) <;> cases (decide (b0 ≤ x5) && decide (x5 ≤ b1)) <;> cases (decide (a2 ≤ x6) && decide (x6 ≤ a3)) <;> rfl
  simp only [if_true, Bool.not_true]
  rw [gazetteerref09_Meets.j0, if_neg (by simp)]
  by_cases c1 : b0 > a0
  · rw [if_pos c1, gazetteerref09_Meets.j1]
    by_cases c2 : b2 > a2
    · rw [if_pos c2, j2]
      congr 1
      rw [Bool.eq_iff_iff]
      simp only [Bool.and_eq_true, decide_eq_true_eq]
      omega
    · rw [if_neg c2, j2]
      congr 1
      rw [Bool.eq_iff_iff]
      simp only [Bool.and_eq_true, decide_eq_true_eq]
      omega
  · rw [if_neg c1, gazetteerref09_Meets.j1]
    by_cases c2 : b2 > a2
    · rw [if_pos c2, j2]
      congr 1
      rw [Bool.eq_iff_iff]
      simp only [Bool.and_eq_true, decide_eq_true_eq]
      omega
    · rw [if_neg c2, j2]
      congr 1
      rw [Bool.eq_iff_iff]
      simp only [Bool.and_eq_true, decide_eq_true_eq]
      omega
theorem meets_loop (L : List S51) (k : S36) (hL : L.length ≤ 1000) : ∀ (rest : List S51) (i : Nat) (acc : List S51), L.drop i = rest → acc.length ≤ i → Ev (fun n => gazetteerref22_Meets.l0 n acc L (L.length : Int) (i : Int) k.f0 k.f1 k.f2 k.f3) (acc ++ rest.filter (meetB k))
  | [], i, acc, h, ha => by
    have hi := at_nil h
    refine Ev.ret fun n => ?_
    rw [gazetteerref22_Meets.l0, if_neg (by omega)]
    simp
  | x :: rest, i, acc, h, ha => by
    obtain ⟨hi, hx, hd⟩ := at_cons h
    have hw : wrap64 ((i : Int) + 1) = ((i + 1 : Nat) : Int) := by rw [wrap_up (by omega) (by omega)]; rfl
    have hm := rmeets_ev k x
    cases hp : meetB k x
    · have ih := meets_loop L k hL rest (i + 1) acc hd (by omega)
      rw [hp] at hm
      rw [List.filter_cons_of_neg (by simp [hp])]
      refine Ev.step (fun n => ?_) (Ev.bind (f := fun n t => if t = true then (if acc.length < 2932031007402 then gazetteerref22_Meets.l0 n (acc ++ [x]) L (L.length : Int) ((i + 1 : Nat) : Int) k.f0 k.f1 k.f2 k.f3 else none) else gazetteerref22_Meets.l0 n acc L (L.length : Int) ((i + 1 : Nat) : Int) k.f0 k.f1 k.f2 k.f3) hm ?_)
      · rw [gazetteerref22_Meets.l0, if_pos (by omega), if_pos (by omega), if_pos (by omega), hx, hw]
      · simpa using ih
    · have ih := meets_loop L k hL rest (i + 1) (acc ++ [x]) hd (by simp; omega)
      rw [hp] at hm
      rw [List.filter_cons_of_pos (by simp [hp]), ← List.singleton_append, ← List.append_assoc]
      refine Ev.step (fun n => ?_) (Ev.bind (f := fun n t => if t = true then (if acc.length < 2932031007402 then gazetteerref22_Meets.l0 n (acc ++ [x]) L (L.length : Int) ((i + 1 : Nat) : Int) k.f0 k.f1 k.f2 k.f3 else none) else gazetteerref22_Meets.l0 n acc L (L.length : Int) ((i + 1 : Nat) : Int) k.f0 k.f1 k.f2 k.f3) hm ?_)
      · rw [gazetteerref22_Meets.l0, if_pos (by omega), if_pos (by omega), if_pos (by omega), hx, hw]
      · have hc : acc.length < 2932031007402 := by omega
        simp only [if_true, hc]
        exact ih
theorem meets_ev {L : List S51} (k : S36) (hL : L.length ≤ 1000) : Ev (fun n => gazetteerref22_Meets.f n L k.f0 k.f1 k.f2 k.f3) (L.filter (meetB k)) := by
  have := meets_loop L k hL L 0 [] rfl (Nat.le_refl _)
  rwa [List.nil_append] at this
theorem same_loop (L : List S51) (hL : L.length ≤ 1000) : ∀ (rest : List S51) (i : Nat), L.drop i = rest → Ev (fun n => gazetteerref22_SameRows.l0 n L L (L.length : Int) (i : Int)) true
  | [], i, h => by
    have hi := at_nil h
    refine Ev.ret fun n => ?_
    rw [gazetteerref22_SameRows.l0, if_neg (by omega)]
  | x :: rest, i, h => by
    obtain ⟨hi, hx, hd⟩ := at_cons h
    have ih := same_loop L hL rest (i + 1) hd
    have hw : wrap64 ((i : Int) + 1) = ((i + 1 : Nat) : Int) := by rw [wrap_up (by omega) (by omega)]; rfl
    refine Ev.step (fun n => ?_) ih
    rw [gazetteerref22_SameRows.l0, if_pos (by omega), if_pos (by omega), if_pos (by omega), if_pos (by omega), hx, hw]
    simp
theorem same_ev {L : List S51} (hL : L.length ≤ 1000) : Ev (fun n => gazetteerref22_SameRows.f n L L) true := by
  have := same_loop L hL L 0 rfl
  refine Ev.congr (fun n => ?_) this
  rw [gazetteerref22_SameRows.f, if_pos rfl]
  rfl
theorem alike_ev {L : List S51} (a b : Int) (hL : L.length ≤ 1000) : Ev (fun n => gazetteerref22_Alike.f n a b L a b L) true := by
  refine Ev.congr (fun n => ?_) (Ev.bind (same_ev hL) (Ev.now true))
  rw [gazetteerref22_Alike.f, if_pos rfl, if_pos rfl]
end Go.Proofs.Ytknlbfandkmeiaa.M
