/- What the row of this claim reaches. No condition. -/
import Derived.Test.YtknlbfandkmeiaaQX1
import Derived.Test.YtknlbfandkmeiaaQX3
import Derived.Test.YtknlbfandkmeiaaQMMeets
import Derived.Test.YtknlbfandkmeiaaQMShort
set_option linter.unusedVariables false
set_option linter.unusedSimpArgs false
namespace Go.Proofs.Ytknlbfandkmeiaa.M
open Go.RowKit Go.Proofs.YtknlbfandkmeiaaW.PrintWords Go.Proofs.YtknlbfandkmeiaaW.PrintLast Go.Proofs.YtknlbfandkmeiaaW.PrintMore
theorem Ev.ret {α : Type} {g : Nat → Option α} {r : α} (h : ∀ k, g (k + 1) = some r) : Ev g r := ⟨1, fun k hk => by
  obtain ⟨k, rfl⟩ : ∃ m, k = m + 1 := ⟨k - 1, by omega⟩
  exact h k⟩
theorem Ev.all {α : Type} {a : Option α} {r : α} (h : a = some r) : Ev (fun _ => a) r := ⟨0, fun _ _ => h⟩
theorem wrap_up {i : Int} (h0 : 0 ≤ i) (h1 : i < 1000000) : wrap64 (i + 1) = i + 1 := by unfold wrap64; omega
theorem wrap_dn {i : Int} (h0 : 0 ≤ i) (h1 : i < 1000000) : wrap64 (i - 1) = i - 1 := by unfold wrap64; omega
def boxF (a b c d : Int) : Bool := decide (a ≤ b) && decide (c ≤ d)
theorem box_f (a b c d : Int) : key_box.f a b c d = some (boxF a b c d) := by
  unfold key_box.f boxF
  by_cases h : a ≤ b <;> simp [h]
theorem rbox_f (a b c d : Int) : gazetteerref09_Box.f a b c d = some (boxF a b c d) := by
  unfold gazetteerref09_Box.f boxF
  by_cases h : a ≤ b <;> simp [h]
abbrev boxR (x : S51) : Bool := boxF x.f1.f0 x.f1.f1 x.f1.f2 x.f1.f3
def okT (l : List S51) : Prop := l.length ≤ 128 ∧ riseR l ∧ ∀ x ∈ l, 0 < x.f0 ∧ boxR x = true
instance (l : List S51) : Decidable (okT l) := by unfold okT; infer_instance
def keyF (a b c d e : Int) : Bool := boxF b c d e && (decide (a = 1) || (decide (a = 2) && (decide (d = 0) && decide (e = 0))) || (decide (a = 3) && (decide (b = c) && decide (d = e))))
theorem check_f (a b c d e : Int) : key_Check.f a b c d e = some (if keyF a b c d e = true then 0 else 2) := by
  unfold key_Check.f keyF
  rw [box_f]
  cases boxF b c d e <;> by_cases h1 : a = 1 <;> by_cases h2 : a = 2 <;> by_cases h3 : a = 3 <;> by_cases h4 : d = 0 <;> by_cases h5 : e = 0 <;> by_cases h6 : b = c <;> by_cases h7 : d = e <;> simp_all
theorem at_cons {L : List S51} {i : Nat} {x : S51} {rest : List S51} (h : L.drop i = x :: rest) : i < L.length ∧ rd_T51 L (i : Int) = x ∧ L.drop (i + 1) = rest := by
  have hi : i < L.length := by
    rcases Nat.lt_or_ge i L.length with h1 | h1
    · exact h1
    · rw [List.drop_eq_nil_of_le h1] at h; cases h
  rw [List.drop_eq_getElem_cons hi] at h
  injection h with h1 h2
  exact ⟨hi, by rw [rd_get hi, h1], h2⟩
theorem at_nil {L : List S51} {i : Nat} (h : L.drop i = []) : L.length ≤ i := by
  rcases Nat.lt_or_ge i L.length with h1 | h1
  · rw [List.drop_eq_getElem_cons h1] at h; cases h
  · exact h1
def chkF : Bool → Int → List S51 → Bool
  | ok, _, [] => ok
  | ok, last, x :: xs => chkF (ok && (decide (last < x.f0) && boxR x)) x.f0 xs
theorem chk_iff : ∀ (L : List S51) (ok : Bool) (last : Int), chkF ok last L = true ↔ ok = true ∧ (∀ x ∈ L, last < x.f0) ∧ riseR L ∧ ∀ x ∈ L, boxR x = true
  | [], ok, last => by simp [chkF, riseR]
  | x :: xs, ok, last => by
    rw [chkF, chk_iff xs]
    unfold riseR
    simp only [Bool.and_eq_true, decide_eq_true_eq, List.pairwise_cons, List.mem_cons, forall_eq_or_imp]
    constructor
    · rintro ⟨⟨h1, h2, h3⟩, h4, h5, h6⟩
      exact ⟨h1, ⟨h2, fun y hy => Int.lt_trans h2 (h4 y hy)⟩, ⟨h4, h5⟩, h3, h6⟩
    · rintro ⟨h1, ⟨h2, _⟩, ⟨h4, h5⟩, h3, h6⟩
      exact ⟨⟨h1, h2, h3⟩, h4, h5, h6⟩
theorem okT_iff (L : List S51) : okT L ↔ decide ((L.length : Int) ≤ 128) = true ∧ (∀ x ∈ L, 0 < x.f0) ∧ riseR L ∧ ∀ x ∈ L, boxR x = true := by
  unfold okT
  rw [decide_eq_true_eq]
  constructor
  · rintro ⟨h1, h2, h3⟩
    exact ⟨by omega, fun x hx => (h3 x hx).1, h2, fun x hx => (h3 x hx).2⟩
  · rintro ⟨h1, h2, h3, h4⟩
    exact ⟨by omega, h3, fun x hx => ⟨h2 x hx, h4 x hx⟩⟩
theorem check_loop (L : List S51) (hL : L.length ≤ 1000) : ∀ (rest : List S51) (i : Nat) (ok : Bool) (last : Int), L.drop i = rest → Ev (fun k => model_Check.l0 k ok last L (L.length : Int) (i : Int)) (if chkF ok last rest = true then 0 else 320)
  | [], i, ok, last, h => by
    have hi := at_nil h
    refine Ev.ret fun k => ?_
    rw [model_Check.l0, if_neg (by omega), chkF]
    cases ok <;> rfl
  | x :: rest, i, ok, last, h => by
    obtain ⟨hi, hx, hd⟩ := at_cons h
    have ih := fun ok' => check_loop L hL rest (i + 1) ok' x.f0 hd
    have hw : wrap64 ((i : Int) + 1) = ((i + 1 : Nat) : Int) := by rw [wrap_up (by omega) (by omega)]; rfl
    rw [chkF]
    cases ok
    · refine Ev.step (fun k => ?_) (ih false)
      rw [model_Check.l0, if_pos (by omega), if_pos (by omega), if_pos (by omega), if_neg (by simp), hx, hw]
    · by_cases hl : last < x.f0
      · have h1 : (true && (decide (last < x.f0) && boxR x)) = boxR x := by simp [hl]
        rw [h1]
        refine Ev.step (fun k => ?_) (ih (boxR x))
        rw [model_Check.l0, if_pos (by omega), if_pos (by omega), if_pos (by omega), if_pos rfl, hx, hw, if_pos hl, check_f]
        have : ((if keyF 1 x.f1.f0 x.f1.f1 x.f1.f2 x.f1.f3 = true then (0 : Int) else 2) == 0) = boxR x := by
          show _ = boxF x.f1.f0 x.f1.f1 x.f1.f2 x.f1.f3
          unfold keyF
          cases boxF x.f1.f0 x.f1.f1 x.f1.f2 x.f1.f3 <;> simp
        rw [Option.bind_some, this]
      · have h1 : (true && (decide (last < x.f0) && boxR x)) = false := by simp [hl]
        rw [h1]
        refine Ev.step (fun k => ?_) (ih false)
        rw [model_Check.l0, if_pos (by omega), if_pos (by omega), if_pos (by omega), if_pos rfl, hx, hw, if_neg hl]
theorem check_ev {L : List S51} (hL : L.length ≤ 1000) : Ev (fun k => model_Check.f k L) (if okT L then 0 else 320) := by
  have h := check_loop L hL L 0 (decide ((L.length : Int) ≤ 128)) 0 rfl
  have e : (chkF (decide ((L.length : Int) ≤ 128)) 0 L = true) ↔ okT L := by rw [chk_iff, okT_iff]
  by_cases ho : okT L
  · rw [if_pos ho]
    rw [if_pos (e.2 ho)] at h
    exact h
  · rw [if_neg ho]
    rw [if_neg (fun x => ho (e.1 x))] at h
    exact h
def rgtF (ok : Bool) : Int → List S51 → Bool
  | _, [] => ok
  | last, x :: xs => decide (last < x.f0) && (boxR x && rgtF ok x.f0 xs)
theorem rgt_iff (ok : Bool) : ∀ (L : List S51) (last : Int), rgtF ok last L = true ↔ ok = true ∧ (∀ x ∈ L, last < x.f0) ∧ riseR L ∧ ∀ x ∈ L, boxR x = true
  | [], last => by simp [rgtF, riseR]
  | x :: xs, last => by
    rw [rgtF]
    simp only [Bool.and_eq_true, decide_eq_true_eq]
    rw [rgt_iff ok xs]
    unfold riseR
    simp only [List.pairwise_cons, List.mem_cons, forall_eq_or_imp]
    constructor
    · rintro ⟨h2, h3, h1, h4, h5, h6⟩
      exact ⟨h1, ⟨h2, fun y hy => Int.lt_trans h2 (h4 y hy)⟩, ⟨h4, h5⟩, h3, h6⟩
    · rintro ⟨h1, ⟨h2, _⟩, ⟨h4, h5⟩, h3, h6⟩
      exact ⟨h2, h3, h1, h4, h5, h6⟩
theorem right_loop (L : List S51) (hL : L.length ≤ 1000) (hp : ∀ x ∈ L, 0 ≤ x.f0) : ∀ (rest : List S51) (i : Nat) (last : Int), L.drop i = rest → 0 ≤ last → (i = 0 → last = 0) → (0 < i → last = (rd_T51 L ((i : Int) - 1)).f0) → Ev (fun k => gazetteerref22_Right.l0 k L (L.length : Int) (i : Int) L) (rgtF (decide ((L.length : Int) ≤ 128)) last rest)
  | [], i, last, h, _, _, _ => by
    have hi := at_nil h
    refine Ev.ret fun k => ?_
    rw [gazetteerref22_Right.l0, if_neg (by omega), rgtF]
  | x :: rest, i, last, h, hl0, hz, hl => by
    obtain ⟨hi, hx, hd⟩ := at_cons h
    have hx0 : 0 ≤ x.f0 := hp x (by rw [← List.take_append_drop i L, h]; simp)
    have ih := right_loop L hL hp rest (i + 1) x.f0 hd hx0 (by omega) (fun _ => by rw [show ((i + 1 : Nat) : Int) - 1 = (i : Int) by omega, hx])
    have hw : wrap64 ((i : Int) + 1) = ((i + 1 : Nat) : Int) := by rw [wrap_up (by omega) (by omega)]; rfl
    rw [rgtF]
    by_cases h1 : last < x.f0
    · have hne : ¬ x.f0 = 0 := by omega
      cases hb : boxR x
      · have e : (decide (last < x.f0) && (false && rgtF (decide ((L.length : Int) ≤ 128)) x.f0 rest)) = false := by simp
        rw [e]
        refine Ev.ret fun k => ?_
        rw [gazetteerref22_Right.l0, if_pos (by omega), if_pos (by omega), if_pos (by omega), hx, if_neg hne, rbox_f]
        have hb' : boxF x.f1.f0 x.f1.f1 x.f1.f2 x.f1.f3 = false := hb
        by_cases hi0 : (i : Int) > 0
        · rw [if_pos hi0, wrap_dn (by omega) (by omega), if_pos (by omega), if_pos (by omega), ← hl (by omega), if_neg (by omega), hb']
          rfl
        · rw [if_neg hi0, hb']
          rfl
      · have e : (decide (last < x.f0) && (true && rgtF (decide ((L.length : Int) ≤ 128)) x.f0 rest)) = rgtF (decide ((L.length : Int) ≤ 128)) x.f0 rest := by simp [h1]
        rw [e]
        refine Ev.step (fun k => ?_) ih
        rw [gazetteerref22_Right.l0, if_pos (by omega), if_pos (by omega), if_pos (by omega), hx, if_neg hne, rbox_f]
        have hb' : boxF x.f1.f0 x.f1.f1 x.f1.f2 x.f1.f3 = true := hb
        by_cases hi0 : (i : Int) > 0
        · rw [if_pos hi0, wrap_dn (by omega) (by omega), if_pos (by omega), if_pos (by omega), ← hl (by omega), if_neg (by omega), hb', hw, Option.bind_some, if_pos rfl]
        · rw [if_neg hi0, hb', hw, Option.bind_some, if_pos rfl]
    · have e : (decide (last < x.f0) && (boxR x && rgtF (decide ((L.length : Int) ≤ 128)) x.f0 rest)) = false := by simp [h1]
      rw [e]
      refine Ev.ret fun k => ?_
      rw [gazetteerref22_Right.l0, if_pos (by omega), if_pos (by omega), if_pos (by omega), hx]
      by_cases hne : x.f0 = 0
      · rw [if_pos hne]
      · have hi0 : (i : Int) > 0 := by
          rcases Nat.eq_zero_or_pos i with h0 | h0
          · have := hz h0; omega
          · omega
        rw [if_neg hne, if_pos hi0, wrap_dn (by omega) (by omega), if_pos (by omega), if_pos (by omega), ← hl (by omega), if_pos (by omega)]
theorem right_ev {L : List S51} (hL : L.length ≤ 1000) (hp : ∀ x ∈ L, 0 ≤ x.f0) : Ev (fun k => gazetteerref22_Right.f k L) (decide (okT L)) := by
  have h := right_loop L hL hp L 0 0 rfl (Int.le_refl _) (fun _ => rfl) (fun h => by omega)
  have e : rgtF (decide ((L.length : Int) ≤ 128)) 0 L = decide (okT L) := by
    rw [Bool.eq_iff_iff, rgt_iff]
    exact (okT_iff L).symm.trans decide_eq_true_iff.symm
  rw [e] at h
  exact h
end Go.Proofs.Ytknlbfandkmeiaa.M
