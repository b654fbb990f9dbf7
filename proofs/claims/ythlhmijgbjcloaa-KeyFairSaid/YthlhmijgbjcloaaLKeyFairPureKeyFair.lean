/- What the row of this claim reaches. No condition. -/
import Derived.Laws.BytesArg
import Derived.WalkKit
import Derived.StillTailTactics
import Derived.Deep.RegionHeld3
import Derived.Laws.Bits64b
import Derived.Test.YthlhmijgbjcloaaCPure09w
import Derived.Test.YthlhmijgbjcloaaLKeyFairX2
import Derived.Test.YthlhmijgbjcloaaLKeyFairFair2
set_option linter.unusedVariables false
set_option linter.unusedSimpArgs false
namespace Go.Proofs.Ythlhmijgbjcloaa.A
open Go.RowKit Go.Proofs.YthlhmijgbjcloaaW.PrintWords Go.Proofs.YthlhmijgbjcloaaW.PrintLast Go.Proofs.YthlhmijgbjcloaaW.PrintMore
abbrev Rise (S : List Int) : Prop := ∀ p q, p < q → q < S.length → at_ S p < at_ S q
structure Fair (n least : Int) (a b : List Int) : Prop where
  la : least ≤ a.length
  lb : least ≤ b.length
  sum : (a.length : Int) + b.length = n
  ra : Rise a
  rb : Rise b
  ia : ∀ x ∈ a, 0 ≤ x ∧ x < n
  ib : ∀ x ∈ b, 0 ≤ x ∧ x < n
  dj : ∀ x ∈ a, x ∉ b
theorem part_top {l : List S35} (hw : ∀ a ∈ l, wf35 a) : ∃ a b e, Ev (fun k => key_Part.f k l) (a, b, e) ∧ (e ≠ 0 → a.length + b.length = 0) ∧ (e = 0 → Fair l.length (max (2 * (l.length : Int) / 5) 1) a b ∧ l.length ≤ 64) := by
  unfold key_Part.f
  by_cases h64 : (l.length : Int) > 64
  · refine ⟨[], [], 3, ⟨0, fun k _ => by simp only; rw [if_pos h64]⟩, fun _ => rfl, fun h => by cases h⟩
  obtain ⟨u0, u1, u2, u3, e, hB⟩ := bound_ok l (by omega)
  by_cases he : ¬ e = 0
  · refine ⟨[], [], 2, Ev.congr (fun k => if_neg h64) (Ev.bind hB ⟨0, fun k _ => by simp only; rw [if_pos he]⟩), fun _ => rfl, fun h => by cases h⟩
  by_cases h2 : (l.length : Int) < 2
  · refine ⟨[], [], 2, Ev.congr (fun k => if_neg h64) (Ev.bind hB ⟨0, fun k _ => by simp only; rw [if_neg he, if_pos h2]⟩), fun _ => rfl, fun h => by cases h⟩
  obtain ⟨i, j, hS, hij, hj⟩ := seeds_ok hw (by omega) (by omega)
  have hi : i < l.length := by omega
  obtain ⟨p, q, a', b', hP, ea, eb, l1, l2, l3, hd, hm⟩ := part_ok (i : Int) (j : Int) (max (2 * (l.length : Int) / 5) 1) l.length (by omega) (by omega) l 0 ((l.length : Int) - 2) (sideOf l i) (sideOf l j) hw (rd_inK hw (i := (i : Int)) (by omega) (by omega)) (rd_inK hw (i := (j : Int)) (by omega) (by omega))
    (by rw [cnt_val _ _ (by omega)]; rw [if_pos (by omega), if_pos (by omega)]; omega) (by omega) (by omega) (by simp only [sideOf, List.length_singleton]; omega) (by simp only [sideOf, List.length_singleton]; omega) (by simp only [sideOf, List.length_singleton]; omega)
  have ea2 : a'.1 = (i : Int) :: p := ea
  have eb2 : b'.1 = (j : Int) :: q := eb
  obtain ⟨hdp, hdq, hdd⟩ := List.nodup_append.mp hd
  have hma : ∀ x ∈ p, 0 ≤ x ∧ x < l.length ∧ x ≠ i ∧ x ≠ j := fun x hx => hm x (by simp [hx])
  have hmb : ∀ x ∈ q, 0 ≤ x ∧ x < l.length ∧ x ≠ i ∧ x ≠ j := fun x hx => hm x (by simp [hx])
  obtain ⟨r, e1, pr, rr⟩ := sorted_ok a'.1 (by omega) (by rw [ea2]; exact List.nodup_cons.mpr ⟨fun h => (hma _ h).2.2.1 rfl, hdp⟩)
  obtain ⟨s, e2, ps, rs⟩ := sorted_ok b'.1 (by omega) (by rw [eb2]; exact List.nodup_cons.mpr ⟨fun h => (hmb _ h).2.2.2 rfl, hdq⟩)
  have hr : ∀ x, x ∈ r ↔ x = i ∨ x ∈ p := fun x => by rw [pr.mem_iff, ea2]; simp
  have hs : ∀ x, x ∈ s ↔ x = j ∨ x ∈ q := fun x => by rw [ps.mem_iff, eb2]; simp
  have nr := pr.length_eq
  have ns := ps.length_eq
  refine ⟨r, s, 0, Ev.congr (fun k => if_neg h64) (Ev.bind hB ?_), fun h => absurd rfl h, fun _ => ⟨⟨by omega, by omega, by omega, rr, rs, ?_, ?_, ?_⟩, by omega⟩⟩
  · refine Ev.congr (fun k => ?_) (Ev.bind hS (f := fun k s => if 0 ≤ s.1 ∧ s.1 < (l.length : Int) ∧ 0 ≤ s.2 ∧ s.2 < (l.length : Int) then
        (partL s.1 s.2 (max (2 * (l.length : Int) / 5) 1) l 0 ((l.length : Int) - 2) (sideOf l s.1) (sideOf l s.2)).bind fun ab =>
          (key_sorted.f k ab.1.1).bind fun p => (key_sorted.f k ab.2.1).bind fun q => some (p, q, 0) else none) ?_)
    · simp only
      rw [if_neg he, if_neg h2]
    · refine Ev.congr (fun k => if_pos (by omega)) ?_
      rw [hP]
      exact Ev.bind (Ev.now (a', b')) (Ev.bind e1 (Ev.bind e2 (Ev.now _)))
  · intro x hx
    rcases (hr x).mp hx with rfl | h
    · omega
    · have := hma x h
      omega
  · intro x hx
    rcases (hs x).mp hx with rfl | h
    · omega
    · have := hmb x h
      omega
  · intro x hx hx2
    rcases (hr x).mp hx with h | h <;> rcases (hs x).mp hx2 with h' | h'
    · omega
    · exact (hmb x h').2.2.1 h
    · exact (hma x h).2.2.2 h'
    · exact hdd x h x h' rfl
theorem rdOf_set (seen : List Bool) (a b : Int) (ha : 0 ≤ a) (hl : a < seen.length) (hb : 0 ≤ b) : rdOf false (seen.set a.toNat true) b = if b = a then true else rdOf false seen b := by
  unfold rdOf
  rw [List.getD_eq_getElem?_getD, List.getElem?_set]
  by_cases e : b = a
  · subst e
    have : b.toNat < seen.length := by omega
    simp [this]
  · rw [if_neg (by omega), if_neg e, List.getD_eq_getElem?_getD]
theorem mem_at {S : List Int} {u : Nat} (h : u < S.length) : at_ S u ∈ S := by
  unfold at_
  rw [List.getD_eq_getElem?_getD, List.getElem?_eq_getElem h]
  exact List.getElem_mem _
theorem side_l1 (l : List S35) (hn : l.length ≤ 64) (y : List (List Int)) (x62 x63 : Int) (hx : 0 ≤ x63 ∧ x63 < 5) (S : List Int) (hSl : S.length ≤ 64) (hr : Rise S) (hi : ∀ x ∈ S, 0 ≤ x ∧ x < l.length) (r : Bool) :
    ∀ (d t : Nat) (seen : List Bool), S.length - t = d → seen.length = l.length → (∀ u, t ≤ u → u < S.length → rdOf false seen (at_ S u) = false) →
      (∀ seen', seen'.length = l.length → (∀ x, 0 ≤ x → rdOf false seen' x = true → rdOf false seen x = true ∨ x ∈ S) → Ev (fun k => gazetteerlaw09_KeyFair.l0 k l seen' y x62 (x63 + 1)) r) →
      Ev (fun k => gazetteerlaw09_KeyFair.l1 k l seen S y x62 x63 S S.length (t : Int)) r
  | 0, t, seen, hd, hl, hf, hk => by
    refine Ev.step (fun k => ?_) (hk seen hl fun x _ h => Or.inl h)
    simp only [gazetteerlaw09_KeyFair.l1]
    rw [if_neg (by omega), wrap_id (by omega) (by omega)]
  | d + 1, t, seen, hd, hl, hf, hk => by
    have ht : t < S.length := by omega
    obtain ⟨z, hz⟩ : ∃ z, at_ S t = z := ⟨_, rfl⟩
    have hzm := hi z (hz ▸ mem_at ht)
    have hz0 := hf t (Nat.le_refl _) ht
    rw [hz] at hz0
    have ew : wrap64 ((t : Int) + 1) = ((t + 1 : Nat) : Int) := by rw [wrap_id (by omega) (by omega)]; omega
    have hrec : Ev (fun k => gazetteerlaw09_KeyFair.l1 k l (seen.set z.toNat true) S y x62 x63 S S.length ((t + 1 : Nat) : Int)) r := by
      refine side_l1 l hn y x62 x63 hx S hSl hr hi r d (t + 1) (seen.set z.toNat true) (by omega) (by simpa using hl) (fun u hu hul => ?_) (fun seen' hl' h => hk seen' hl' fun x hx0 hs => ?_)
      · have h1 := hr t u (by omega) hul
        rw [rdOf_set _ _ _ hzm.1 (by omega) (hi _ (mem_at hul)).1, if_neg (by omega)]
        exact hf u (by omega) hul
      · rcases h x hx0 hs with h | h
        · rw [rdOf_set _ _ _ hzm.1 (by omega) hx0] at h
          by_cases e : x = z
          · exact Or.inr (e ▸ hz ▸ mem_at ht)
          · rw [if_neg e] at h
            exact Or.inl h
        · exact Or.inr h
    refine Ev.step (fun k => ?_) hrec
    simp only [gazetteerlaw09_KeyFair.l1]
    rw [rd_at, hz, if_pos (by omega), if_pos (by omega), if_pos (by omega), if_neg (by omega), if_neg (by omega), if_pos hzm.1, if_pos (by omega), if_neg (by rw [hz0]; simp), ew]
    by_cases h0 : t = 0
    · subst h0
      rw [if_neg (by omega)]
    · have e1 : wrap64 ((t : Int) - 1) = ((t - 1 : Nat) : Int) := by rw [wrap_id (by omega) (by omega)]; omega
      have h1 := hr (t - 1) t (by omega) ht
      rw [if_pos (by omega), e1, if_pos (by omega), if_pos (by omega), rd_at, if_neg (by omega)]
theorem least_eq (n : Nat) (h : n ≤ 64) : mx (wrap64 (Int.tdiv (wrap64 (2 * (n : Int))) 5)) 1 = max (2 * (n : Int) / 5) 1 := by
  rw [wrap_id (z := 2 * (n : Int)) (by omega) (by omega), Int.tdiv_eq_ediv_of_nonneg (by omega), wrap_id (by omega) (by omega)]
  unfold mx
  split <;> omega
theorem KeyFair_pure : KeyFair_Pure := by
  rintro l ⟨_, hw⟩
  have hW : Ev (fun k => gazetteerlaw09_wakes.f k) true := Ev.of gazetteerlaw09_wakes.mono wakes_ok
  refine Ev.rounds (r := true) ?_
  unfold gazetteerlaw09_KeyFair.f
  refine Ev.bind hW ?_
  refine Ev.congr (fun k => if_pos rfl) ?_
  by_cases h200 : (l.length : Int) > 200
  · exact Ev.congr (fun k => if_pos h200) (Ev.now _)
  refine Ev.congr (fun k => if_neg h200) ?_
  obtain ⟨a, b, e, hP, h1, h2⟩ := part_top hw
  refine Ev.bind hP ?_
  by_cases he : e = 0
  · obtain ⟨F, h64⟩ := h2 he
    refine Ev.congr (fun k => if_pos he) ?_
    simp only [least_eq _ h64]
    refine Ev.congr (fun k => if_neg (by have := F.la; omega)) ?_
    refine Ev.congr (fun k => if_neg (by have := F.lb; omega)) ?_
    have es : (wrap64 ((a.length : Int) + (b.length : Int)) != (l.length : Int)) = false := by
      rw [wrap_id (by omega) (by have := F.sum; omega)]
      exact bne_eq_false_iff_eq.mpr F.sum
    rw [es]
    have hs := F.sum
    refine Ev.step (f := fun k => gazetteerlaw09_KeyFair.l0 k l (List.replicate l.length false) [a, b] 2 0) (fun k => ?_) ?_
    · simp only [gazetteerlaw09_KeyFair.j0, Bool.false_eq_true, if_false, Int.toNat_natCast]
      rw [if_pos (by omega), if_pos (by omega)]
      rfl
    refine Ev.step (f := fun k => gazetteerlaw09_KeyFair.l1 k l (List.replicate l.length false) a [a, b] 2 0 a a.length ((0 : Nat) : Int)) (fun k => ?_) ?_
    · simp only [gazetteerlaw09_KeyFair.l0]
      rfl
    have hrep : ∀ x, rdOf false (List.replicate l.length false) x = false := by
      intro x
      unfold rdOf
      rw [List.getD_eq_getElem?_getD, List.getElem?_replicate]
      split <;> rfl
    refine side_l1 l h64 [a, b] 2 0 (by omega) a (by omega) F.ra F.ia true _ 0 _ rfl (by simp) (fun u _ _ => hrep _) (fun seen hsl hseen => ?_)
    have hb : ∀ x ∈ b, rdOf false seen x = false := by
      intro x hx
      cases hc : rdOf false seen x
      · rfl
      · rcases hseen x (F.ib x hx).1 hc with h | h
        · rw [hrep] at h
          cases h
        · exact absurd hx (F.dj x h)
    refine Ev.step (f := fun k => gazetteerlaw09_KeyFair.l1 k l seen b [a, b] 2 1 b b.length ((0 : Nat) : Int)) (fun k => ?_) ?_
    · simp only [gazetteerlaw09_KeyFair.l0]
      rfl
    refine side_l1 l h64 [a, b] 2 1 (by omega) b (by omega) F.rb F.ib true _ 0 _ rfl hsl (fun u _ hu => hb _ (mem_at hu)) (fun seen2 hsl2 hseen2 => ?_)
    refine Ev.ret (fun k => ?_)
    simp only [gazetteerlaw09_KeyFair.l0]
    rfl
  · have h3 := h1 he
    refine Ev.congr (fun k => if_neg he) ?_
    have ha : a.length = 0 := by omega
    have hb : b.length = 0 := by omega
    simp only [ha, hb]
    exact Ev.all (by rw [wrap_id (by omega) (by omega)]; rfl)
end Go.Proofs.Ythlhmijgbjcloaa.A
