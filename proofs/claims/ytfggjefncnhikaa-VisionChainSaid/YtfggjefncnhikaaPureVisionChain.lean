/- VisionChain, over numbers and lists alone: of the versions in a chain at most one is seen. -/
import Derived.Test.YtfggjefncnhikaaAx18
import Derived.Test.YtfggjefncnhikaaVPure
namespace Go.Proofs.Ytfggjefncnhikaa.A
set_option linter.unusedVariables false
set_option linter.unusedSimpArgs false
open Go.RowKit Go.Proofs.YtfggjefncnhikaaW.PrintWords Go.Proofs.YtfggjefncnhikaaW.PrintLast

theorem rd_at {l : List Int} {i : Nat} (h : i < l.length) : rd l (i : Int) = l[i] := by
  simp [rd, List.getD_eq_getElem?_getD, List.getElem?_eq_getElem h]
section
variable {f : List S44} {a own snap : Int} {reads : Bool} {l : List Int}
/-- What is left of a round, behind the two tests. -/
theorem chain_j4 (hn : f.length ≤ 500) (hw : ∀ y ∈ f, wf44 y) (hl : l.length ≤ 50) (hu : ∀ x ∈ l, 0 ≤ x) {i n : Nat} (hi : i < l.length) (hn1 : n ≤ 1) {xmax : Int}
    (next : ∀ m : Nat, m ≤ 1 → (m = 1 → countsF own reads snap a (prs f) l[i] = false ∨ countsF own reads snap a (prs f) xmax = false) → Ev (fun k => gazetteerlaw17_VisionChain.l0 k l m l l.length ((i + 1 : Nat) : Int) a f own reads snap) true)
    (hc : n = 1 → rightF a (prs f) = true → countsF own reads snap a (prs f) l[i] = false) :
    Ev (fun k => gazetteerlaw17_VisionChain.j4 k l n l l.length i false a f own reads snap 1 l[i] xmax 0 0 0 0 0) true := by
  have hli : 0 ≤ l[i] := hu _ (List.getElem_mem hi)
  have hsf := sees_f (a := a) (own := own) (reads := reads) (snap := snap) (r := 1) (m := l[i]) (x := xmax) (b := 0) (c := 0) (d := 0) (e := 0) (v := 0) hn hw (by omega) hli
  obtain ⟨s, hs⟩ : ∃ s, seesF own reads snap a (prs f) 1 l[i] xmax 0 0 0 0 = s := ⟨_, rfl⟩
  rw [hs] at hsf
  unfold seesF at hs
  obtain ⟨s1, s2⟩ := s
  by_cases h1 : rightF a (prs f) = true
  · rw [if_pos h1] at hs
    by_cases h2 : tupF 1 l[i] xmax 0 0 0 0 = true
    · rw [if_pos h2] at hs
      injection hs with e1 e2
      subst e2
      cases hs1 : s1
      · rw [hs1] at hsf
        refine Ev.step (fun k => ?_) (next n hn1 (fun h => .inl (hc h h1)))
        simp only [gazetteerlaw17_VisionChain.j4, Bool.false_eq_true, if_false]
        rw [hsf]
        simp only [Option.bind_some, if_true, Bool.false_eq_true, if_false]
        rw [wrap_up (by omega)]
      · rw [hs1] at hsf e1
        simp only [Bool.and_eq_true, Bool.not_eq_true'] at e1
        have hn0 : n = 0 := by
          rcases Nat.eq_zero_or_pos n with h | h
          · exact h
          · have := hc (by omega) h1
            rw [this] at e1
            exact absurd e1.1 (by simp)
        subst hn0
        refine Ev.step (fun k => ?_) (next 1 (by omega) (fun _ => .inr e1.2))
        simp only [gazetteerlaw17_VisionChain.j4, Bool.false_eq_true, if_false]
        rw [hsf]
        simp only [Option.bind_some, if_true]
        rw [wrap_up (i := i) (by omega), wrap_up (i := 0) (by omega)]
    · rw [if_neg h2] at hs
      injection hs with e1 e2
      subst e2
      refine Ev.ret fun k => ?_
      simp only [gazetteerlaw17_VisionChain.j4, Bool.false_eq_true, if_false]
      rw [hsf]
      simp
  · rw [if_neg h1] at hs
    injection hs with e1 e2
    subst e2
    refine Ev.ret fun k => ?_
    simp only [gazetteerlaw17_VisionChain.j4, Bool.false_eq_true, if_false]
    rw [hsf]
    simp
/-- The second test's two answers. -/
theorem chain_j3 (hn : f.length ≤ 500) (hw : ∀ y ∈ f, wf44 y) (hl : l.length ≤ 50) (hu : ∀ x ∈ l, 0 ≤ x) {i n : Nat} (hi : i < l.length) (hn1 : n ≤ 1) {xmax : Int}
    (next : ∀ m : Nat, m ≤ 1 → (m = 1 → countsF own reads snap a (prs f) l[i] = false ∨ countsF own reads snap a (prs f) xmax = false) → Ev (fun k => gazetteerlaw17_VisionChain.l0 k l m l l.length ((i + 1 : Nat) : Int) a f own reads snap) true)
    (hc : n = 1 → rightF a (prs f) = true → countsF own reads snap a (prs f) l[i] = false ∨ ∃ h : 0 < i, countsF own reads snap a (prs f) (l[i - 1]'(by omega)) = false) (t : Bool) :
    Ev (fun k => gazetteerlaw17_VisionChain.j3 k l n i l[i] l l.length i t a f own reads snap 1 l[i] xmax 0 0 0 0 0) true := by
  cases t
  · rcases i with _ | i
    · refine Ev.step (fun k => ?_) (chain_j4 hn hw hl hu hi hn1 next (fun h1 h2 => by
        rcases hc h1 h2 with h | ⟨h, _⟩
        · exact h
        · exact absurd h (by omega)))
      simp only [gazetteerlaw17_VisionChain.j3, Bool.false_eq_true, if_false]
      rw [if_neg (by omega)]
    · have hct := counts_f (a := a) (own := own) (reads := reads) (snap := snap) (id := l[i + 1]) hn hw
      have hct2 := counts_f (a := a) (own := own) (reads := reads) (snap := snap) (id := l[i]'(by omega)) hn hw
      cases h1 : (rightF a (prs f) && countsF own reads snap a (prs f) l[i + 1])
      · refine Ev.step (fun k => ?_) (chain_j4 hn hw hl hu hi hn1 next (fun h2 h3 => by rw [h3, Bool.true_and] at h1; exact h1))
        simp only [gazetteerlaw17_VisionChain.j3, Bool.false_eq_true, if_false]
        rw [if_pos (by omega), hct, h1]
        simp only [Option.bind_some, Bool.false_eq_true, if_false]
      · cases h2 : (rightF a (prs f) && countsF own reads snap a (prs f) (l[i]'(by omega)))
        · refine Ev.step (f := fun k => gazetteerlaw17_VisionChain.j4 k l n l l.length ((i + 1 : Nat) : Int) true a f own reads snap 1 l[i + 1] xmax 0 0 0 0 0) (fun k => ?_) (Ev.ret fun k => ?_)
          · simp only [gazetteerlaw17_VisionChain.j3, Bool.false_eq_true, if_false]
            rw [if_pos (by omega), hct, h1]
            simp only [Option.bind_some, if_true]
            rw [wrap_dn (by omega), if_pos (by omega), if_pos (by omega), rd_at (by omega), hct2, h2]
            rfl
          · simp only [gazetteerlaw17_VisionChain.j4, if_true]
        · refine Ev.step (fun k => ?_) (chain_j4 hn hw hl hu hi hn1 next (fun h3 h4 => by
            rcases hc h3 h4 with h | ⟨_, h⟩
            · exact h
            · simp only [Nat.add_sub_cancel] at h
              rw [h, Bool.and_false] at h2
              cases h2))
          simp only [gazetteerlaw17_VisionChain.j3, Bool.false_eq_true, if_false]
          rw [if_pos (by omega), hct, h1]
          simp only [Option.bind_some, if_true]
          rw [wrap_dn (by omega), if_pos (by omega), if_pos (by omega), rd_at (by omega), hct2, h2]
          rfl
  · refine Ev.ret fun k => ?_
    simp only [gazetteerlaw17_VisionChain.j3, if_true]
theorem chain_l0 (hn : f.length ≤ 500) (hw : ∀ y ∈ f, wf44 y) (hl : l.length ≤ 50) (hu : ∀ x ∈ l, 0 ≤ x) : ∀ (d i n : Nat), i + d = l.length → n ≤ 1 →
    (n = 1 → rightF a (prs f) = true → ∀ h : i < l.length, countsF own reads snap a (prs f) l[i] = false ∨ ∃ h : 0 < i, countsF own reads snap a (prs f) (l[i - 1]'(by omega)) = false) →
    Ev (fun k => gazetteerlaw17_VisionChain.l0 k l n l l.length (i : Int) a f own reads snap) true := by
  intro d
  induction d with
  | zero =>
    intro i n hi hn1 _
    refine Ev.ret fun k => ?_
    simp only [gazetteerlaw17_VisionChain.l0]
    rw [if_neg (by omega)]
    simp; omega
  | succ d ih =>
    intro i n hi hn1 hc
    have hlt : i < l.length := by omega
    have key : ∀ xmax : Int, (∀ h : i + 1 < l.length, xmax = l[i + 1]) → Ev (fun k => gazetteerlaw17_VisionChain.j2 k l n i l[i] l l.length i a f own reads snap 1 l[i] xmax 0 0 0 0 0) true := fun xmax hx => by
      have next : ∀ m : Nat, m ≤ 1 → (m = 1 → countsF own reads snap a (prs f) l[i] = false ∨ countsF own reads snap a (prs f) xmax = false) → Ev (fun k => gazetteerlaw17_VisionChain.l0 k l m l l.length ((i + 1 : Nat) : Int) a f own reads snap) true := fun m hm hm1 => by
        refine ih (i + 1) m (by omega) hm (fun h1 _ hh => ?_)
        rcases hm1 h1 with h2 | h2
        · exact .inr ⟨by omega, by simpa using h2⟩
        · rw [hx hh] at h2
          exact .inl h2
      have j3 := fun t => chain_j3 (xmax := xmax) hn hw hl hu hlt hn1 next (fun h1 h2 => hc h1 h2 hlt) t
      rcases i with _ | i
      · refine Ev.step (fun k => ?_) (j3 false)
        simp only [gazetteerlaw17_VisionChain.j2]
        rw [if_neg (by omega)]
      · have hct := counts_f (a := a) (own := l[i + 1]) (reads := false) (snap := 0) (id := l[i]'(by omega)) hn hw
        refine Ev.step (fun k => ?_) (j3 (!(rightF a (prs f) && countsF l[i + 1] false 0 a (prs f) (l[i]'(by omega)))))
        simp only [gazetteerlaw17_VisionChain.j2]
        rw [if_pos (by omega), wrap_dn (by omega), if_pos (by omega), if_pos (by omega), rd_at (by omega), hct]
        rfl
    by_cases hnx : i + 1 < l.length
    · refine Ev.step (fun k => ?_) (key l[i + 1] (fun _ => rfl))
      simp only [gazetteerlaw17_VisionChain.l0]
      rw [if_pos (by omega), if_pos (by omega), if_pos (by omega), wrap_up (by omega), if_pos (by omega), if_pos (by omega), rd_at hlt, rd_at hnx]
    · refine Ev.step (fun k => ?_) (key 0 (fun h => absurd h hnx))
      simp only [gazetteerlaw17_VisionChain.l0]
      rw [if_pos (by omega), if_pos (by omega), if_pos (by omega), wrap_up (by omega), if_neg (by omega), rd_at hlt]
end
theorem VisionChain_pure : VisionChain_Pure := by
  intro x0 x1 x2 w0 w1 w2
  obtain ⟨hf, _, hw⟩ := w0
  refine Ev.rounds ?_
  unfold gazetteerlaw17_VisionChain.f
  rw [wakes_f]
  simp only [Option.bind_some, if_true]
  by_cases hn : 500 < x0.f1.length
  · have h5 : (x0.f1.length : Int) > 500 := by omega
    simp only [if_pos h5]
    refine Ev.ret fun k => ?_
    simp only [gazetteerlaw17_VisionChain.j0, if_true]
  have hn : x0.f1.length ≤ 500 := by omega
  have h5 : ¬ (x0.f1.length : Int) > 500 := by omega
  simp only [if_neg h5]
  by_cases hl : 50 < x2.length
  · have h6 : decide ((x2.length : Int) > 50) = true := decide_eq_true (by omega)
    rw [h6]
    refine Ev.ret fun k => ?_
    simp only [gazetteerlaw17_VisionChain.j0, if_true]
  · have h6 : decide ((x2.length : Int) > 50) = false := decide_eq_false (by omega)
    rw [h6]
    refine Ev.step (fun k => ?_) (chain_l0 (own := x1.f0) (reads := x1.f1) (snap := x1.f2) (a := x0.f0) hn hw (show x2.length ≤ 50 by omega) (fun x hx => (u64_bounds (w2.2 x hx)).1) x2.length 0 0 (by omega) (by omega) (fun h => by cases h))
    simp only [gazetteerlaw17_VisionChain.j0, Bool.false_eq_true, if_false]
    rfl
end Go.Proofs.Ytfggjefncnhikaa.A
