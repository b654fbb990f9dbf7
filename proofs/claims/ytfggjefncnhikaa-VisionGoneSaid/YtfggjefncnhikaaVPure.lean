/- What the functions of law17 answer, as plain functions: the reference's tests and counts, the program's tests. -/
import Derived.Test.YtfggjefncnhikaaAx7
import Derived.Test.YtfggjefncnhikaaAx8
import Derived.Test.YtfggjefncnhikaaAx8
import Derived.Test.YtfggjefncnhikaaAx4
import Derived.Test.YtfggjefncnhikaaAx7
import Derived.Test.YtfggjefncnhikaaAx7
import Derived.Test.YtfggjefncnhikaaAx7
import Derived.Test.YtfggjefncnhikaaAx15
import Derived.Test.YtfggjefncnhikaaVSame
namespace Go.Proofs.Ytfggjefncnhikaa.A
set_option linter.unusedVariables false
set_option linter.unusedSimpArgs false
open Go.RowKit Go.Proofs.YtfggjefncnhikaaW.PrintWords Go.Proofs.YtfggjefncnhikaaW.PrintLast

theorem Ev.ret {α : Type} {g : Nat → Option α} {r : α} (h : ∀ k, g (k + 1) = some r) : Ev g r := ⟨1, fun k hk => by
  obtain ⟨k, rfl⟩ : ∃ m, k = m + 1 := ⟨k - 1, by omega⟩
  exact h k⟩
theorem Ev.all {α : Type} {a : Option α} {r : α} (h : a = some r) : Ev (fun _ => a) r := ⟨0, fun _ _ => h⟩
theorem u64_bounds {a : Int} (h : (Lit.int .u64 a).wf = true) : 0 ≤ a ∧ a ≤ 18446744073709551615 := by
  have := bounds_u64 h
  omega
theorem rd_get {l : List S44} {i : Nat} (h : i < l.length) : rd_T44 l (i : Int) = l[i] := by
  simp [rd_T44, List.getD_eq_getElem?_getD, List.getElem?_eq_getElem h]
theorem prs_get {l : List S44} {i : Nat} (h : i < l.length) : (prs l)[i]? = some (l[i].f0, l[i].f1) := by
  simp [prs, List.getElem?_eq_getElem h]
theorem okFates_of {l : List S44} (hn : l.length ≤ 500) (hw : ∀ x ∈ l, wf44 x) : okFates l = true := by
  unfold okFates
  rw [Bool.and_eq_true, decide_eq_true_eq, List.all_eq_true]
  refine ⟨hn, fun x hx => ?_⟩
  obtain ⟨_, h⟩ := hw x hx
  rw [h]
  have := u64_bounds h
  simp; omega
theorem check_f {a : Int} {l : List S44} (hn : l.length ≤ 500) (hw : ∀ x ∈ l, wf44 x) : vision_Check.f a l = some (if rightF a (prs l) then 0 else 270) := by
  unfold vision_Check.f
  rw [if_pos (okFates_of hn hw)]
theorem box_f (a b c d : Int) : key_box.f a b c d = some (boxF a b c d) := by
  unfold key_box.f boxF
  by_cases h : a ≤ b <;> simp [h]
theorem rbox_f (a b c d : Int) : gazetteerref09_Box.f a b c d = some (boxF a b c d) := by
  unfold gazetteerref09_Box.f boxF
  by_cases h : a ≤ b <;> simp [h]
theorem hcheck_f {r m x a b c d v : Int} (hr : 0 ≤ r) (hm : 0 ≤ m) : heap_Check.f r m x a b c d v = some (if tupF r m x a b c d then 0 else 200) := by
  unfold heap_Check.f key_Check.f tupF
  rw [box_f]
  by_cases h1 : r = 0
  · simp [h1]
  by_cases h2 : m = 0
  · simp [h2]
  have h3 : 1 ≤ r := by omega
  have h4 : 1 ≤ m := by omega
  by_cases h5 : m ≤ 4294967295
  · by_cases h6 : x ≤ 4294967295
    · have h7 : ¬ 4294967295 < m := by omega
      have h8 : ¬ 4294967295 < x := by omega
      cases h : boxF a b c d <;> simp [h1, h2, h3, h4, h5, h6, h7, h8]
    · have h7 : ¬ 4294967295 < m := by omega
      have h8 : 4294967295 < x := by omega
      simp [h1, h2, h7, h8, h6]
  · have h7 : 4294967295 < m := by omega
    simp [h1, h2, h7, h5]
theorem rtup_f {r m x a b c d v : Int} : gazetteerref10_Right.f r m x a b c d v = some (tupF r m x a b c d) := by
  unfold gazetteerref10_Right.f tupF
  rw [rbox_f]
  by_cases h1 : 1 ≤ r <;> by_cases h2 : 1 ≤ m <;> by_cases h3 : m ≤ 4294967295 <;> by_cases h4 : x ≤ 4294967295 <;> simp [h1, h2, h3, h4]
theorem copied_f {a : Int} {l : List S44} (hn : l.length ≤ 500) : gazetteerlaw17_copied.f a l = some (a, l) := by
  unfold gazetteerlaw17_copied.f
  simp; omega
/-- What the program says of a tuple. -/
def seesF (own : Int) (reads : Bool) (snap a : Int) (L : List (Int × Int)) (r m x b c d e : Int) : Bool × Int :=
  if rightF a L then (if tupF r m x b c d e then (countsF own reads snap a L m && !countsF own reads snap a L x, 0) else (false, 200)) else (false, 270)
theorem sees_f {l : List S44} {a own snap r m x b c d e v : Int} {reads : Bool} (hn : l.length ≤ 500) (hw : ∀ x ∈ l, wf44 x) (hr : 0 ≤ r) (hm : 0 ≤ m) :
    vision_Sees.f a l own reads snap r m x b c d e v = some (seesF own reads snap a (prs l) r m x b c d e) := by
  unfold vision_Sees.f seesF
  rw [check_f hn hw, hcheck_f hr hm]
  by_cases h1 : rightF a (prs l) = true
  · by_cases h2 : tupF r m x b c d e = true
    · simp [h1, h2, vision_look_sees.f]
    · simp [h1, h2]
  · simp [h1]
theorem counts_f {l : List S44} {a own snap id : Int} {reads : Bool} (hn : l.length ≤ 500) (hw : ∀ x ∈ l, wf44 x) :
    vision_Counts.f a l own reads snap id = some (rightF a (prs l) && countsF own reads snap a (prs l) id) := by
  unfold vision_Counts.f
  rw [check_f hn hw]
  by_cases h1 : rightF a (prs l) = true
  · simp [h1, vision_look_counts.f]
  · simp [h1]
theorem wakes_f : gazetteerlaw17_wakes.f = some true := by kernel_rfl

theorem wrap_up {i : Nat} (h : i ≤ 500) : wrap64 ((i : Int) + 1) = ((i + 1 : Nat) : Int) := by
  unfold wrap64; omega
theorem wrap_dn {i : Nat} (h : i ≤ 500) : wrap64 (((i + 1 : Nat) : Int) - 1) = (i : Int) := by
  unfold wrap64; omega
theorem fate_l {l : List S44} {a id : Int} (hn : l.length ≤ 500) : ∀ (d i : Nat), i + d = l.length →
    Ev (fun k => gazetteerref17_Fate.l0 k id (i : Int) a l) (match ((prs l).drop i).find? (fun p => p.1 == id) with | some p => if p.2 = 0 then (2, 0) else (1, p.2) | none => (3, 0)) := by
  intro d
  induction d with
  | zero =>
    intro i hi
    rw [List.drop_of_length_le (by rw [prs_length]; omega)]
    refine Ev.ret fun k => ?_
    simp only [gazetteerref17_Fate.l0]
    rw [if_neg (by omega)]
    rfl
  | succ d ih =>
    intro i hi
    have hlt : i < l.length := by omega
    have hd : (prs l).drop i = (l[i].f0, l[i].f1) :: (prs l).drop (i + 1) := by
      rw [List.drop_eq_getElem_cons (by rw [prs_length]; exact hlt)]
      congr 1
      simp [prs]
    rw [hd]
    by_cases hx : l[i].f0 = id
    · rw [List.find?_cons_of_pos (by simpa using hx)]
      by_cases hz : l[i].f1 = 0
      · refine Ev.step (f := fun k => gazetteerref17_Fate.j1 k id i true a l) (fun k => ?_) (Ev.ret fun k => ?_)
        · simp only [gazetteerref17_Fate.l0]
          rw [if_pos (by omega), if_pos (by omega), rd_get hlt, if_pos hx, hz]
          rfl
        · simp only [gazetteerref17_Fate.j1]
          rw [if_pos trivial, if_pos hz]
      · refine Ev.step (f := fun k => gazetteerref17_Fate.j1 k id i false a l) (fun k => ?_) (Ev.ret fun k => ?_)
        · simp only [gazetteerref17_Fate.l0]
          have hb : (l[i].f1 == 0) = false := by simp [hz]
          rw [if_pos (by omega), if_pos (by omega), rd_get hlt, if_pos hx, hb]
        · simp only [gazetteerref17_Fate.j1]
          rw [if_neg (by simp), if_pos (by omega), if_pos (by omega), rd_get hlt, if_pos hx, if_neg hz]
    · rw [List.find?_cons_of_neg (by simpa using hx)]
      refine Ev.step (f := fun k => gazetteerref17_Fate.j1 k id i false a l) (fun k => ?_) (Ev.step (fun k => ?_) (ih (i + 1) (by omega)))
      · simp only [gazetteerref17_Fate.l0]
        rw [if_pos (by omega), if_pos (by omega), rd_get hlt, if_neg hx]
      · simp only [gazetteerref17_Fate.j1]
        rw [if_neg (by simp), if_pos (by omega), if_pos (by omega), rd_get hlt, if_neg hx, wrap_up (by omega)]
theorem fate_ev {l : List S44} {a id : Int} (hn : l.length ≤ 500) : Ev (fun k => gazetteerref17_Fate.f k a l id) (refF a (prs l) id) := by
  unfold gazetteerref17_Fate.f refF
  by_cases h0 : id = 0
  · simp only [if_pos h0]
    exact Ev.now _
  simp only [if_neg h0]
  by_cases h1 : id < a
  · simp only [if_pos h1]
    exact Ev.now _
  simp only [if_neg h1]
  have := fate_l (a := a) (id := id) hn l.length 0 (by omega)
  rw [List.drop_zero] at this
  exact this
theorem counts_ev {l : List S44} {a id own snap : Int} {reads : Bool} (hn : l.length ≤ 500) : Ev (fun k => gazetteerref17_Counts.f k a l own reads snap id) (rcountsF own reads snap a (prs l) id) := by
  unfold gazetteerref17_Counts.f rcountsF
  refine Ev.bind (fate_ev hn) (Ev.all ?_)
  obtain ⟨x, hx⟩ : ∃ x, refF a (prs l) id = x := ⟨_, rfl⟩
  rw [hx]
  clear hx
  by_cases h : x.1 = 1 <;> by_cases h2 : id = 0 <;> cases reads <;> simp [h, h2]
  have e1 : (x.1 == 1) = false := by simp [h]
  have e2 : (id == 0) = false := by simp [h2]
  rw [e1, e2]
  rfl
theorem sees_ev {l : List S44} {a own snap r m x b c d e v : Int} {reads : Bool} (hn : l.length ≤ 500) :
    Ev (fun k => gazetteerref17_Sees.f k a l own reads snap r m x b c d e v) (rcountsF own reads snap a (prs l) m && !rcountsF own reads snap a (prs l) x) := by
  unfold gazetteerref17_Sees.f
  refine Ev.bind (counts_ev hn) ?_
  cases h : rcountsF own reads snap a (prs l) m
  · exact Ev.all rfl
  · exact Ev.bind (counts_ev hn) (Ev.all (by simp))

/-- The reference's loop over earlier numbers. -/
theorem right_l1 {l : List S44} {a y z : Int} {i : Nat} (hn : l.length ≤ 500) (hi : i < l.length) {R : Bool} (hnext : ((prs l).take i).any (fun q => q.2 == z) = false ∨ z = 0 → Ev (fun k => gazetteerref17_Right.l0 k ((i + 1 : Nat) : Int) a l) R)
    (hbad : z ≠ 0 → ((prs l).take i).any (fun q => q.2 == z) = true → R = false) : ∀ (d j : Nat), j + d = i → (z ≠ 0 → ((prs l).take j).any (fun q => q.2 == z) = false) → Ev (fun k => gazetteerref17_Right.l1 k i (j : Int) a l y z) R := by
  intro d
  induction d with
  | zero =>
    intro j hj hb
    obtain rfl : j = i := by omega
    refine Ev.step (fun k => ?_) (hnext (by by_cases hz : z = 0; exact .inr hz; exact .inl (hb hz)))
    simp only [gazetteerref17_Right.l1]
    rw [if_neg (by omega), wrap_up (by omega)]
  | succ d ih =>
    intro j hj hb
    by_cases hz : z = 0
    · refine Ev.step (fun k => ?_) (ih (j + 1) (by omega) (fun h => absurd hz h))
      simp only [gazetteerref17_Right.l1]
      rw [if_pos (by omega), if_pos hz, wrap_up (by omega)]
    · have hjl : j < l.length := by omega
      have ht : ∀ x, ((prs l).take (j + 1)).any (fun q => q.2 == x) = (((prs l).take j).any (fun q => q.2 == x) || l[j].f1 == x) := fun x => by
        rw [List.take_add_one, prs_get hjl]
        simp
      by_cases he : l[j].f1 = z
      · have hR := hbad hz (by
          rw [List.any_eq_true]
          refine ⟨(l[j].f0, l[j].f1), ?_, by simpa using he⟩
          rw [List.mem_take_iff_getElem]
          exact ⟨j, by rw [prs_length]; omega, by simp [prs]⟩)
        rw [hR]
        refine Ev.ret fun k => ?_
        simp only [gazetteerref17_Right.l1]
        rw [if_pos (by omega), if_neg hz, if_pos (by omega), if_pos (by omega), rd_get hjl, if_pos he]
      · refine Ev.step (fun k => ?_) (ih (j + 1) (by omega) (fun h => by rw [ht, hb hz]; simpa using he))
        simp only [gazetteerref17_Right.l1]
        rw [if_pos (by omega), if_neg hz, if_pos (by omega), if_pos (by omega), rd_get hjl, if_neg he, wrap_up (by omega)]
def rightFrom (a : Int) (l : List S44) (i : Nat) : Bool := (List.range l.length).all fun j => decide (j < i) || match (prs l)[j]? with | some p => rowOk a (prs l) j p | none => true
theorem rightFrom_next {a : Int} {l : List S44} {i : Nat} (h : i < l.length) : rightFrom a l i = (rowOk a (prs l) i (l[i].f0, l[i].f1) && rightFrom a l (i + 1)) := by
  unfold rightFrom
  rw [Bool.eq_iff_iff]
  simp only [Bool.and_eq_true, List.all_eq_true, List.mem_range, Bool.or_eq_true, decide_eq_true_eq]
  constructor
  · intro hh
    refine ⟨?_, fun j hj => ?_⟩
    · have := hh i h
      rw [prs_get h] at this
      rcases this with h1 | h1
      · omega
      · exact h1
    · rcases hh j hj with h1 | h1
      · exact .inl (by omega)
      · exact .inr h1
  · rintro ⟨h1, h2⟩ j hj
    by_cases hji : j = i
    · subst hji
      rw [prs_get h]
      exact .inr h1
    · rcases h2 j hj with h3 | h3
      · exact .inl (by omega)
      · exact .inr h3
theorem right_l0 {l : List S44} {a : Int} (hn : l.length ≤ 500) (hw : ∀ x ∈ l, wf44 x) : ∀ (d i : Nat), i + d = l.length → Ev (fun k => gazetteerref17_Right.l0 k (i : Int) a l) (rightFrom a l i) := by
  intro d
  induction d with
  | zero =>
    intro i hi
    have hr : rightFrom a l i = true := by
      unfold rightFrom
      rw [List.all_eq_true]
      intro j hj
      have := List.mem_range.1 hj
      simp; exact .inl (by omega)
    rw [hr]
    refine Ev.ret fun k => ?_
    simp only [gazetteerref17_Right.l0]
    rw [if_neg (by omega)]
  | succ d ih =>
    intro i hi
    have hlt : i < l.length := by omega
    rw [rightFrom_next hlt]
    have hu := u64_bounds (hw _ (List.getElem_mem hlt)).2
    by_cases h1 : l[i].f0 < a
    · have hr : rowOk a (prs l) i (l[i].f0, l[i].f1) = false := by
        unfold rowOk
        simp; omega
      rw [hr]
      refine Ev.step (f := fun k => gazetteerref17_Right.j2 k i true a l l[i].f0 l[i].f1) (fun k => ?_) (Ev.ret fun k => ?_)
      · simp only [gazetteerref17_Right.l0]
        rw [if_pos (by omega), if_pos (by omega), rd_get hlt, if_pos h1]
      · simp only [gazetteerref17_Right.j2]
        rw [if_pos trivial]
        rfl
    · -- the test of the row ahead
      obtain ⟨b, hb⟩ : ∃ b, (decide (i = 0) || (match (prs l)[i - 1]? with | some q => decide (q.1 < l[i].f0) | none => true)) = b := ⟨_, rfl⟩
      have hj : Ev (fun k => gazetteerref17_Right.j2 k i (!b) a l l[i].f0 l[i].f1) (rowOk a (prs l) i (l[i].f0, l[i].f1) && rightFrom a l (i + 1)) := by
        have hrow : rowOk a (prs l) i (l[i].f0, l[i].f1) = (b && (decide (l[i].f1 ≤ 0) || !((prs l).take i).any (fun q => q.2 == l[i].f1))) := by
          rw [← hb]
          unfold rowOk
          have : decide (a ≤ l[i].f0) = true := decide_eq_true (by omega)
          simp only [this, Bool.true_and]
          rfl
        rw [hrow]
        cases b
        · refine Ev.ret fun k => ?_
          simp only [gazetteerref17_Right.j2]
          rw [if_pos (by rfl)]
          rfl
        · refine Ev.step (fun k => ?_) (right_l1 (y := l[i].f0) (z := l[i].f1) (a := a) hn hlt (fun h => ?_) (fun hz h => ?_) i 0 (by omega) (fun _ => by simp))
          · simp only [gazetteerref17_Right.j2]
            rw [if_neg (by simp)]
            rfl
          · have e : (decide (l[i].f1 ≤ 0) || !((prs l).take i).any (fun q => q.2 == l[i].f1)) = true := by
              rcases h with h | h
              · rw [h]; simp
              · simp [h]
            rw [e, Bool.true_and, Bool.true_and]
            exact ih (i + 1) (by omega)
          · rw [h]
            have : decide (l[i].f1 ≤ 0) = false := decide_eq_false (by omega)
            rw [this]
            rfl
      rcases i with _ | i
      · refine Ev.step (fun k => ?_) hj
        simp only [gazetteerref17_Right.l0]
        rw [if_pos (by omega), if_pos (by omega), rd_get hlt, if_neg h1, if_neg (by omega), ← hb]
        rfl
      · refine Ev.step (fun k => ?_) hj
        simp only [gazetteerref17_Right.l0]
        rw [if_pos (by omega), if_pos (by omega), rd_get hlt, if_neg h1, if_pos (by omega), wrap_dn (by omega), if_pos (by omega), if_pos (by omega), rd_get (by omega), ← hb]
        simp only [Nat.add_sub_cancel]
        rw [prs_get (by omega)]
        congr 1
        rw [Bool.eq_iff_iff]
        simp
theorem right_ev {l : List S44} {a : Int} (hn : l.length ≤ 500) (h0 : 0 ≤ a) (hw : ∀ x ∈ l, wf44 x) : Ev (fun k => gazetteerref17_Right.f k a l) (rightF a (prs l)) := by
  unfold gazetteerref17_Right.f
  by_cases h1 : a = 0
  · have hr : rightF a (prs l) = false := by
      unfold rightF
      have : decide (1 ≤ a) = false := decide_eq_false (by omega)
      rw [this]
      rfl
    simp only [if_pos h1]
    rw [hr]
    refine Ev.ret fun k => ?_
    simp only [gazetteerref17_Right.j0]
    rw [if_pos trivial]
  · simp only [if_neg h1]
    by_cases h2 : 256 < l.length
    · have hr : rightF a (prs l) = false := by
        unfold rightF
        have : decide ((prs l).length ≤ 256) = false := decide_eq_false (by rw [prs_length]; omega)
        rw [this, Bool.and_false]
        rfl
      rw [hr]
      refine Ev.ret fun k => ?_
      simp only [gazetteerref17_Right.j0]
      rw [if_pos (by simp; omega)]
    · have hr : rightF a (prs l) = rightFrom a l 0 := by
        unfold rightF rightFrom
        have e1 : decide (1 ≤ a) = true := decide_eq_true (by omega)
        have e2 : decide ((prs l).length ≤ 256) = true := decide_eq_true (by rw [prs_length]; omega)
        rw [e1, e2, prs_length]
        simp
        rfl
      rw [hr]
      refine Ev.step (fun k => ?_) (right_l0 (a := a) hn hw l.length 0 (by omega))
      simp only [gazetteerref17_Right.j0]
      rw [if_neg (by simp; omega)]
      rfl
end Go.Proofs.Ytfggjefncnhikaa.A
