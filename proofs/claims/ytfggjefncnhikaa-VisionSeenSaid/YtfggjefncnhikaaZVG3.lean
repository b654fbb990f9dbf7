/- What the row of this claim reaches. No condition. -/
import Derived.Test.YtfggjefncnhikaaZVG2
import Derived.Test.YtfggjefncnhikaaZX3
import Derived.Test.YtfggjefncnhikaaZVSame
set_option linter.unusedVariables false
set_option linter.unusedSimpArgs false
namespace Go.Proofs.Ytfggjefncnhikaa.V
open Go.RowKit Go.Proofs.YtfggjefncnhikaaW.PrintWords Go.Proofs.YtfggjefncnhikaaW.PrintLast Go.Proofs.YtfggjefncnhikaaW.PrintMore
structure S53 where
  f0 : S27
  f1 : S30
  f2 : Int
def k53 : Kd S53 := Kd.iso (Kd.pair k27 (Kd.pair k30 (Kd.int .u32))) (fun x : S53 => (x.f0, x.f1, x.f2))
theorem k53_open {w : World} {x : S53} {cs : List Value} (h : k53.K w x cs) : cs = [.int .u64 x.f0.f0, .bool x.f0.f1, .int .u64 x.f0.f2, .int .i64 x.f1.f0, .int .i64 x.f1.f1, .int .i64 x.f1.f2, .int .i64 x.f1.f3, .int .u32 x.f2] := by
  obtain ⟨a, b, h1, h2, h3⟩ := h
  obtain ⟨c, d, g1, g2, g3⟩ := h3
  have e1 := k27_open h2
  have e2 := k30_open g2
  subst h1 g1 e1 e2
  cases g3
  rfl
def wf44 (x : S44) : Prop := ((Lit.int .u64 x.f0).wf = true) ∧ ((Lit.int .u64 x.f1).wf = true)
theorem op44 : Opens 44 k44 wf44 := Opens.iso (fun x : S44 => (x.f0, x.f1)) (fun a => ⟨a.1, a.2⟩) (fun _ => rfl) (Opens.struct Try.underlying44 (by kernel_rfl) (OpensF.cons rfl (Opens.int Try.underlying22 (by kernel_rfl)) (OpensF.last rfl (Opens.int Try.underlying22 (by kernel_rfl)))))
def wf23 (l : List (S44)) : Prop := l.length ≤ maxLen ∧ ∀ a ∈ l, wf44 a
theorem op23 : Opens 23 (Kd.slice 44 k44) wf23 := Opens.slice Try.underlying23 (by kernel_rfl) op44
def wf25 (x : S25) : Prop := ((Lit.int .u64 x.f0).wf = true) ∧ (wf23 x.f1)
theorem op25 : Opens 25 k25 wf25 := Opens.iso (fun x : S25 => (x.f0, x.f1)) (fun a => ⟨a.1, a.2⟩) (fun _ => rfl) (Opens.struct Try.underlying25 (by kernel_rfl) (OpensF.cons rfl (Opens.int Try.underlying22 (by kernel_rfl)) (OpensF.last rfl op23)))
def wf27 (x : S27) : Prop := ((Lit.int .u64 x.f0).wf = true) ∧ (True) ∧ ((Lit.int .u64 x.f2).wf = true)
theorem op27 : Opens 27 k27 wf27 := Opens.iso (fun x : S27 => (x.f0, x.f1, x.f2)) (fun a => ⟨a.1, a.2.1, a.2.2⟩) (fun _ => rfl) (Opens.struct Try.underlying27 (by kernel_rfl) (OpensF.cons rfl (Opens.int Try.underlying22 (by kernel_rfl)) (OpensF.cons rfl (Opens.bool Try.underlying4 (by kernel_rfl)) (OpensF.last rfl (Opens.int Try.underlying22 (by kernel_rfl))))))
def wf30 (x : S30) : Prop := ((Lit.int .i64 x.f0).wf = true) ∧ ((Lit.int .i64 x.f1).wf = true) ∧ ((Lit.int .i64 x.f2).wf = true) ∧ ((Lit.int .i64 x.f3).wf = true)
theorem op30 : Opens 30 k30 wf30 := Opens.iso (fun x : S30 => (x.f0, x.f1, x.f2, x.f3)) (fun a => ⟨a.1, a.2.1, a.2.2.1, a.2.2.2⟩) (fun _ => rfl) (Opens.struct Try.underlying30 (by kernel_rfl) (OpensF.cons rfl (Opens.int Try.underlying2 (by kernel_rfl)) (OpensF.cons rfl (Opens.int Try.underlying2 (by kernel_rfl)) (OpensF.cons rfl (Opens.int Try.underlying2 (by kernel_rfl)) (OpensF.last rfl (Opens.int Try.underlying2 (by kernel_rfl)))))))
def wf32 (x : S32) : Prop := ((Lit.int .u32 x.f0).wf = true) ∧ ((Lit.int .u64 x.f1).wf = true) ∧ ((Lit.int .u64 x.f2).wf = true) ∧ (wf30 x.f3) ∧ ((Lit.int .i64 x.f4).wf = true)
theorem op32 : Opens 32 k32 wf32 := Opens.iso (fun x : S32 => (x.f0, x.f1, x.f2, x.f3, x.f4)) (fun a => ⟨a.1, a.2.1, a.2.2.1, a.2.2.2.1, a.2.2.2.2⟩) (fun _ => rfl) (Opens.struct Try.underlying32 (by kernel_rfl) (OpensF.cons rfl (Opens.int Try.underlying28 (by kernel_rfl)) (OpensF.cons rfl (Opens.int Try.underlying22 (by kernel_rfl)) (OpensF.cons rfl (Opens.int Try.underlying22 (by kernel_rfl)) (OpensF.cons rfl op30 (OpensF.last rfl (Opens.int Try.underlying2 (by kernel_rfl))))))))
def wf59 (x : S59) : Prop := ((Lit.int .i64 x.f0).wf = true) ∧ ((Lit.int .i64 x.f1).wf = true)
theorem op59 : Opens 59 k59 wf59 := Opens.iso (fun x : S59 => (x.f0, x.f1)) (fun a => ⟨a.1, a.2⟩) (fun _ => rfl) (Opens.struct Try.underlying59 (by kernel_rfl) (OpensF.cons rfl (Opens.int Try.underlying3 (by kernel_rfl)) (OpensF.last rfl (Opens.int Try.underlying3 (by kernel_rfl)))))
def wf61 (x : S61) : Prop := wf59 x.f0 ∧ wf32 x.f1
theorem op61 : Opens 61 k61 wf61 := Opens.iso (fun x : S61 => (x.f0, x.f1)) (fun a => ⟨a.1, a.2⟩) (fun _ => rfl) (Opens.struct Try.underlying61 (by kernel_rfl) (OpensF.cons rfl op59 (OpensF.last rfl op32)))
def wf51 (l : List (S61)) : Prop := l.length ≤ maxLen ∧ ∀ a ∈ l, wf61 a
theorem op51 : Opens 51 (Kd.slice 61 k61) wf51 := Opens.slice Try.underlying51 (by kernel_rfl) op61
def wf53 (x : S53) : Prop := wf27 x.f0 ∧ wf30 x.f1 ∧ ((Lit.int .u32 x.f2).wf = true)
theorem op53 : Opens 53 k53 wf53 := Opens.iso (fun x : S53 => (x.f0, x.f1, x.f2)) (fun a => ⟨a.1, a.2.1, a.2.2⟩) (fun _ => rfl) (Opens.struct Try.underlying53 (by kernel_rfl) (OpensF.cons rfl op27 (OpensF.cons rfl op30 (OpensF.last rfl (Opens.int Try.underlying28 (by kernel_rfl))))))
end Go.Proofs.Ytfggjefncnhikaa.V
namespace Go.Proofs.Ytfggjefncnhikaa.V
open Go.RowKit Go.Proofs.YtfggjefncnhikaaW.PrintWords Go.Proofs.YtfggjefncnhikaaW.PrintLast
theorem Ev.ret {α : Type} {g : Nat → Option α} {r : α} (h : ∀ k, g (k + 1) = some r) : Ev g r := ⟨1, fun k hk => by
  obtain ⟨k, rfl⟩ : ∃ m, k = m + 1 := ⟨k - 1, by omega⟩
  exact h k⟩
theorem Ev.all {α : Type} {a : Option α} {r : α} (h : a = some r) : Ev (fun _ => a) r := ⟨0, fun _ _ => h⟩
theorem u64_bounds {a : Int} (h : (Lit.int .u64 a).wf = true) : 0 ≤ a ∧ a ≤ 18446744073709551615 := by
  have := bounds_u64 h
  omega
theorem rd_get {l : List S44} {i : Nat} (h : i < l.length) : rd_T44 l (i : Int) = l[i] := by
  simp [rd_T44, List.getD_eq_getElem?_getD, List.getElem?_eq_getElem h]
theorem prs_get {l : List S44} {i : Nat} (h : i < l.length) : (prs l)[i]? = some (l[i].f0, l[i].f1) := by
  simp [prs, List.getElem?_eq_getElem h]
theorem okFates_of {l : List S44} (hn : l.length ≤ 500) (hw : ∀ x ∈ l, wf44 x) : okFates l = true := by
  unfold okFates
  rw [Bool.and_eq_true, decide_eq_true_eq, List.all_eq_true]
  refine ⟨hn, fun x hx => ?_⟩
  obtain ⟨_, h⟩ := hw x hx
  rw [h]
  have := u64_bounds h
  simp; omega
theorem check_f {a : Int} {l : List S44} (hn : l.length ≤ 500) (hw : ∀ x ∈ l, wf44 x) : vision_Check.f a l = some (if rightF a (prs l) then 0 else 270) := by
  unfold vision_Check.f
  rw [if_pos (okFates_of hn hw)]
theorem box_f (a b c d : Int) : key_box.f a b c d = some (boxF a b c d) := by
  unfold key_box.f boxF
  by_cases h : a ≤ b <;> simp [h]
theorem rbox_f (a b c d : Int) : gazetteerref09_Box.f a b c d = some (boxF a b c d) := by
  unfold gazetteerref09_Box.f boxF
  by_cases h : a ≤ b <;> simp [h]
theorem hcheck_f {r m x a b c d v : Int} (hr : 0 ≤ r) (hm : 0 ≤ m) : heap_Check.f r m x a b c d v = some (if tupF r m x a b c d then 0 else 200) := by
  unfold heap_Check.f key_Check.f tupF
  rw [box_f]
  by_cases h1 : r = 0
  · simp [h1]
  by_cases h2 : m = 0
  · simp [h2]
  have h3 : 1 ≤ r := by omega
  have h4 : 1 ≤ m := by omega
  by_cases h5 : m ≤ 4294967295
  · by_cases h6 : x ≤ 4294967295
    · have h7 : ¬ 4294967295 < m := by omega
      have h8 : ¬ 4294967295 < x := by omega
      cases h : boxF a b c d <;> simp [h1, h2, h3, h4, h5, h6, h7, h8]
    · have h7 : ¬ 4294967295 < m := by omega
      have h8 : 4294967295 < x := by omega
      simp [h1, h2, h7, h8, h6]
  · have h7 : 4294967295 < m := by omega
    simp [h1, h2, h7, h5]
theorem rtup_f {r m x a b c d v : Int} : gazetteerref10_Right.f r m x a b c d v = some (tupF r m x a b c d) := by
  unfold gazetteerref10_Right.f tupF
  rw [rbox_f]
  by_cases h1 : 1 ≤ r <;> by_cases h2 : 1 ≤ m <;> by_cases h3 : m ≤ 4294967295 <;> by_cases h4 : x ≤ 4294967295 <;> simp [h1, h2, h3, h4]
theorem wakes_f : gazetteerlaw17_wakes.f = some true := by kernel_rfl
theorem wrap_up {i : Nat} (h : i ≤ 500) : wrap64 ((i : Int) + 1) = ((i + 1 : Nat) : Int) := by
  unfold wrap64; omega
theorem wrap_dn {i : Nat} (h : i ≤ 500) : wrap64 (((i + 1 : Nat) : Int) - 1) = (i : Int) := by
  unfold wrap64; omega
theorem fate_l {l : List S44} {a id : Int} (hn : l.length ≤ 500) : ∀ (d i : Nat), i + d = l.length →
    Ev (fun k => gazetteerref17_Fate.l0 k id (i : Int) a l) (match ((prs l).drop i).find? (fun p => p.1 == id) with | some p => if p.2 = 0 then (2, 0) else (1, p.2) | none => (3, 0)) := by
  intro d
  induction d with
  | zero =>
    intro i hi
    rw [List.drop_of_length_le (by rw [prs_length]; omega)]
    refine Ev.ret fun k => ?_
    simp only [gazetteerref17_Fate.l0]
    rw [if_neg (by omega)]
    rfl
  | succ d ih =>
    intro i hi
    have hlt : i < l.length := by omega
    have hd : (prs l).drop i = (l[i].f0, l[i].f1) :: (prs l).drop (i + 1) := by
      rw [List.drop_eq_getElem_cons (by rw [prs_length]; exact hlt)]
      congr 1
      simp [prs]
    rw [hd]
    by_cases hx : l[i].f0 = id
    · rw [List.find?_cons_of_pos (by simpa using hx)]
      by_cases hz : l[i].f1 = 0
      · refine Ev.step (f := fun k => gazetteerref17_Fate.j1 k id i true a l) (fun k => ?_) (Ev.ret fun k => ?_)
        · simp only [gazetteerref17_Fate.l0]
          rw [if_pos (by omega), if_pos (by omega), rd_get hlt, if_pos hx, hz]
          rfl
        · simp only [gazetteerref17_Fate.j1]
          rw [if_pos trivial, if_pos hz]
      · refine Ev.step (f := fun k => gazetteerref17_Fate.j1 k id i false a l) (fun k => ?_) (Ev.ret fun k => ?_)
        · simp only [gazetteerref17_Fate.l0]
          have hb : (l[i].f1 == 0) = false := by simp [hz]
          rw [if_pos (by omega), if_pos (by omega), rd_get hlt, if_pos hx, hb]
        · simp only [gazetteerref17_Fate.j1]
          rw [if_neg (by simp), if_pos (by omega), if_pos (by omega), rd_get hlt, if_pos hx, if_neg hz]
    · rw [List.find?_cons_of_neg (by simpa using hx)]
      refine Ev.step (f := fun k => gazetteerref17_Fate.j1 k id i false a l) (fun k => ?_) (Ev.step (fun k => ?_) (ih (i + 1) (by omega)))
      · simp only [gazetteerref17_Fate.l0]
        rw [if_pos (by omega), if_pos (by omega), rd_get hlt, if_neg hx]
      · simp only [gazetteerref17_Fate.j1]
        rw [if_neg (by simp), if_pos (by omega), if_pos (by omega), rd_get hlt, if_neg hx, wrap_up (by omega)]
theorem fate_ev {l : List S44} {a id : Int} (hn : l.length ≤ 500) : Ev (fun k => gazetteerref17_Fate.f k a l id) (refF a (prs l) id) := by
  unfold gazetteerref17_Fate.f refF
  by_cases h0 : id = 0
  · simp only [if_pos h0]
    exact Ev.now _
  simp only [if_neg h0]
  by_cases h1 : id < a
  · simp only [if_pos h1]
    exact Ev.now _
  simp only [if_neg h1]
  have := fate_l (a := a) (id := id) hn l.length 0 (by omega)
  rw [List.drop_zero] at this
  exact this
theorem counts_ev {l : List S44} {a id own snap : Int} {reads : Bool} (hn : l.length ≤ 500) : Ev (fun k => gazetteerref17_Counts.f k a l own reads snap id) (rcountsF own reads snap a (prs l) id) := by
  unfold gazetteerref17_Counts.f rcountsF
  refine Ev.bind (fate_ev hn) (Ev.all ?_)
  obtain ⟨x, hx⟩ : ∃ x, refF a (prs l) id = x := ⟨_, rfl⟩
  rw [hx]
  clear hx
  by_cases h : x.1 = 1 <;> by_cases h2 : id = 0 <;> cases reads <;> simp [h, h2]
  have e1 : (x.1 == 1) = false := by simp [h]
  have e2 : (id == 0) = false := by simp [h2]
  rw [e1, e2]
  rfl
theorem sees_ev {l : List S44} {a own snap r m x b c d e v : Int} {reads : Bool} (hn : l.length ≤ 500) :
    Ev (fun k => gazetteerref17_Sees.f k a l own reads snap r m x b c d e v) (rcountsF own reads snap a (prs l) m && !rcountsF own reads snap a (prs l) x) := by
  unfold gazetteerref17_Sees.f
  refine Ev.bind (counts_ev hn) ?_
  cases h : rcountsF own reads snap a (prs l) m
  · exact Ev.all rfl
  · exact Ev.bind (counts_ev hn) (Ev.all (by simp))
theorem right_l1 {l : List S44} {a y z : Int} {i : Nat} (hn : l.length ≤ 500) (hi : i < l.length) {R : Bool} (hnext : ((prs l).take i).any (fun q => q.2 == z) = false ∨ z = 0 → Ev (fun k => gazetteerref17_Right.l0 k ((i + 1 : Nat) : Int) a l) R)
    (hbad : z ≠ 0 → ((prs l).take i).any (fun q => q.2 == z) = true → R = false) : ∀ (d j : Nat), j + d = i → (z ≠ 0 → ((prs l).take j).any (fun q => q.2 == z) = false) → Ev (fun k => gazetteerref17_Right.l1 k i (j : Int) a l y z) R := by
  intro d
  induction d with
  | zero =>
    intro j hj hb
    obtain rfl : j = i := by omega
    refine Ev.step (fun k => ?_) (hnext (by by_cases hz : z = 0; exact .inr hz; exact .inl (hb hz)))
    simp only [gazetteerref17_Right.l1]
    rw [if_neg (by omega), wrap_up (by omega)]
  | succ d ih =>
    intro j hj hb
    by_cases hz : z = 0
    · refine Ev.step (fun k => ?_) (ih (j + 1) (by omega) (fun h => absurd hz h))
      simp only [gazetteerref17_Right.l1]
      rw [if_pos (by omega), if_pos hz, wrap_up (by omega)]
    · have hjl : j < l.length := by omega
      have ht : ∀ x, ((prs l).take (j + 1)).any (fun q => q.2 == x) = (((prs l).take j).any (fun q => q.2 == x) || l[j].f1 == x) := fun x => by
        rw [List.take_add_one, prs_get hjl]
        simp
      by_cases he : l[j].f1 = z
      · have hR := hbad hz (by
          rw [List.any_eq_true]
          refine ⟨(l[j].f0, l[j].f1), ?_, by simpa using he⟩
          rw [List.mem_take_iff_getElem]
          exact ⟨j, by rw [prs_length]; omega, by simp [prs]⟩)
        rw [hR]
        refine Ev.ret fun k => ?_
        simp only [gazetteerref17_Right.l1]
        rw [if_pos (by omega), if_neg hz, if_pos (by omega), if_pos (by omega), rd_get hjl, if_pos he]
      · refine Ev.step (fun k => ?_) (ih (j + 1) (by omega) (fun h => by rw [ht, hb hz]; simpa using he))
        simp only [gazetteerref17_Right.l1]
        rw [if_pos (by omega), if_neg hz, if_pos (by omega), if_pos (by omega), rd_get hjl, if_neg he, wrap_up (by omega)]
def rightFrom (a : Int) (l : List S44) (i : Nat) : Bool := (List.range l.length).all fun j => decide (j < i) || match (prs l)[j]? with | some p => rowOk a (prs l) j p | none => true
theorem rightFrom_next {a : Int} {l : List S44} {i : Nat} (h : i < l.length) : rightFrom a l i = (rowOk a (prs l) i (l[i].f0, l[i].f1) && rightFrom a l (i + 1)) := by
  unfold rightFrom
  rw [Bool.eq_iff_iff]
  simp only [Bool.and_eq_true, List.all_eq_true, List.mem_range, Bool.or_eq_true, decide_eq_true_eq]
  constructor
  · intro hh
    refine ⟨?_, fun j hj => ?_⟩
    · have := hh i h
      rw [prs_get h] at this
      rcases this with h1 | h1
      · omega
      · exact h1
    · rcases hh j hj with h1 | h1
      · exact .inl (by omega)
      · exact .inr h1
  · rintro ⟨h1, h2⟩ j hj
    by_cases hji : j = i
    · subst hji
      rw [prs_get h]
      exact .inr h1
    · rcases h2 j hj with h3 | h3
      · exact .inl (by omega)
      · exact .inr h3
theorem right_l0 {l : List S44} {a : Int} (hn : l.length ≤ 500) (hw : ∀ x ∈ l, wf44 x) : ∀ (d i : Nat), i + d = l.length → Ev (fun k => gazetteerref17_Right.l0 k (i : Int) a l) (rightFrom a l i) := by
  intro d
  induction d with
  | zero =>
    intro i hi
    have hr : rightFrom a l i = true := by
      unfold rightFrom
      rw [List.all_eq_true]
      intro j hj
      have := List.mem_range.1 hj
      simp; exact .inl (by omega)
    rw [hr]
    refine Ev.ret fun k => ?_
    simp only [gazetteerref17_Right.l0]
    rw [if_neg (by omega)]
  | succ d ih =>
    intro i hi
    have hlt : i < l.length := by omega
    rw [rightFrom_next hlt]
    have hu := u64_bounds (hw _ (List.getElem_mem hlt)).2
    by_cases h1 : l[i].f0 < a
    · have hr : rowOk a (prs l) i (l[i].f0, l[i].f1) = false := by
        unfold rowOk
        simp; omega
      rw [hr]
      refine Ev.step (f := fun k => gazetteerref17_Right.j2 k i true a l l[i].f0 l[i].f1) (fun k => ?_) (Ev.ret fun k => ?_)
      · simp only [gazetteerref17_Right.l0]
        rw [if_pos (by omega), if_pos (by omega), rd_get hlt, if_pos h1]
      · simp only [gazetteerref17_Right.j2]
        rw [if_pos trivial]
        rfl
    · -- the test of the row ahead
      obtain ⟨b, hb⟩ : ∃ b, (decide (i = 0) || (match (prs l)[i - 1]? with | some q => decide (q.1 < l[i].f0) | none => true)) = b := ⟨_, rfl⟩
      have hj : Ev (fun k => gazetteerref17_Right.j2 k i (!b) a l l[i].f0 l[i].f1) (rowOk a (prs l) i (l[i].f0, l[i].f1) && rightFrom a l (i + 1)) := by
        have hrow : rowOk a (prs l) i (l[i].f0, l[i].f1) = (b && (decide (l[i].f1 ≤ 0) || !((prs l).take i).any (fun q => q.2 == l[i].f1))) := by
          rw [← hb]
          unfold rowOk
          have : decide (a ≤ l[i].f0) = true := decide_eq_true (by omega)
          simp only [this, Bool.true_and]
          rfl
        rw [hrow]
        cases b
        · refine Ev.ret fun k => ?_
          simp only [gazetteerref17_Right.j2]
          rw [if_pos (by rfl)]
          rfl
        · refine Ev.step (fun k => ?_) (right_l1 (y := l[i].f0) (z := l[i].f1) (a := a) hn hlt (fun h => ?_) (fun hz h => ?_) i 0 (by omega) (fun _ => by simp))
          · simp only [gazetteerref17_Right.j2]
            rw [if_neg (by simp)]
            rfl
          · have e : (decide (l[i].f1 ≤ 0) || !((prs l).take i).any (fun q => q.2 == l[i].f1)) = true := by
              rcases h with h | h
              · rw [h]; simp
              · simp [h]
            rw [e, Bool.true_and, Bool.true_and]
            exact ih (i + 1) (by omega)
          · rw [h]
            have : decide (l[i].f1 ≤ 0) = false := decide_eq_false (by omega)
            rw [this]
            rfl
      rcases i with _ | i
      · refine Ev.step (fun k => ?_) hj
        simp only [gazetteerref17_Right.l0]
        rw [if_pos (by omega), if_pos (by omega), rd_get hlt, if_neg h1, if_neg (by omega), ← hb]
        rfl
      · refine Ev.step (fun k => ?_) hj
        simp only [gazetteerref17_Right.l0]
        rw [if_pos (by omega), if_pos (by omega), rd_get hlt, if_neg h1, if_pos (by omega), wrap_dn (by omega), if_pos (by omega), if_pos (by omega), rd_get (by omega), ← hb]
        simp only [Nat.add_sub_cancel]
        rw [prs_get (by omega)]
        congr 1
        rw [Bool.eq_iff_iff]
        simp
theorem right_ev {l : List S44} {a : Int} (hn : l.length ≤ 500) (h0 : 0 ≤ a) (hw : ∀ x ∈ l, wf44 x) : Ev (fun k => gazetteerref17_Right.f k a l) (rightF a (prs l)) := by
  unfold gazetteerref17_Right.f
  by_cases h1 : a = 0
  · have hr : rightF a (prs l) = false := by
      unfold rightF
      have : decide (1 ≤ a) = false := decide_eq_false (by omega)
      rw [this]
      rfl
    simp only [if_pos h1]
    rw [hr]
    refine Ev.ret fun k => ?_
    simp only [gazetteerref17_Right.j0]
    rw [if_pos trivial]
  · simp only [if_neg h1]
    by_cases h2 : 256 < l.length
    · have hr : rightF a (prs l) = false := by
        unfold rightF
        have : decide ((prs l).length ≤ 256) = false := decide_eq_false (by rw [prs_length]; omega)
        rw [this, Bool.and_false]
        rfl
      rw [hr]
      refine Ev.ret fun k => ?_
      simp only [gazetteerref17_Right.j0]
      rw [if_pos (by simp; omega)]
    · have hr : rightF a (prs l) = rightFrom a l 0 := by
        unfold rightF rightFrom
        have e1 : decide (1 ≤ a) = true := decide_eq_true (by omega)
        have e2 : decide ((prs l).length ≤ 256) = true := decide_eq_true (by rw [prs_length]; omega)
        rw [e1, e2, prs_length]
        simp
        rfl
      rw [hr]
      refine Ev.step (fun k => ?_) (right_l0 (a := a) hn hw l.length 0 (by omega))
      simp only [gazetteerref17_Right.j0]
      rw [if_neg (by simp; omega)]
      rfl
end Go.Proofs.Ytfggjefncnhikaa.V
namespace Go.Proofs.Ytfggjefncnhikaa.V
open Go.RowKit Go.Proofs.YtfggjefncnhikaaW.PrintWords Go.Proofs.YtfggjefncnhikaaW.PrintLast Go.Proofs.YtfggjefncnhikaaW.PrintMore
set_option maxHeartbeats 4000000 in
set_option maxRecDepth 100000 in
theorem law_far (a0_0 : Int) (A0_1 : Option Addr) (c0_1 : Nat) (l0_1 : List S44) (A1 : Option Addr) (c1 : Nat) (l1 : List S61) (own : Int) (reads : Bool) (snap x0 x1 y0 y1 row : Int) (w : World) (h : 500 < l0_1.length ∨ 300 < l1.length) :
    Calls Try.prog 8 #[.agg #[.int .u64 a0_0, .slice A0_1 l0_1.length c0_1], .slice A1 l1.length c1, .agg #[.int .u64 own, .bool reads, .int .u64 snap, .int .i64 x0, .int .i64 x1, .int .i64 y0, .int .i64 y1, .int .u32 row]] w fun e w' => e = .returned (.bool true) ∧ Below w.heap.size w w' := by
  have hwk := fun W => Lib.hid (gazetteerlaw17_wakes.calls true W wakes_f)
  obtain ⟨W0, hW0⟩ : ∃ W, ((w.alloc (.cells #[.int .u64 a0_0, .slice A0_1 l0_1.length c0_1] 25)).alloc (.cells #[.slice A1 l1.length c1] 51)).alloc (.cells #[.int .u64 own, .bool reads, .int .u64 snap, .int .i64 x0, .int .i64 x1, .int .i64 y0, .int .i64 y1, .int .u32 row] 53) = W := ⟨_, rfl⟩
  have b0 : Blk W0 w.heap.size 25 #[.int .u64 a0_0, .slice A0_1 l0_1.length c0_1] := by rw [← hW0]; exact Blk.alloc (Blk.alloc (Blk.newAt rfl) _) _
  have b1 : Blk W0 (w.heap.size + 1) 51 #[.slice A1 l1.length c1] := by rw [← hW0]; exact Blk.alloc (Blk.newAt (by simp)) _
  have hB : Below w.heap.size w W0 := by rw [← hW0]; (repeat (first | exact Below.refl _ _ | refine Below.drew ?_ | refine below_drewN' ?_ | refine Below.alloc ?_ (by simp; try omega) _ | refine Below.setCell ?_ (by simp; try omega) _))
  have HW := Lib.hid hW0
  clear hW0
  by_cases h1 : 500 < l0_1.length
  · have d1 : decide (500 < l0_1.length) = true := decide_eq_true h1
    go_enter Try.func8, Try.ntmps8
    go_wp2_with (go_at_call 9; (with_reducible refine (hwk _).out.mono ?_); rintro e w1 ⟨rfl, hb1⟩; rw [HW.out] at hb1; have k0 := (b0.keep hb1).cell 0; have k1 := (b0.keep hb1).cell 1; have k2 := (b1.keep hb1).cell 0; simp at k0 k1 k2)
    go_ret
    exact ⟨rfl, keep_below hB hb1⟩
  · have h2 : 300 < l1.length := by omega
    have d1 : decide (500 < l0_1.length) = false := decide_eq_false h1
    have d2 : decide (300 < l1.length) = true := decide_eq_true h2
    go_enter Try.func8, Try.ntmps8
    go_wp2_with (go_at_call 9; (with_reducible refine (hwk _).out.mono ?_); rintro e w1 ⟨rfl, hb1⟩; rw [HW.out] at hb1; have k0 := (b0.keep hb1).cell 0; have k1 := (b0.keep hb1).cell 1; have k2 := (b1.keep hb1).cell 0; simp at k0 k1 k2)
    go_ret
    exact ⟨rfl, keep_below hB hb1⟩
end Go.Proofs.Ytfggjefncnhikaa.V
namespace Go.Proofs.Ytfggjefncnhikaa.V
open Go.RowKit Go.Proofs.YtfggjefncnhikaaW.PrintWords Go.Proofs.YtfggjefncnhikaaW.PrintLast
def meetsF (a b c d x y z t : Int) : Bool := boxF a b c d && boxF x y z t && decide (a ≤ y) && decide (x ≤ b) && decide (c ≤ t) && decide (z ≤ d)
theorem kmeets_f (a b c d x y z t : Int) : key_Meets.f a b c d x y z t = some (meetsF a b c d x y z t) := by
  unfold key_Meets.f meetsF
  rw [box_f, box_f]
  simp only [Option.bind_some]
  by_cases h1 : boxF a b c d = true <;> by_cases h2 : boxF x y z t = true <;> by_cases h3 : a ≤ y <;> by_cases h4 : x ≤ b <;> by_cases h5 : c ≤ t <;> simp [h1, h2, h3, h4, h5]
theorem inside_f (a b x : Int) : gazetteerref09_inside.f a b x = some (decide (a ≤ x) && decide (x ≤ b)) := by
  unfold gazetteerref09_inside.f
  by_cases h : a ≤ x <;> simp [h]
theorem rmeets_j2 (k : Nat) (p q a b c d x y z t : Int) : gazetteerref09_Meets.j2 (k + 1) p q a b c d x y z t = some (decide (a ≤ p) && decide (p ≤ b) && (decide (x ≤ p) && decide (p ≤ y)) && (decide (c ≤ q) && decide (q ≤ d)) && (decide (z ≤ q) && decide (q ≤ t))) := by
  simp only [gazetteerref09_Meets.j2, inside_f, Option.bind_some]
  generalize (decide (a ≤ p) && decide (p ≤ b)) = u1
  generalize (decide (x ≤ p) && decide (p ≤ y)) = u2
  generalize (decide (c ≤ q) && decide (q ≤ d)) = u3
  cases u1 <;> cases u2 <;> cases u3 <;> simp
theorem rmeets_ev (a b c d x y z t : Int) : Ev (fun k => gazetteerref09_Meets.f k a b c d x y z t) (meetsF a b c d x y z t) := by
  refine ⟨3, fun k hk => ?_⟩
  obtain ⟨k, rfl⟩ : ∃ m, k = m + 3 := ⟨k - 3, by omega⟩
  unfold gazetteerref09_Meets.f meetsF
  rw [rbox_f, rbox_f]
  simp only [Option.bind_some]
  by_cases h1 : boxF a b c d = true
  · rw [if_pos h1]
    by_cases h2 : boxF x y z t = true
    · rw [h1, h2]
      have e1 : a ≤ b ∧ c ≤ d := by simpa [boxF] using h1
      have e2 : x ≤ y ∧ z ≤ t := by simpa [boxF] using h2
      simp only [gazetteerref09_Meets.j0, gazetteerref09_Meets.j1, rmeets_j2]
      by_cases g1 : x > a <;> by_cases g2 : z > c <;> simp only [g1, g2, if_true, if_false, Bool.not_true, Bool.false_eq_true] <;> congr 1 <;> rw [Bool.eq_iff_iff] <;> simp <;> omega
    · have h2' : boxF x y z t = false := by simpa using h2
      rw [h1, h2']
      simp [gazetteerref09_Meets.j0]
  · have h1' : boxF a b c d = false := by simpa using h1
    rw [if_neg h1, h1']
    simp [gazetteerref09_Meets.j0]
theorem mB_eq (a b c d : Int) (x : S61) : mB a b c d x = meetsF x.f1.f3.f0 x.f1.f3.f1 x.f1.f3.f2 x.f1.f3.f3 a b c d := by
  unfold mB
  rw [kmeets_f]
  rfl
def rseesB (own : Int) (reads : Bool) (snap first : Int) (L : List S44) (x : S61) : Bool := rcountsF own reads snap first (prs L) x.f1.f1 && !rcountsF own reads snap first (prs L) x.f1.f2
theorem rd61_get {l : List S61} {i : Nat} (h : i < l.length) : rd_T61 l (i : Int) = l[i] := by
  unfold rd_T61
  rw [List.getD_eq_getElem?_getD, show ((i : Int)).toNat = i by simp, List.getElem?_eq_getElem h]
  rfl
theorem wrap_up3 {i : Nat} (h : i ≤ 300) : wrap64 ((i : Int) + 1) = ((i + 1 : Nat) : Int) := wrap_up (by omega)
theorem in_l0 {l : List S44} {l2 : List S61} {a own snap x0 x1 y0 y1 : Int} {reads w : Bool} (hn : l.length ≤ 500) (hn2 : l2.length ≤ 300) : ∀ (d i : Nat) (acc : List S61), i + d = l2.length → acc.length ≤ i →
    Ev (fun k => gazetteerref17_In.l0 k l2 w acc (i : Int) a l own reads snap x0 x1 y0 y1) (acc ++ (l2.drop i).filter (fun x => rseesB own reads snap a l x && (!w || mB x0 x1 y0 y1 x))) := by
  intro d
  induction d with
  | zero =>
    intro i acc hi ha
    rw [List.drop_eq_nil_of_le (by omega)]
    refine Ev.ret fun k => ?_
    simp only [gazetteerref17_In.l0]
    rw [if_neg (by omega)]
    simp
  | succ d ih =>
    intro i acc hi ha
    have hlt : i < l2.length := by omega
    rw [List.drop_eq_getElem_cons hlt, List.filter_cons]
    refine Ev.step (fun k => by simp only [gazetteerref17_In.l0]; rw [if_pos (by omega), if_pos (by omega), rd61_get hlt, wrap_up3 (by omega)]) ?_
    refine Ev.bind (sees_ev hn) ?_
    by_cases hs : rseesB own reads snap a l l2[i] = true
    · have hs' := hs
      unfold rseesB at hs'
      simp only [hs', if_true]
      cases w
      · simp only [Bool.false_eq_true, if_false, hs, Bool.not_false, Bool.true_or, Bool.and_true, if_true]
        have := ih (i + 1) (acc ++ [l2[i]]) (by omega) (by simp; omega)
        rw [List.append_assoc] at this
        simp only [if_pos (show acc.length < 1759218604441 by omega)]
        simp only [Bool.not_false, Bool.true_or, Bool.and_true] at this
        exact this
      · simp only [if_true, hs, Bool.not_true, Bool.false_or, Bool.true_and]
        refine Ev.bind (rmeets_ev _ _ _ _ _ _ _ _) ?_
        rw [mB_eq]
        by_cases hm : meetsF l2[i].f1.f3.f0 l2[i].f1.f3.f1 l2[i].f1.f3.f2 l2[i].f1.f3.f3 x0 x1 y0 y1 = true
        · simp only [hm, if_true, if_pos (show acc.length < 1759218604441 by omega)]
          have := ih (i + 1) (acc ++ [l2[i]]) (by omega) (by simp; omega)
          rw [List.append_assoc] at this
          simpa [hs] using this
        · simp only [hm, Bool.false_eq_true, if_false]
          have := ih (i + 1) acc (by omega) (by omega)
          simpa [hs] using this
    · have hs' := hs
      unfold rseesB at hs'
      simp only [hs', Bool.false_eq_true, if_false]
      have hs2 : rseesB own reads snap a l l2[i] = false := by simpa using hs
      simp only [hs2, Bool.false_and, Bool.false_eq_true, if_false]
      exact ih (i + 1) acc (by omega) (by omega)
def tupS (x : S61) : Bool := tupF x.f1.f0 x.f1.f1 x.f1.f2 x.f1.f3.f0 x.f1.f3.f1 x.f1.f3.f2 x.f1.f3.f3
theorem all_l0 {l2 : List S61} (hn2 : l2.length ≤ 300) : ∀ (d i : Nat), i + d = l2.length → Ev (fun k => gazetteerref17_All.l0 k l2 (i : Int)) ((l2.drop i).all tupS) := by
  intro d
  induction d with
  | zero =>
    intro i hi
    rw [List.drop_eq_nil_of_le (by omega)]
    refine Ev.ret fun k => ?_
    simp only [gazetteerref17_All.l0]
    rw [if_neg (by omega)]
    rfl
  | succ d ih =>
    intro i hi
    have hlt : i < l2.length := by omega
    rw [List.drop_eq_getElem_cons hlt, List.all_cons]
    refine Ev.step (fun k => by simp only [gazetteerref17_All.l0]; rw [if_pos (by omega), if_pos (by omega), rd61_get hlt, wrap_up3 (by omega), rtup_f, Option.bind_some]) ?_
    by_cases ht : tupS l2[i] = true
    · have ht' := ht
      unfold tupS at ht'
      simp only [ht, ht', if_true, Bool.true_and]
      exact ih (i + 1) (by omega)
    · have ht' := ht
      unfold tupS at ht'
      have ht2 : tupS l2[i] = false := by simpa using ht
      simp only [ht2, ht', Bool.false_eq_true, if_false, Bool.false_and]
      exact Ev.now _
theorem same_l0 {l2 : List S61} (hn2 : l2.length ≤ 300) : ∀ (d i : Nat), i + d = l2.length → Ev (fun k => gazetteerref17_Same.l0 k l2 l2 (i : Int)) true := by
  intro d
  induction d with
  | zero =>
    intro i hi
    refine Ev.ret fun k => ?_
    simp only [gazetteerref17_Same.l0]
    rw [if_neg (by omega)]
  | succ d ih =>
    intro i hi
    refine Ev.step (fun k => by simp only [gazetteerref17_Same.l0]; rw [if_pos (by omega), if_pos (by omega), if_pos (by omega), if_neg (by simp), wrap_up3 (by omega)]) (ih (i + 1) (by omega))
theorem same_ev {l2 : List S61} (hn2 : l2.length ≤ 300) : Ev (fun k => gazetteerref17_Same.f k l2 l2) true := by
  unfold gazetteerref17_Same.f
  simp only [if_true]
  exact same_l0 hn2 l2.length 0 (by omega)
theorem bad_f {x : S61} (hw : wf61 x) : badF x = some (!tupS x) := by
  obtain ⟨_, hr, hm, _⟩ := hw
  unfold badF tupS
  have h1 : 0 ≤ x.f1.f0 := by have := bounds_u32 hr; omega
  have h2 : 0 ≤ x.f1.f1 := by have := bounds_u64 hm; omega
  rw [hcheck_f h1 h2, Option.bind_some]
  by_cases h : tupF x.f1.f0 x.f1.f1 x.f1.f2 x.f1.f3.f0 x.f1.f3.f1 x.f1.f3.f2 x.f1.f3.f3 = true
  · rw [if_pos h, h]; rfl
  · have h' : tupF x.f1.f0 x.f1.f1 x.f1.f2 x.f1.f3.f0 x.f1.f3.f1 x.f1.f3.f2 x.f1.f3.f3 = false := by simpa using h
    rw [if_neg h, h']; rfl
theorem badIdx_f : ∀ {l : List S61} (_ : ∀ x ∈ l, wf61 x) (i : Int), 0 ≤ i → ∃ r, badIdx l i = some r ∧ (l.all tupS = true → r = -1) ∧ (l.all tupS = false → 0 ≤ r)
  | [], _, i, _ => ⟨-1, rfl, fun _ => rfl, fun h => by simp at h⟩
  | x :: xs, hw, i, hi => by
    obtain ⟨r, hr, h1, h2⟩ := badIdx_f (l := xs) (fun y hy => hw y (List.mem_cons_of_mem _ hy)) (i + 1) (by omega)
    unfold badIdx
    rw [bad_f (hw x List.mem_cons_self), Option.bind_some]
    cases ht : tupS x
    · exact ⟨i, by simp, fun h => by simp [ht] at h, fun _ => hi⟩
    · refine ⟨r, by simp [hr], fun h => h1 (by simpa [ht] using h), fun h => h2 (by simpa [ht] using h)⟩
theorem ready_f {a : Int} {l : List S44} {l1 : List S61} (hn : l.length ≤ 500) (hw : ∀ x ∈ l, wf44 x) (hn1 : l1.length ≤ 300) (hw1 : ∀ x ∈ l1, wf61 x) :
    vision_ready.f a l l1 = some (if rightF a (prs l) then (if l1.all tupS then 0 else 200) else 270) := by
  unfold vision_ready.f
  rw [if_pos (by omega), check_f hn hw, Option.bind_some]
  by_cases h : rightF a (prs l) = true
  · simp only [h, if_true, not_true_eq_false, if_false]
    obtain ⟨r, hr, h1, h2⟩ := badIdx_f hw1 0 (by omega)
    rw [hr, Option.bind_some]
    cases ht : l1.all tupS
    · rw [if_pos (h2 ht)]; simp
    · rw [if_neg (by have := h1 ht; omega)]; simp
  · have h' : rightF a (prs l) = false := by simpa using h
    simp [h']
theorem rsees_eq {l : List S44} {a own snap : Int} {reads : Bool} {x : S61} (hw : ∀ x ∈ l, wf44 x) (hR : rightF a (prs l) = true) (hs : 0 ≤ snap) (hx : wf61 x) : rseesB own reads snap a l x = seesB own reads snap a l x := by
  obtain ⟨_, _, hm, hm2, _⟩ := hx
  have h1 := (u64_bounds hm).1
  have h2 := (u64_bounds hm2).1
  have hL : ∀ p ∈ prs l, 0 ≤ p.2 := by
    intro p hp
    unfold prs at hp
    obtain ⟨y, hy, rfl⟩ := List.mem_map.1 hp
    exact (u64_bounds (hw y hy).2).1
  unfold rseesB seesB
  rw [same_counts hR h1 hs hL, same_counts hR h2 hs hL]
end Go.Proofs.Ytfggjefncnhikaa.V
