/- What the row of this claim reaches. No condition. -/
import Derived.Test.YtfggjefncnhikaaZVMap
import Derived.Test.YtfggjefncnhikaaZVTuple
set_option linter.unusedVariables false
set_option linter.unusedSimpArgs false
namespace Go.Proofs.Ytfggjefncnhikaa
open Go.RowKit
def rowOk (first : Int) (L : List (Int × Int)) (i : Nat) (p : Int × Int) : Bool :=
  decide (first ≤ p.1) && (decide (i = 0) || (match L[i - 1]? with | some q => decide (q.1 < p.1) | none => true)) && (decide (p.2 ≤ 0) || !(L.take i).any (fun q => q.2 == p.2))
def upTo (first : Int) (L : List (Int × Int)) (k : Nat) : Prop := ∀ i (p : Int × Int), i < k → L[i]? = some p → rowOk first L i p = true
def rightF (first : Int) (L : List (Int × Int)) : Bool := decide (1 ≤ first) && decide (L.length ≤ 256) && (List.range L.length).all fun i => match L[i]? with | some p => rowOk first L i p | none => true
theorem rightF_true {first : Int} {L : List (Int × Int)} : rightF first L = true ↔ (1 ≤ first ∧ L.length ≤ 256 ∧ upTo first L L.length) := by
  unfold rightF upTo
  simp only [Bool.and_eq_true, decide_eq_true_eq, List.all_eq_true, List.mem_range, and_assoc]
  refine and_congr_right fun _ => and_congr_right fun _ => ⟨fun h i p hi hp => ?_, fun h i hi => ?_⟩
  · have := h i hi
    rw [hp] at this
    exact this
  · rw [List.getElem?_eq_getElem hi]
    exact h i _ hi (List.getElem?_eq_getElem hi)
theorem rightF_rising {first : Int} {L : List (Int × Int)} (h : rightF first L = true) : Rising L := by
  have hu := (rightF_true.1 h).2.2
  have h1 : ∀ i (p q : Int × Int), L[i]? = some p → L[i + 1]? = some q → p.1 < q.1 := fun i p q hp hq => by
    have hl : i + 1 < L.length := (List.getElem?_eq_some_iff.1 hq).1
    have := hu (i + 1) q hl hq
    unfold rowOk at this
    simp only [Nat.add_sub_cancel, hp, Bool.and_eq_true, Bool.or_eq_true, decide_eq_true_eq] at this
    omega
  intro i j p q hij hp hq
  obtain ⟨d, rfl⟩ : ∃ d, j = i + 1 + d := ⟨j - (i + 1), by omega⟩
  induction d generalizing q with
  | zero => exact h1 i p q hp hq
  | succ d ih =>
    have hl : i + 1 + (d + 1) < L.length := (List.getElem?_eq_some_iff.1 hq).1
    have hr : L[i + 1 + d]? = some (L[i + 1 + d]'(by omega)) := List.getElem?_eq_getElem (by omega)
    have := ih _ (by omega) hr
    have := h1 (i + 1 + d) _ q hr hq
    omega
theorem any_next {L : List (Int × Int)} {i : Nat} {p : Int × Int} (hp : L[i]? = some p) : (fun x => (L.take (i + 1)).any (fun q => q.2 == x)) = fun x => x == p.2 || (L.take i).any (fun q => q.2 == x) := by
  funext x
  rw [List.take_add_one, hp]
  simp only [Option.toList_some, List.any_append, List.any_cons, List.any_nil, Bool.or_false]
  rw [Bool.or_comm, Bool.eq_iff_iff]
  simp only [Bool.or_eq_true, beq_iff_eq]
  constructor <;> (rintro (h | h); exact .inl h.symm; exact .inr h)
theorem kept_round {wr w2 : World} {o : Obj} {k M : Nat} (hg : ((wr.alloc o).drewN k).grownBy w2 (some M)) (b : Nat) (hb : b < wr.heap.size) (hne : b ≠ M) : w2.heap[b]? = wr.heap[b]? :=
  (hg.block b (by simp; omega) (fun e => hne (by injection e))).trans (Below.heap_alloc wr o b hb)
set_option maxHeartbeats 2000000 in
set_option maxRecDepth 100000 in
theorem check_any (first : Int) (L : List (Int × Int)) (A : Option Addr) (c : Nat) (w : World) (hn : L.length ≤ 500) (hf : Fts w w.heap.size A L) (hw : ∀ p ∈ L, (Lit.int .u64 p.2).wf = true ∧ 0 ≤ p.2) :
    Calls Try.prog 10 #[.agg #[.int .u64 first, .slice A L.length c]] w fun e w' => e = .returned (.int .i64 (if rightF first L then 0 else 270)) ∧ Below w.heap.size w w' := by
  by_cases h1 : first < 1
  · have e1 : rightF first L = false := by
      rw [Bool.eq_false_iff]; intro h; have := (rightF_true.1 h).1; omega
    rw [e1]
    go_enter Try.func10, Try.ntmps10
    go_wp2
    all_goals go_ret
    all_goals exact ⟨by simp, by (repeat (first | exact Below.refl _ _ | refine Below.drew ?_ | refine below_drewN' ?_ | refine Below.alloc ?_ (by simp; try omega) _ | refine Below.setCell ?_ (by simp; try omega) _))⟩
  by_cases h2 : 256 < L.length
  · have e1 : rightF first L = false := by
      rw [Bool.eq_false_iff]; intro h; have := (rightF_true.1 h).2.1; omega
    rw [e1]
    go_enter Try.func10, Try.ntmps10
    go_wp2
    all_goals go_ret
    all_goals exact ⟨by simp, by (repeat (first | exact Below.refl _ _ | refine Below.drew ?_ | refine below_drewN' ?_ | refine Below.alloc ?_ (by simp; try omega) _ | refine Below.setCell ?_ (by simp; try omega) _))⟩
  have hmm := @run_makeMap Try.prog
  obtain ⟨V, hV⟩ : ∃ V : Int, (if rightF first L then 0 else 270) = V := ⟨_, rfl⟩
  have HV := Lib.hid hV
  rw [hV]
  clear hV
  go_enter Try.func10, Try.ntmps10
  go_wp2
  go_loopw [19] (fun v19 wr => ∃ i : Nat, i ≤ L.length ∧ v19 = .int .i64 (i : Int) ∧ Hid (upTo first L i) ∧ MapB wr (w.heap.size + 1) i (fun x => (L.take i).any (fun q => q.2 == x)) ∧ Fts wr w.heap.size A L ∧
      Blk wr w.heap.size 25 #[.int .u64 first, .slice A L.length c] ∧ Below w.heap.size w wr) (fun v19 _ => L.length - (intOf v19).toNat)
  case atStart =>
    refine ⟨0, by omega, by go_num, Lib.hid (fun i p hi => by omega), ?_, ?_, Blk.alloc (Blk.newAt rfl) _, by (repeat (first | exact Below.refl _ _ | refine Below.drew ?_ | refine below_drewN' ?_ | refine Below.alloc ?_ (by simp; try omega) _ | refine Below.setCell ?_ (by simp; try omega) _))⟩
    · have h := MapB.made (w.alloc (.cells #[.int .u64 first, .slice A L.length c] 25))
      rw [World.size_alloc] at h
      simpa using h
    · exact hf.below (by (repeat (first | exact Below.refl _ _ | refine Below.drew ?_ | refine below_drewN' ?_ | refine Below.alloc ?_ (by simp; try omega) _ | refine Below.setCell ?_ (by simp; try omega) _)))
  case round =>
    obtain ⟨i, hi, rfl, HU, hM, hF, q0, hB⟩ := hrel
    have k0 : wr.cell? ⟨w.heap.size, 0, none⟩ = some (.int .u64 first) := q0.cell 0
    have k1 : wr.cell? ⟨w.heap.size, 1, none⟩ = some (.slice A L.length c) := q0.cell 1
    have l0 := q0.lt
    by_cases hlt : i < L.length
    · obtain ⟨⟨x, n⟩, hp⟩ : ∃ p, L[i]? = some p := ⟨_, List.getElem?_eq_getElem hlt⟩
      obtain ⟨ad, rfl, hb, hat⟩ := hF (ne_nil_of_get hp)
      obtain ⟨c0, c1⟩ := hat i _ hp
      have hwn := hw _ (List.mem_of_getElem? hp)
      have hlook : ∀ m, (Instr.lookup 69 (.map (some (w.heap.size + 1))) (.int .u64 n) false).run Try.prog ((wr.alloc (.cells #[.int .u64 x, .int .u64 n] 44)).drewN m) = .ok (.bool ((L.take i).any (fun q => q.2 == n))) ((wr.alloc (.cells #[.int .u64 x, .int .u64 n] 44)).drewN m) :=
        fun m => ((hM.alloc _).drewN m).look n hwn.1
      have hbad : rowOk first L i (x, n) = false → Hid (V = 270) := fun h => Lib.hid (by
        rw [← HV.out, if_neg]
        intro hr
        have := (rightF_true.1 hr).2.2 i _ hlt hp
        rw [h] at this
        cases this)
      by_cases hx : x < first
      · have HE := hbad (by unfold rowOk; simp; omega)
        have HP := Lib.hid hp
        clear hp hbad hlook
        go_wp2
        go_quiet (fail)
        go_wp2
        go_ret
        exact ⟨by rw [HE.out]; rfl, below_drewN' (hB.alloc hB.size _)⟩
      · have hx2 : first ≤ x := by omega
        have hdx : decide (x < first) = false := decide_eq_false (by omega)
        clear hx
        have hput := hM.put
        rcases i with _ | j
        · have hany : ((L.take 0).any (fun q : Int × Int => q.2 == n)) = false := by simp
          have hU2 : Hid (upTo first L (0 + 1)) := Lib.hid (fun k p hk hkp => by
            obtain rfl : k = 0 := by omega
            rw [hp] at hkp
            cases hkp
            unfold rowOk
            simp [hx2])
          rw [hany] at hlook
          have e0 : ad.add (0 * 2) = ad := by simp [Addr.add]
          rw [e0] at c0 c1
          have HP := Lib.hid hp
          have HU2 := Lib.hid hU2
          have HM := Lib.hid hM
          have HPut := Lib.hid hput
          have HF := Lib.hid hF
          clear hp hbad hany hU2 hM hput hF hf hx2 e0
          have hlen : (0 : Nat) < maxLen := by unfold maxLen; omega
          rcases (show 0 < n ∨ decide (0 < n) = false by by_cases h : 0 < n; exact .inl h; exact .inr (decide_eq_false h)) with hn0 | hn0
          all_goals
            go_wp2
            go_quiet (fail)
            obtain ⟨w2, hrun, hM2, hg2⟩ := ((HM.out.alloc (.cells #[.int .u64 x, .int .u64 n] 44)).drewN nq).put n hwn.1 hlen
            go_wp2
            go_roundw
            case rel =>
              have hkb := kept_round hg2
              refine ⟨0 + 1, by omega, by go_num, HU2.out, by rw [any_next HP.out]; exact hM2, ?_, ?_, ?_⟩
              · intro hne
                exact ⟨ad, rfl, hb, hat.keep fun p hp => World.cell?_of_block (hkb p.block (by omega) (by omega))⟩
              · exact (hkb w.heap.size l0 (by omega)).trans q0
              · exact (below_drewN' (hB.alloc hB.size _)).grown hg2 (by have := hB.size; simp; omega) (fun q hq => by simp at hq; omega)
            case measure => simp [intOf]; omega
        · obtain ⟨⟨y, m⟩, hpr⟩ : ∃ p, L[j]? = some p := ⟨_, List.getElem?_eq_getElem (by omega)⟩
          obtain ⟨b0, b1⟩ := hat j _ hpr
          have HP := Lib.hid hp
          have HPR := Lib.hid hpr
          have HBad := Lib.hid hbad
          have HM := Lib.hid hM
          have hwj : IntKind.i64.wrap (j : Int) = (j : Int) := by simp only [IntKind.wrap_i64]; omega
          have hjl : (j : Int) < L.length := by omega
          replace b0 : (wr.alloc (.cells #[.int .u64 x, .int .u64 n] 44)).cell? (ad.add (j * 2)) = some (.int .u64 y) := (World.cell?_alloc_lt _ _ _ (by rw [block_of_add]; omega)).trans b0
          clear hput hM hbad hp hpr
          rcases (show x ≤ y ∨ y < x by omega) with hxy | hxy
          · have HE := HBad.out (by unfold rowOk; simp [HPR.out]; omega)
            clear hlook
            go_wp2
            go_quiet (fail)
            go_wp2
            go_ret
            exact ⟨by rw [HE.out]; rfl, below_drewN' (hB.alloc hB.size _)⟩
          · have hdxy : decide (x ≤ y) = false := decide_eq_false (by omega)
            have HXY := Lib.hid hxy
            clear hxy
            obtain ⟨t, ht⟩ : ∃ t, (L.take (j + 1)).any (fun q : Int × Int => q.2 == n) = t := ⟨_, rfl⟩
            rw [ht] at hlook
            have HTK := Lib.hid ht
            clear ht
            have hok : decide (n ≤ 0) = true ∨ t = false → Hid (upTo first L (j + 1 + 1)) := fun h => Lib.hid (fun k p hk hkp => by
              rcases Nat.lt_or_ge k (j + 1) with h1 | h1
              · exact HU.out k p h1 hkp
              · obtain rfl : k = j + 1 := by omega
                rw [HP.out] at hkp
                cases hkp
                unfold rowOk
                rw [HTK.out]
                have := HXY.out
                rcases h with h | h <;> simp [HPR.out, hx2, h, this])
            rcases (show (0 < n ∧ t = true) ∨ (0 < n ∧ t = false) ∨ decide (0 < n) = false by
              by_cases h : 0 < n
              · cases t
                · exact .inr (.inl ⟨h, rfl⟩)
                · exact .inl ⟨h, rfl⟩
              · exact .inr (.inr (decide_eq_false h))) with ⟨hn0, rfl⟩ | ⟨hn0, rfl⟩ | hn0
            · have HE := HBad.out (by unfold rowOk; rw [HTK.out]; simp; omega)
              clear hok
              go_wp2
              go_quiet (fail)
              go_wp2
              go_ret
              exact ⟨by rw [HE.out]; rfl, below_drewN' (hB.alloc hB.size _)⟩
            · have HU2 := Lib.hid (hok (.inr rfl))
              clear hok
              have hlen : j + 1 < maxLen := by unfold maxLen; omega
              go_wp2
              go_quiet (fail)
              obtain ⟨w2, hrun, hM2, hg2⟩ := ((HM.out.alloc (.cells #[.int .u64 x, .int .u64 n] 44)).drewN nq).put n hwn.1 hlen
              go_wp2
              go_roundw
              case rel =>
                have hkb := kept_round hg2
                refine ⟨j + 1 + 1, by omega, by go_num, HU2.out, by rw [any_next HP.out]; exact hM2, ?_, ?_, ?_⟩
                · intro hne
                  exact ⟨ad, rfl, hb, hat.keep fun p hp => World.cell?_of_block (hkb p.block (by omega) (by omega))⟩
                · exact (hkb w.heap.size l0 (by omega)).trans q0
                · exact (below_drewN' (hB.alloc hB.size _)).grown hg2 (by have := hB.size; simp; omega) (fun q hq => by simp at hq; omega)
              case measure => simp [intOf]; omega
            · have HU2 := Lib.hid (hok (.inl (by have : ¬ 0 < n := by simpa using hn0
                                                 exact decide_eq_true (by omega))))
              clear hok
              have hlen : j + 1 < maxLen := by unfold maxLen; omega
              go_wp2
              go_quiet (fail)
              obtain ⟨w2, hrun, hM2, hg2⟩ := ((HM.out.alloc (.cells #[.int .u64 x, .int .u64 n] 44)).drewN nq).put n hwn.1 hlen
              go_wp2
              go_roundw
              case rel =>
                have hkb := kept_round hg2
                refine ⟨j + 1 + 1, by omega, by go_num, HU2.out, by rw [any_next HP.out]; exact hM2, ?_, ?_, ?_⟩
                · intro hne
                  exact ⟨ad, rfl, hb, hat.keep fun p hp => World.cell?_of_block (hkb p.block (by omega) (by omega))⟩
                · exact (hkb w.heap.size l0 (by omega)).trans q0
                · exact (below_drewN' (hB.alloc hB.size _)).grown hg2 (by have := hB.size; simp; omega) (fun q hq => by simp at hq; omega)
              case measure => simp [intOf]; omega
    · obtain rfl : i = L.length := by omega
      have HE : Hid (V = 0) := Lib.hid (by rw [← HV.out, if_pos]; exact rightF_true.2 ⟨by omega, by omega, HU.out⟩)
      go_wp2
      go_ret
      exact ⟨by rw [HE.out]; rfl, hB⟩
end Go.Proofs.Ytfggjefncnhikaa
