/- What the row of this claim reaches. No condition. -/
import Derived.Test.YtiamkgoajkfofaaDoorXSes
import Derived.Test.YtiamkgoajkfofaaDoorXX3
set_option linter.unusedVariables false
set_option linter.unusedSimpArgs false
namespace Go.Proofs.YtiamkgoajkfofaaDoor.S
open Go.RowKit Go.Proofs.YtiamkgoajkfofaaDoorW.PrintWords Go.Proofs.YtiamkgoajkfofaaDoorW.PrintLast Go.Proofs.YtiamkgoajkfofaaDoorW.PrintMore
theorem Ev.ret {α : Type} {g : Nat → Option α} {r : α} (h : ∀ k, g (k + 1) = some r) : Ev g r := ⟨1, fun k hk => by
  obtain ⟨k, rfl⟩ : ∃ m, k = m + 1 := ⟨k - 1, by omega⟩
  exact h k⟩
theorem wrap_up {i : Int} (h0 : 0 ≤ i) (h1 : i < 1000000) : wrap64 (i + 1) = i + 1 := by unfold wrap64; omega
theorem wrap_dn {i : Int} (h0 : 0 ≤ i) (h1 : i < 1000000) : wrap64 (i - 1) = i - 1 := by unfold wrap64; omega
theorem dropS {l : List S63} {i : Nat} (h : i < l.length) : l.drop i = rd_T63 l (i : Int) :: l.drop (i + 1) := by
  rw [List.drop_eq_getElem_cons h]
  unfold rd_T63
  rw [Int.toNat_natCast, List.getD_eq_getElem?_getD, List.getElem?_eq_getElem h]
  rfl
theorem dropU {l : List Int} {i : Nat} (h : i < l.length) : l.drop i = rd l (i : Int) :: l.drop (i + 1) := by
  rw [List.drop_eq_getElem_cons h]
  unfold rd
  rw [Int.toNat_natCast, List.getD_eq_getElem?_getD, List.getElem?_eq_getElem h]
  rfl
def eqS : List S63 → List S63 → Bool
  | [], [] => true
  | x :: xs, y :: ys => (x.f0 == y.f0 && x.f1 == y.f1) && eqS xs ys
  | _, _ => false
def eqU : List Int → List Int → Bool
  | [], [] => true
  | x :: xs, y :: ys => (x == y) && eqU xs ys
  | _, _ => false
theorem eqS_refl : ∀ l, eqS l l = true
  | [] => rfl
  | x :: xs => by simp [eqS, eqS_refl xs]
theorem eqU_refl : ∀ l, eqU l l = true
  | [] => rfl
  | x :: xs => by simp [eqU, eqU_refl xs]
theorem eqS_len : ∀ a b, eqS a b = true → a.length = b.length
  | [], [], _ => rfl
  | x :: xs, y :: ys, h => by simp [eqS] at h; simp [eqS_len xs ys h.2]
  | [], _ :: _, h => by simp [eqS] at h
  | _ :: _, [], h => by simp [eqS] at h
theorem eqU_len : ∀ a b, eqU a b = true → a.length = b.length
  | [], [], _ => rfl
  | x :: xs, y :: ys, h => by simp [eqU] at h; simp [eqU_len xs ys h.2]
  | [], _ :: _, h => by simp [eqU] at h
  | _ :: _, [], h => by simp [eqU] at h
theorem eqS_ne {a b : List S63} (h : ¬ a.length = b.length) : eqS a b = false := by
  cases hx : eqS a b
  · rfl
  · exact absurd (eqS_len a b hx) h
theorem eqU_ne {a b : List Int} (h : ¬ a.length = b.length) : eqU a b = false := by
  cases hx : eqU a b
  · rfl
  · exact absurd (eqU_len a b hx) h
theorem seen_loop (a b : List S63) (hb : a.length = b.length) (hn : a.length ≤ 1000) : ∀ (m i : Nat), i + m = a.length → Ev (fun n => api_Seen_58.l0 n a b (a.length : Int) (i : Int)) (eqS (a.drop i) (b.drop i))
  | 0, i, h => by
    rw [List.drop_eq_nil_of_le (by omega), List.drop_eq_nil_of_le (by omega)]
    refine Ev.ret fun n => ?_
    rw [api_Seen_58.l0, if_neg (by omega)]
    rfl
  | m + 1, i, h => by
    have hw : wrap64 ((i : Int) + 1) = ((i + 1 : Nat) : Int) := by rw [wrap_up (by omega) (by omega)]; rfl
    have ih := seen_loop a b hb hn m (i + 1) (by omega)
    rw [dropS (by omega : i < a.length), dropS (by omega : i < b.length), eqS]
    by_cases hx : (!(((rd_T63 a i).f0) == ((rd_T63 b i).f0)) || (!(((rd_T63 a i).f1) == ((rd_T63 b i).f1)))) = true
    · have : ((rd_T63 a i).f0 == (rd_T63 b i).f0 && (rd_T63 a i).f1 == (rd_T63 b i).f1) = false := by
        cases h1 : ((rd_T63 a i).f0 == (rd_T63 b i).f0) <;> cases h2 : ((rd_T63 a i).f1 == (rd_T63 b i).f1) <;> simp_all
      rw [this, Bool.false_and]
      refine Ev.ret fun n => ?_
      rw [api_Seen_58.l0, if_pos (by omega), if_pos (by omega), if_pos (by omega), if_pos (by omega), if_pos hx]
    · have : ((rd_T63 a i).f0 == (rd_T63 b i).f0 && (rd_T63 a i).f1 == (rd_T63 b i).f1) = true := by
        cases h1 : ((rd_T63 a i).f0 == (rd_T63 b i).f0) <;> cases h2 : ((rd_T63 a i).f1 == (rd_T63 b i).f1) <;> simp_all
      rw [this, Bool.true_and]
      refine Ev.step (fun n => ?_) ih
      rw [api_Seen_58.l0, if_pos (by omega), if_pos (by omega), if_pos (by omega), if_pos (by omega), if_neg hx, hw]
theorem seen_ev (a b : List S63) (hn : a.length ≤ 1000) : Ev (fun n => api_Seen_58.f n a b) (eqS a b) := by
  by_cases h : a.length = b.length
  · exact Ev.congr (fun n => by rw [api_Seen_58.f, if_pos (by omega)]; rfl) (seen_loop a b h hn a.length 0 (by omega))
  · rw [eqS_ne h]
    exact Ev.congr (fun n => by rw [api_Seen_58.f, if_neg (by omega)]) (Ev.now false)
theorem u32_loop (a b : List Int) (hb : a.length = b.length) (hn : a.length ≤ 1000) : ∀ (m i : Nat), i + m = a.length → Ev (fun n => slices_Equal_uint32_uint32.l0 n a b (a.length : Int) (i : Int)) (eqU (a.drop i) (b.drop i))
  | 0, i, h => by
    rw [List.drop_eq_nil_of_le (by omega), List.drop_eq_nil_of_le (by omega)]
    refine Ev.ret fun n => ?_
    rw [slices_Equal_uint32_uint32.l0, if_neg (by omega)]
    rfl
  | m + 1, i, h => by
    have hw : wrap64 ((i : Int) + 1) = ((i + 1 : Nat) : Int) := by rw [wrap_up (by omega) (by omega)]; rfl
    have ih := u32_loop a b hb hn m (i + 1) (by omega)
    rw [dropU (by omega : i < a.length), dropU (by omega : i < b.length), eqU]
    by_cases hx : rd a i = rd b i
    · rw [beq_iff_eq.mpr hx, Bool.true_and]
      refine Ev.step (fun n => ?_) ih
      rw [slices_Equal_uint32_uint32.l0, if_pos (by omega), if_pos (by omega), if_pos (by omega), if_pos (by omega), if_pos hx, hw]
    · rw [beq_eq_false_iff_ne.mpr hx, Bool.false_and]
      refine Ev.ret fun n => ?_
      rw [slices_Equal_uint32_uint32.l0, if_pos (by omega), if_pos (by omega), if_pos (by omega), if_pos (by omega), if_neg hx]
theorem u32_ev (a b : List Int) (hn : a.length ≤ 1000) : Ev (fun n => slices_Equal_uint32_uint32.f n a b) (eqU a b) := by
  by_cases h : a.length = b.length
  · exact Ev.congr (fun n => by rw [slices_Equal_uint32_uint32.f, if_pos (by omega)]; rfl) (u32_loop a b h hn a.length 0 (by omega))
  · rw [eqU_ne h]
    exact Ev.congr (fun n => by rw [slices_Equal_uint32_uint32.f, if_neg (by omega)]) (Ev.now false)
def kEq (a b : S25) : Bool := a.f0 == b.f0 && (a.f1 == b.f1 && (a.f2 == b.f2 && (a.f3 == b.f3)))
def curEq (c d : S31) : Bool := kEq c.f0 d.f0 && (eqS c.f1 d.f1 && eqU c.f2 d.f2)
def opE (a b : S27) : Bool := a.f0 == b.f0 && (a.f1 == b.f1 && (a.f2 == b.f2 && (kEq a.f3 b.f3 && (a.f4 == b.f4))))
theorem cur_ev (c d : S31) (h1 : c.f1.length ≤ 1000) (h2 : c.f2.length ≤ 1000) : Ev (fun n => cursor_Same.f n c.f0.f0 c.f0.f1 c.f0.f2 c.f0.f3 c.f1 c.f2 d.f0.f0 d.f0.f1 d.f0.f2 d.f0.f3 d.f1 d.f2) (curEq c d) := by
  unfold curEq
  by_cases hk : kEq c.f0 d.f0 = true
  · rw [hk, Bool.true_and]
    refine Ev.congr (f := fun n => (api_Seen_58.f n c.f1 d.f1).bind fun t107 => if t107 = true then (slices_Equal_uint32_uint32.f n c.f2 d.f2).bind fun t108 => some t108 else some false) (fun n => by rw [cursor_Same.f]; exact if_pos hk) ?_
    refine Ev.bind (f := fun n t => if t = true then (slices_Equal_uint32_uint32.f n c.f2 d.f2).bind fun t108 => some t108 else some false) (seen_ev c.f1 d.f1 h1) ?_
    cases eqS c.f1 d.f1
    · exact Ev.now false
    · exact Ev.bind (f := fun _ t => some t) (u32_ev c.f2 d.f2 h2) (Ev.now _)
  · rw [Bool.eq_false_iff.mpr hk, Bool.false_and]
    exact Ev.congr (fun n => by rw [cursor_Same.f]; exact if_neg hk) (Ev.now false)
theorem rcur_l1 (c d : S31) (hb : c.f2.length = d.f2.length) (hn : c.f2.length ≤ 1000) : ∀ (m i : Nat), i + m = c.f2.length → Ev (fun n => gazetteerref13_Same.l1 n (i : Int) c.f0.f0 c.f0.f1 c.f0.f2 c.f0.f3 c.f1 c.f2 d.f0.f0 d.f0.f1 d.f0.f2 d.f0.f3 d.f1 d.f2) (eqU (c.f2.drop i) (d.f2.drop i))
  | 0, i, h => by
    rw [List.drop_eq_nil_of_le (by omega), List.drop_eq_nil_of_le (by omega)]
    refine Ev.ret fun n => ?_
    rw [gazetteerref13_Same.l1, if_neg (by omega)]
    rfl
  | m + 1, i, h => by
    have hw : wrap64 ((i : Int) + 1) = ((i + 1 : Nat) : Int) := by rw [wrap_up (by omega) (by omega)]; rfl
    have ih := rcur_l1 c d hb hn m (i + 1) (by omega)
    rw [dropU (by omega : i < c.f2.length), dropU (by omega : i < d.f2.length), eqU]
    by_cases hx : rd c.f2 i = rd d.f2 i
    · rw [beq_iff_eq.mpr hx, Bool.true_and]
      refine Ev.step (fun n => ?_) ih
      rw [gazetteerref13_Same.l1, if_pos (by omega), if_pos (by omega), if_pos (by omega), if_pos hx, hw]
    · rw [beq_eq_false_iff_ne.mpr hx, Bool.false_and]
      refine Ev.ret fun n => ?_
      rw [gazetteerref13_Same.l1, if_pos (by omega), if_pos (by omega), if_pos (by omega), if_neg hx]
theorem rcur_l0 (c d : S31) (ha : c.f1.length = d.f1.length) (hb : c.f2.length = d.f2.length) (h1 : c.f1.length ≤ 1000) (h2 : c.f2.length ≤ 1000) : ∀ (m i : Nat), i + m = c.f1.length → Ev (fun n => gazetteerref13_Same.l0 n (i : Int) c.f0.f0 c.f0.f1 c.f0.f2 c.f0.f3 c.f1 c.f2 d.f0.f0 d.f0.f1 d.f0.f2 d.f0.f3 d.f1 d.f2) (eqS (c.f1.drop i) (d.f1.drop i) && eqU c.f2 d.f2)
  | 0, i, h => by
    rw [List.drop_eq_nil_of_le (by omega), List.drop_eq_nil_of_le (by omega), eqS, Bool.true_and]
    refine Ev.step (fun n => ?_) (rcur_l1 c d hb h2 c.f2.length 0 (by omega))
    rw [gazetteerref13_Same.l0, if_neg (by omega)]
    rfl
  | m + 1, i, h => by
    have hw : wrap64 ((i : Int) + 1) = ((i + 1 : Nat) : Int) := by rw [wrap_up (by omega) (by omega)]; rfl
    have ih := rcur_l0 c d ha hb h1 h2 m (i + 1) (by omega)
    rw [dropS (by omega : i < c.f1.length), dropS (by omega : i < d.f1.length), eqS]
    by_cases hx : (!(((rd_T63 c.f1 i).f0) == ((rd_T63 d.f1 i).f0)) || (!(((rd_T63 c.f1 i).f1) == ((rd_T63 d.f1 i).f1)))) = true
    · have : ((rd_T63 c.f1 i).f0 == (rd_T63 d.f1 i).f0 && (rd_T63 c.f1 i).f1 == (rd_T63 d.f1 i).f1) = false := by
        cases h1 : ((rd_T63 c.f1 i).f0 == (rd_T63 d.f1 i).f0) <;> cases h2 : ((rd_T63 c.f1 i).f1 == (rd_T63 d.f1 i).f1) <;> simp_all
      rw [this, Bool.false_and, Bool.false_and]
      refine Ev.ret fun n => ?_
      rw [gazetteerref13_Same.l0, if_pos (by omega), if_pos (by omega), if_pos (by omega), if_pos hx]
    · have : ((rd_T63 c.f1 i).f0 == (rd_T63 d.f1 i).f0 && (rd_T63 c.f1 i).f1 == (rd_T63 d.f1 i).f1) = true := by
        cases h1 : ((rd_T63 c.f1 i).f0 == (rd_T63 d.f1 i).f0) <;> cases h2 : ((rd_T63 c.f1 i).f1 == (rd_T63 d.f1 i).f1) <;> simp_all
      rw [this, Bool.true_and]
      refine Ev.step (fun n => ?_) ih
      rw [gazetteerref13_Same.l0, if_pos (by omega), if_pos (by omega), if_pos (by omega), if_neg hx, hw]
theorem kEq_not (a b : S25) : (!(a.f0 == b.f0) || (!(a.f1 == b.f1) || (!(a.f2 == b.f2) || (!(a.f3 == b.f3))))) = !(kEq a b) := by
  unfold kEq
  cases (a.f0 == b.f0) <;> cases (a.f1 == b.f1) <;> cases (a.f2 == b.f2) <;> cases (a.f3 == b.f3) <;> rfl
theorem rcur_ev (c d : S31) (h1 : c.f1.length ≤ 1000) (h2 : c.f2.length ≤ 1000) : Ev (fun n => gazetteerref13_Same.f n c.f0.f0 c.f0.f1 c.f0.f2 c.f0.f3 c.f1 c.f2 d.f0.f0 d.f0.f1 d.f0.f2 d.f0.f3 d.f1 d.f2) (curEq c d) := by
  unfold curEq
  by_cases hk : kEq c.f0 d.f0 = true
  · rw [hk, Bool.true_and]
    by_cases ha : c.f1.length = d.f1.length
    · by_cases hb : c.f2.length = d.f2.length
      · refine Ev.step (fun n => ?_) (rcur_l0 c d ha hb h1 h2 c.f1.length 0 (by omega))
        rw [gazetteerref13_Same.f, kEq_not, hk, if_neg (by simp), if_pos (by omega), gazetteerref13_Same.j0, if_neg (by simp; omega)]
        rfl
      · rw [eqU_ne hb, Bool.and_false]
        refine Ev.ret fun n => ?_
        rw [gazetteerref13_Same.f, kEq_not, hk, if_neg (by simp), if_pos (by omega), gazetteerref13_Same.j0, if_pos (by simp; omega)]
    · rw [eqS_ne ha, Bool.false_and]
      refine Ev.ret fun n => ?_
      rw [gazetteerref13_Same.f, kEq_not, hk, if_neg (by simp), if_neg (by omega), gazetteerref13_Same.j0, if_pos rfl]
  · have hk' := Bool.eq_false_iff.mpr hk
    rw [hk', Bool.false_and]
    refine Ev.ret fun n => ?_
    rw [gazetteerref13_Same.f, kEq_not, hk', if_pos (by simp), gazetteerref13_Same.j0, if_pos rfl]
end Go.Proofs.YtiamkgoajkfofaaDoor.S
