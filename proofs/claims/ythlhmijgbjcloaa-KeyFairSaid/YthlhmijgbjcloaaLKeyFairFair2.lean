/- What the row of this claim reaches. No condition. -/
import Derived.Laws.BytesArg
import Derived.WalkKit
import Derived.StillTailTactics
import Derived.Deep.RegionHeld3
import Derived.Laws.Bits64b
import Derived.Test.YthlhmijgbjcloaaLKeyFairFair1
set_option linter.unusedVariables false
set_option linter.unusedSimpArgs false
namespace Go.Proofs.Ythlhmijgbjcloaa.A
open Go.RowKit Go.Proofs.YthlhmijgbjcloaaW.PrintWords Go.Proofs.YthlhmijgbjcloaaW.PrintLast Go.Proofs.YthlhmijgbjcloaaW.PrintMore
def Sz (a b c d : Int) : Prop := ∃ A M, in128 A ∧ in128 M ∧ a = hi64 A ∧ b = lo64 A ∧ c = hi64 M ∧ d = lo64 M
section
variable {a0 a1 a2 a3 b0 b1 b2 b3 : Int}
theorem below_ok (h : Sz a0 a1 a2 a3) (g : Sz b0 b1 b2 b3) : ∃ r, key_size_below.f a0 a1 a2 a3 b0 b1 b2 b3 = some r := by
  obtain ⟨A, M, hA, hM, rfl, rfl, rfl, rfl⟩ := h
  obtain ⟨B, O, hB, hO, rfl, rfl, rfl, rfl⟩ := g
  unfold key_size_below.f wide_Cmp.f
  rw [cmp_ok hA hB, cmp_ok hM hO]
  simp only [Option.bind_some]
  split
  · exact ⟨_, rfl⟩
  · split <;> exact ⟨_, rfl⟩
theorem lessF_ok {N : Int} (hN : in128 N) (h : inK a0 a1 a2 a3) : ∃ R, in128 R ∧ lessF (hi64 N) (lo64 N) a0 a1 a2 a3 = some (hi64 R, lo64 R) := by
  obtain ⟨A, hA, eA⟩ := area_ok h
  unfold lessF wide_Area.f wide_Sub.f
  rw [eA]
  simp only [Option.bind_some, sub_ok hN hA]
  split
  · exact ⟨m128 (N - A), m128_in _, rfl⟩
  · exact ⟨0, by unfold in128; omega, rfl⟩
theorem union_some (h : inK a0 a1 a2 a3) (g : inK b0 b1 b2 b3) : ∃ u0 u1 u2 u3, key_Union.f a0 a1 a2 a3 b0 b1 b2 b3 = some (u0, u1, u2, u3) ∧ inK u0 u1 u2 u3 := by
  rw [union_eq]
  by_cases hb : boxB a0 a1 a2 a3 = true ∧ boxB b0 b1 b2 b3 = true
  · rw [if_pos hb]
    exact ⟨_, _, _, _, rfl, union_inK h g⟩
  · rw [if_neg hb]
    have z : isI 0 := by unfold isI; omega
    exact ⟨_, _, _, _, rfl, z, z, z, z⟩
theorem waste_ok (h : inK a0 a1 a2 a3) (g : inK b0 b1 b2 b3) : ∃ q0 q1 q2 q3, key_waste.f a0 a1 a2 a3 b0 b1 b2 b3 = some (q0, q1, q2, q3) ∧ Sz q0 q1 q2 q3 := by
  obtain ⟨u0, u1, u2, u3, e, hu⟩ := union_some h g
  obtain ⟨A, M, hA, hM, _, _, eO⟩ := of_ok hu
  obtain ⟨R, hR, eR⟩ := lessF_ok hA h
  obtain ⟨T, hT, eT⟩ := lessF_ok hR g
  unfold key_waste.f
  rw [e]
  simp only [Option.bind_some, eO, eR, eT]
  exact ⟨_, _, _, _, rfl, T, M, hT, hM, rfl, rfl, rfl, rfl⟩
end
theorem rd_inK {l : List S35} (hw : ∀ a ∈ l, wf35 a) {i : Int} (h0 : 0 ≤ i) (h1 : i < l.length) : inK (rd_T35 l i).f0 (rd_T35 l i).f1 (rd_T35 l i).f2 (rd_T35 l i).f3 := by
  refine inK_of (hw _ ?_)
  unfold rd_T35
  rw [List.getD_eq_getElem?_getD, List.getElem?_eq_getElem (by omega)]
  exact List.getElem_mem _
theorem seeds_l1 {l : List S35} (hw : ∀ a ∈ l, wf35 a) (hn : l.length ≤ 64) {x7 : Nat} (hx : x7 < l.length)
    (next : ∀ (p q : Nat) (s0 s1 s2 s3 : Int), p < q → q < l.length → Sz s0 s1 s2 s3 → ∃ i j : Nat, Ev (fun k => key_seeds.l0 k l p q l.length ((x7 + 1 : Nat) : Int) s0 s1 s2 s3) ((i : Int), (j : Int)) ∧ i < j ∧ j < l.length) :
    ∀ (d x8 p q : Nat) (s0 s1 s2 s3 : Int), l.length - x8 = d → x7 < x8 → p < q → q < l.length → Sz s0 s1 s2 s3 → ∃ i j : Nat, Ev (fun k => key_seeds.l1 k l p q x7 x8 l.length x7 s0 s1 s2 s3) ((i : Int), (j : Int)) ∧ i < j ∧ j < l.length
  | 0, x8, p, q, s0, s1, s2, s3, hd, h7, hp, hq, hs => by
    obtain ⟨i, j, h1, h2, h3⟩ := next p q s0 s1 s2 s3 hp hq hs
    refine ⟨i, j, Ev.step (fun k => ?_) h1, h2, h3⟩
    simp only [key_seeds.l1]
    rw [if_neg (by omega), wrap_id (by omega) (by omega)]
    rfl
  | d + 1, x8, p, q, s0, s1, s2, s3, hd, h7, hp, hq, hs => by
    have e1 : wrap64 ((x7 : Int) + 1) = (x7 : Int) + 1 := wrap_id (by omega) (by omega)
    have e2 : wrap64 ((x8 : Int) + 1) = ((x8 + 1 : Nat) : Int) := by rw [wrap_id (by omega) (by omega)]; omega
    obtain ⟨q0, q1, q2, q3, eW, hW⟩ := waste_ok (rd_inK hw (i := (x7 : Int)) (by omega) (by omega)) (rd_inK hw (i := (x8 : Int)) (by omega) (by omega))
    obtain ⟨r, eB⟩ := below_ok hs hW
    cases r
    · obtain ⟨i, j, h1, h2, h3⟩ := seeds_l1 hw hn hx next d (x8 + 1) p q s0 s1 s2 s3 (by omega) (by omega) hp hq hs
      refine ⟨i, j, Ev.step (fun k => ?_) h1, h2, h3⟩
      simp only [key_seeds.l1]
      rw [if_pos (by omega), e1, if_neg (by omega), if_pos (by omega), if_pos (by omega), if_pos (by omega), eW]
      simp only [Option.bind_some, eB, e2, Bool.false_eq_true, if_false]
    · obtain ⟨i, j, h1, h2, h3⟩ := seeds_l1 hw hn hx next d (x8 + 1) x7 x8 q0 q1 q2 q3 (by omega) (by omega) h7 (by omega) hW
      refine ⟨i, j, Ev.step (fun k => ?_) h1, h2, h3⟩
      simp only [key_seeds.l1]
      rw [if_pos (by omega), e1, if_neg (by omega), if_pos (by omega), if_pos (by omega), if_pos (by omega), eW]
      simp only [Option.bind_some, eB, e2, if_true]
theorem seeds_l0 {l : List S35} (hw : ∀ a ∈ l, wf35 a) (hn : l.length ≤ 64) : ∀ (d x19 p q : Nat) (s0 s1 s2 s3 : Int), l.length - x19 = d → p < q → q < l.length → Sz s0 s1 s2 s3 → ∃ i j : Nat, Ev (fun k => key_seeds.l0 k l p q l.length (x19 : Int) s0 s1 s2 s3) ((i : Int), (j : Int)) ∧ i < j ∧ j < l.length
  | 0, x19, p, q, s0, s1, s2, s3, hd, hp, hq, hs => by
    refine ⟨p, q, Ev.ret fun k => ?_, hp, hq⟩
    simp only [key_seeds.l0]
    rw [if_neg (by omega)]
  | d + 1, x19, p, q, s0, s1, s2, s3, hd, hp, hq, hs => by
    have e1 : wrap64 ((x19 : Int) + 1) = ((x19 + 1 : Nat) : Int) := by rw [wrap_id (by omega) (by omega)]; omega
    obtain ⟨i, j, h1, h2, h3⟩ := seeds_l1 hw hn (x7 := x19) (by omega) (fun p q s0 s1 s2 s3 hp hq hs => seeds_l0 hw hn d (x19 + 1) p q s0 s1 s2 s3 (by omega) hp hq hs) _ (x19 + 1) p q s0 s1 s2 s3 rfl (by omega) hp hq hs
    refine ⟨i, j, Ev.step (fun k => ?_) h1, h2, h3⟩
    simp only [key_seeds.l0]
    rw [if_pos (by omega), e1]
theorem seeds_ok {l : List S35} (hw : ∀ a ∈ l, wf35 a) (hn : l.length ≤ 64) (h2 : 2 ≤ l.length) : ∃ i j : Nat, Ev (fun k => key_seeds.f k l) ((i : Int), (j : Int)) ∧ i < j ∧ j < l.length := by
  obtain ⟨q0, q1, q2, q3, eW, hW⟩ := waste_ok (rd_inK hw (i := 0) (by omega) (by omega)) (rd_inK hw (i := 1) (by omega) (by omega))
  obtain ⟨i, j, h1, h3, h4⟩ := seeds_l0 hw hn _ 0 0 1 q0 q1 q2 q3 rfl (by omega) (by omega) hW
  refine ⟨i, j, Ev.congr (fun k => ?_) h1, h3, h4⟩
  unfold key_seeds.f
  rw [if_pos (by omega), if_pos (by omega), eW]
  rfl
theorem bound_l0 (l : List S35) (hn : l.length ≤ 64) : ∀ (d i : Nat) (s0 s1 s2 s3 : Int), l.length - i = d → ∃ u0 u1 u2 u3 e : Int, Ev (fun k => key_Bound.l0 k l l.length (i : Int) s0 s1 s2 s3) (u0, u1, u2, u3, e)
  | 0, i, s0, s1, s2, s3, hd => by
    refine ⟨s0, s1, s2, s3, 0, Ev.ret fun k => ?_⟩
    simp only [key_Bound.l0]
    rw [if_neg (by omega)]
  | d + 1, i, s0, s1, s2, s3, hd => by
    have e1 : wrap64 ((i : Int) + 1) = ((i + 1 : Nat) : Int) := by rw [wrap_id (by omega) (by omega)]; omega
    cases hb : boxB (rd_T35 l i).f0 (rd_T35 l i).f1 (rd_T35 l i).f2 (rd_T35 l i).f3
    · refine ⟨0, 0, 0, 0, 2, Ev.ret fun k => ?_⟩
      simp only [key_Bound.l0]
      rw [if_pos (by omega), if_pos (by omega), if_pos (by omega), box_eq, hb]
      rfl
    · obtain ⟨v, hv⟩ : ∃ v, key_Union.f s0 s1 s2 s3 (rd_T35 l i).f0 (rd_T35 l i).f1 (rd_T35 l i).f2 (rd_T35 l i).f3 = some v := ⟨_, union_eq _ _ _ _ _ _ _ _⟩
      obtain ⟨u0, u1, u2, u3, e, h1⟩ := bound_l0 l hn d (i + 1) v.1 v.2.1 v.2.2.1 v.2.2.2 (by omega)
      refine ⟨u0, u1, u2, u3, e, Ev.step (fun k => ?_) h1⟩
      simp only [key_Bound.l0]
      rw [if_pos (by omega), if_pos (by omega), if_pos (by omega), box_eq, hb, hv, e1]
      rfl
theorem bound_ok (l : List S35) (hn : l.length ≤ 64) : ∃ u0 u1 u2 u3 e : Int, Ev (fun k => key_Bound.f k l) (u0, u1, u2, u3, e) := by
  by_cases h0 : l.length = 0
  · refine ⟨0, 0, 0, 0, 2, 0, fun k _ => ?_⟩
    show key_Bound.f k l = _
    unfold key_Bound.f
    rw [if_pos (by omega)]
  · obtain ⟨u0, u1, u2, u3, e, h1⟩ := bound_l0 l hn _ 0 (rd_T35 l 0).f0 (rd_T35 l 0).f1 (rd_T35 l 0).f2 (rd_T35 l 0).f3 rfl
    refine ⟨u0, u1, u2, u3, e, Ev.congr (fun k => ?_) h1⟩
    unfold key_Bound.f
    rw [if_neg (by omega), if_pos (by omega)]
    rfl
def cnt (i j : Int) : List S35 → Int → Int
  | [], _ => 0
  | _ :: xs, n => (if n = i ∨ n = j then 0 else 1) + cnt i j xs (n + 1)
theorem cnt_val (i j : Int) (hij : i ≠ j) : ∀ (xs : List S35) (n : Int), cnt i j xs n = xs.length - (if n ≤ i ∧ i < n + xs.length then 1 else 0) - (if n ≤ j ∧ j < n + xs.length then 1 else 0)
  | [], n => by simp only [cnt, List.length_nil]; split <;> split <;> omega
  | x :: xs, n => by
    rw [cnt, cnt_val i j hij xs (n + 1), List.length_cons]
    split <;> split <;> split <;> split <;> split <;> omega
theorem cnt_nn (i j : Int) : ∀ (xs : List S35) (n : Int), 0 ≤ cnt i j xs n
  | [], n => by simp [cnt]
  | x :: xs, n => by
    have := cnt_nn i j xs (n + 1)
    rw [cnt]
    split <;> omega
theorem choose_ok {na nb left least a0 a1 a2 a3 b0 b1 b2 b3 x0 x1 x2 x3 : Int} (ha : inK a0 a1 a2 a3) (hb : inK b0 b1 b2 b3) (hx : inK x0 x1 x2 x3) :
    ∃ c, chooseF na nb left least a0 a1 a2 a3 b0 b1 b2 b3 x0 x1 x2 x3 = some c ∧ (na + left ≤ least → c = true) ∧ (¬ na + left ≤ least → nb + left ≤ least → c = false) := by
  unfold chooseF
  by_cases h1 : na + left ≤ least
  · rw [if_pos h1]
    exact ⟨true, rfl, fun _ => rfl, fun h => absurd h1 h⟩
  · rw [if_neg h1]
    by_cases h2 : nb + left ≤ least
    · rw [if_pos h2]
      exact ⟨false, rfl, fun h => absurd h h1, fun _ _ => rfl⟩
    · rw [if_neg h2]
      obtain ⟨c, e1, _⟩ := Less_eq 0 ha hb hx
      obtain ⟨d, e2, _⟩ := Less_eq 0 hb ha hx
      rw [e1, e2]
      simp only [Option.bind_some]
      split
      · exact ⟨_, rfl, fun h => absurd h h1, fun _ h => absurd h h2⟩
      · split <;> exact ⟨_, rfl, fun h => absurd h h1, fun _ h => absurd h h2⟩
theorem put_ok {a : Side} {n : Int} {x : S35} (hl : a.1.length < 900) (ha : inK a.2.1 a.2.2.1 a.2.2.2.1 a.2.2.2.2) (hx : inK x.f0 x.f1 x.f2 x.f3) :
    ∃ a' : Side, putF a n x = some a' ∧ a'.1 = a.1 ++ [n] ∧ inK a'.2.1 a'.2.2.1 a'.2.2.2.1 a'.2.2.2.2 := by
  obtain ⟨u0, u1, u2, u3, e, hu⟩ := union_some ha hx
  unfold putF
  rw [if_pos hl, e]
  exact ⟨_, rfl, rfl, hu⟩
theorem part_ok (i j least N : Int) (hN : N ≤ 64) (h2 : 2 * least ≤ N) : ∀ (xs : List S35) (n left : Int) (a b : Side), (∀ x ∈ xs, wf35 x) → inK a.2.1 a.2.2.1 a.2.2.2.1 a.2.2.2.2 → inK b.2.1 b.2.2.1 b.2.2.2.1 b.2.2.2.2 → left = cnt i j xs n → n + xs.length = N → 0 ≤ n →
    a.1.length + b.1.length + left = N → least ≤ a.1.length + left → least ≤ b.1.length + left →
    ∃ (p q : List Int) (a' b' : Side), partL i j least xs n left a b = some (a', b') ∧ a'.1 = a.1 ++ p ∧ b'.1 = b.1 ++ q ∧ least ≤ a'.1.length ∧ least ≤ b'.1.length ∧ (a'.1.length : Int) + b'.1.length = N ∧ (p ++ q).Nodup ∧ ∀ x ∈ p ++ q, n ≤ x ∧ x < N ∧ x ≠ i ∧ x ≠ j
  | [], n, left, a, b, hw, ka, kb, hl, hn, h0, hs, g1, g2 => by
    simp only [cnt] at hl
    subst hl
    refine ⟨[], [], a, b, rfl, by simp, by simp, by omega, by omega, by omega, List.nodup_nil, fun x hx => by simp at hx⟩
  | x :: xs, n, left, a, b, hw, ka, kb, hl, hn, h0, hs, g1, g2 => by
    have kx := inK_of (hw x (by simp))
    have hw' : ∀ y ∈ xs, wf35 y := fun y hy => hw y (by simp [hy])
    have hc := cnt_nn i j xs (n + 1)
    have hn' : n + 1 + (xs.length : Int) = N := by rw [List.length_cons] at hn; omega
    have hbig : ∀ {p q : List Int}, (∀ y ∈ p ++ q, n + 1 ≤ y ∧ y < N ∧ y ≠ i ∧ y ≠ j) → n ∉ p ++ q := fun h hm => by have := (h n hm).1; omega
    unfold partL
    by_cases hij : n = i ∨ n = j
    · rw [if_pos hij]
      rw [cnt, if_pos hij, Int.zero_add] at hl
      obtain ⟨p, q, a', b', e, ha, hb, l1, l2, l3, hd, hm⟩ := part_ok i j least N hN h2 xs (n + 1) left a b hw' ka kb hl hn' (by omega) hs g1 g2
      exact ⟨p, q, a', b', e, ha, hb, l1, l2, l3, hd, fun y hy => by have := hm y hy; exact ⟨by omega, this.2⟩⟩
    · rw [if_neg hij]
      rw [cnt, if_neg hij] at hl
      have hN' : n < N := by omega
      rw [if_pos (by omega)]
      obtain ⟨c, ec, c1, c2⟩ := choose_ok (na := a.1.length) (nb := b.1.length) (left := left) (least := least) ka kb kx
      rw [ec]
      simp only [Option.bind_some]
      have hi : n ≠ i := fun h => hij (Or.inl h)
      have hj : n ≠ j := fun h => hij (Or.inr h)
      cases c
      · have hA : ¬ ((a.1.length : Int) + left ≤ least) := fun h => by have := c1 h; simp at this
        obtain ⟨b1, e1, eb, kb1⟩ := put_ok (n := n) (a := b) (by omega) kb kx
        rw [if_neg (by simp), e1]
        simp only [Option.bind_some]
        have hbl : (b1.1.length : Int) = b.1.length + 1 := by rw [eb]; simp
        obtain ⟨p, q, a', b', e, ha, hb, l1, l2, l3, hd, hm⟩ := part_ok i j least N hN h2 xs (n + 1) (left - 1) a b1 hw' ka kb1 (by omega) hn' (by omega) (by omega) (by omega) (by omega)
        refine ⟨p, n :: q, a', b', e, ha, by rw [hb, eb]; simp, l1, l2, l3, ?_, ?_⟩
        · exact List.perm_middle.nodup_iff.mpr (List.nodup_cons.mpr ⟨hbig hm, hd⟩)
        · intro y hy
          rcases List.mem_cons.mp (List.perm_middle.mem_iff.mp hy) with rfl | hy
          · exact ⟨Int.le_refl _, hN', hi, hj⟩
          · have := hm y hy
            exact ⟨by omega, this.2⟩
      · have hB : a.1.length + left ≤ least ∨ ¬ ((b.1.length : Int) + left ≤ least) := by
          by_cases h1 : (a.1.length : Int) + left ≤ least
          · exact Or.inl h1
          · exact Or.inr fun h => by have := c2 h1 h; simp at this
        obtain ⟨a1, e1, ea, ka1⟩ := put_ok (n := n) (a := a) (by omega) ka kx
        rw [if_pos rfl, e1]
        simp only [Option.bind_some]
        have hal : (a1.1.length : Int) = a.1.length + 1 := by rw [ea]; simp
        obtain ⟨p, q, a', b', e, ha, hb, l1, l2, l3, hd, hm⟩ := part_ok i j least N hN h2 xs (n + 1) (left - 1) a1 b hw' ka1 kb (by omega) hn' (by omega) (by omega) (by omega) (by omega)
        refine ⟨n :: p, q, a', b', e, by rw [ha, ea]; simp, hb, l1, l2, l3, List.nodup_cons.mpr ⟨hbig hm, hd⟩, ?_⟩
        intro y hy
        rcases List.mem_cons.mp hy with rfl | hy
        · exact ⟨Int.le_refl _, hN', hi, hj⟩
        · have := hm y hy
          exact ⟨by omega, this.2⟩
end Go.Proofs.Ythlhmijgbjcloaa.A
