/- What the row of this claim reaches. No condition. -/
import Derived.Test.YtfggjefncnhikaaZVBase
import Derived.Test.YtfggjefncnhikaaZVSearch
set_option linter.unusedVariables false
set_option linter.unusedSimpArgs false
namespace Go.Proofs.Ytfggjefncnhikaa
open Go.RowKit
def fateF (first : Int) (L : List (Int × Int)) (id : Int) : Int × Bool × Bool :=
  if 0 < id ∧ id < first then (0, true, false) else
  match L.find? (fun p => p.1 == id) with
  | some p => (p.2, decide (0 < p.2), p.2 == 0)
  | none => (0, false, false)
def Rising (L : List (Int × Int)) : Prop := ∀ (i j : Nat) (p q : Int × Int), i < j → L[i]? = some p → L[j]? = some q → p.1 < q.1
theorem find_at {L : List (Int × Int)} {id : Int} {i : Nat} {p : Int × Int} (h1 : ∀ k (q : Int × Int), k < i → L[k]? = some q → q.1 < id) (hp : L[i]? = some p) (he : p.1 = id) : L.find? (fun p => p.1 == id) = some p := by
  rw [List.find?_eq_some_iff_getElem]
  obtain ⟨hi, hg⟩ := List.getElem?_eq_some_iff.1 hp
  refine ⟨by simp [he], i, hi, hg, fun j hj => ?_⟩
  have := h1 j _ hj (List.getElem?_eq_getElem (by omega))
  simp; omega
theorem find_none {L : List (Int × Int)} {id : Int} {i : Nat} (hr : Rising L) (h1 : ∀ k (q : Int × Int), k < i → L[k]? = some q → q.1 < id) (h2 : ∀ k (q : Int × Int), i ≤ k → L[k]? = some q → id ≤ q.1)
    (hn : ¬ ∃ p : Int × Int, L[i]? = some p ∧ p.1 = id) : L.find? (fun p => p.1 == id) = none := by
  rw [List.find?_eq_none]
  intro p hp
  obtain ⟨k, hk, rfl⟩ := List.mem_iff_getElem.1 hp
  have hkp := List.getElem?_eq_getElem hk
  simp only [beq_iff_eq]
  intro he
  rcases Nat.lt_trichotomy k i with h | h | h
  · have := h1 k _ h hkp; omega
  · subst h; exact hn ⟨_, hkp, he⟩
  · have hi : i < L.length := by omega
    have hip := List.getElem?_eq_getElem hi
    have := hr i k _ _ h hip hkp
    have := h2 i _ (Nat.le_refl _) hip
    omega
def lo : List (Int × Int) → Int → Nat
  | [], _ => 0
  | p :: r, id => if p.1 < id then lo r id + 1 else 0
theorem lo_unique {id : Int} : ∀ {L : List (Int × Int)} {i : Nat}, i ≤ L.length → (∀ k (p : Int × Int), k < i → L[k]? = some p → p.1 < id) → (∀ k (p : Int × Int), i ≤ k → L[k]? = some p → id ≤ p.1) → i = lo L id
  | [], i, h, _, _ => by simpa [lo] using h
  | p :: r, i, h, h1, h2 => by
    unfold lo
    rcases i with _ | j
    · have := h2 0 p (Nat.le_refl _) rfl
      rw [if_neg (by omega)]
    · have := h1 0 p (by omega) rfl
      rw [if_pos this]
      congr 1
      exact lo_unique (by simpa using h) (fun k q hk hq => h1 (k + 1) q (by omega) (by simpa using hq)) (fun k q hk hq => h2 (k + 1) q (by omega) (by simpa using hq))
theorem search_n (L : List (Int × Int)) (A : Option Addr) (c : Nat) (id : Int) (w : World) (hn : L.length ≤ 500) (hf : Fts w w.heap.size A L) (hs : Rising L) :
    Calls Try.prog 39 #[.slice A L.length c, .int .u64 id, .func (.func 40) #[] #[]] w fun e w' =>
      (lo L id ≤ L.length ∧ (∀ k (p : Int × Int), k < lo L id → L[k]? = some p → p.1 < id) ∧ (∀ k (p : Int × Int), lo L id ≤ k → L[k]? = some p → id ≤ p.1)) ∧
      e = .returned (.tuple #[.int .i64 (lo L id : Int), .bool (decide (∃ p : Int × Int, L[lo L id]? = some p ∧ p.1 = id))]) ∧ Below w.heap.size w w' :=
  (search_any L A c id w hn hf hs).mono fun e w' ⟨i, hi, h1, h2, he, hb⟩ => by
    obtain rfl := lo_unique hi h1 h2
    exact ⟨⟨hi, h1, h2⟩, he, hb⟩
set_option maxHeartbeats 1000000 in
theorem fate_any (first : Int) (L : List (Int × Int)) (A : Option Addr) (c : Nat) (id : Int) (w : World) (hn : L.length ≤ 500) (hf : Fts w w.heap.size A L) (hs : Rising L) :
    Calls Try.prog 32 #[.agg #[.int .u64 first, .slice A L.length c], .int .u64 id] w fun e w' =>
      e = .returned (.tuple #[.int .u64 (fateF first L id).1, .bool (fateF first L id).2.1, .bool (fateF first L id).2.2]) ∧ Below w.heap.size w w' := by
  by_cases h0 : 0 < id ∧ id < first
  · have e1 : fateF first L id = (0, true, false) := by rw [fateF, if_pos h0]
    rw [e1]
    obtain ⟨h1, h2⟩ := h0
    go_enter Try.func32, Try.ntmps32
    go_wp2
    refine bodyPost_ret (v := .tuple #[.int .u64 0, .bool true, .bool false]) (by simp [results, Try.results32, go_sem]) rfl ⟨rfl, by (repeat (first | exact Below.refl _ _ | refine Below.drew ?_ | refine below_drewN' ?_ | refine Below.alloc ?_ (by simp; try omega) _ | refine Below.setCell ?_ (by simp; try omega) _))⟩
  · have e1 : fateF first L id = match L.find? (fun p => p.1 == id) with | some p => (p.2, decide (0 < p.2), p.2 == 0) | none => (0, false, false) := by rw [fateF, if_neg h0]
    have hf2 : Fts (w.alloc (.cells #[.int .u64 first, .slice A L.length c] 25)) (w.alloc (.cells #[.int .u64 first, .slice A L.length c] 25)).heap.size A L := by
      intro hne
      obtain ⟨ad, e, hlt, hat⟩ := hf hne
      exact ⟨ad, e, by simp; omega, hat.keep fun p hp => World.cell?_alloc_lt _ _ _ (by omega)⟩
    have hsr := Lib.hid (search_n L A c id _ hn hf2 hs)
    obtain ⟨i, hi⟩ : ∃ i, lo L id = i := ⟨_, rfl⟩
    have hmv := fun h1 h2 => @find_none L id i hs h1 h2
    rw [hi] at hsr
    by_cases hx : ∃ p : Int × Int, L[i]? = some p ∧ p.1 = id
    · obtain ⟨⟨x, n⟩, hp, he⟩ := hx
      have hdec : decide (∃ p : Int × Int, L[i]? = some p ∧ p.1 = id) = true := decide_eq_true ⟨_, hp, he⟩
      rw [hdec] at hsr
      obtain ⟨ad, rfl, hlt, hat⟩ := hf (ne_nil_of_get hp)
      obtain ⟨c0, c1⟩ := hat i _ hp
      have hil : i < L.length := (List.getElem?_eq_some_iff.1 hp).1
      have hlt2 : ad.block < (w.alloc (.cells #[.int .u64 first, .slice (some ad) L.length c] 25)).heap.size := by simp; omega
      have H1 := Lib.hid e1
      have HP := Lib.hid hp
      have HE := Lib.hid he
      clear e1 hp he hdec hi hmv hf2 hat hf hs
      rcases (show id ≤ 0 ∨ (0 < id ∧ first ≤ id) by omega) with hg | ⟨hg, hg2⟩
      all_goals
        clear h0
        go_enter Try.func32, Try.ntmps32
        go_wp2_with (go_at_call 39; (with_reducible refine hsr.out.mono ?_); rintro e w1 ⟨⟨_, h1, _⟩, rfl, hb1⟩; have k0 : w1.cell? ⟨w.heap.size, 0, none⟩ = some (.int .u64 first) := keep_cell hb1 (World.cell?_alloc_new _ _ _ _); have k1 : w1.cell? ⟨w.heap.size, 1, none⟩ = some (.slice (some ad) L.length c) := keep_cell hb1 (World.cell?_alloc_new _ _ _ _); have d1 : w1.cell? ⟨(ad.add (i * 2)).block, (ad.add (i * 2)).off + 1, none⟩ = some (.int .u64 n) := (hb1.cell (by show (ad.add (i * 2)).block < _; rw [block_of_add]; exact hlt2)).trans ((World.cell?_alloc_lt _ _ _ (by show (ad.add (i * 2)).block < _; rw [block_of_add]; exact hlt)).trans c1); have H2 := Lib.hid h1; clear h1)
        have hfa := find_at H2.out HP.out HE.out
        have hr := H1.out
        rw [hfa] at hr
        refine bodyPost_ret (v := .tuple #[.int .u64 n, .bool (decide (0 < n)), .bool (n == 0)]) (by simp [results, Try.results32, go_sem]) rfl ⟨by rw [hr], Below.step (by (repeat (first | exact Below.refl _ _ | refine Below.drew ?_ | refine below_drewN' ?_ | refine Below.alloc ?_ (by simp; try omega) _ | refine Below.setCell ?_ (by simp; try omega) _))) hb1 (by simp)⟩
    · have hdec : decide (∃ p : Int × Int, L[i]? = some p ∧ p.1 = id) = false := decide_eq_false hx
      rw [hdec] at hsr
      have H1 := Lib.hid e1
      have H3 := Lib.hid hx
      have H4 := Lib.hid hmv
      clear e1 hdec hi hmv hf2 hf hs hx
      rcases (show id ≤ 0 ∨ (0 < id ∧ first ≤ id) by omega) with hg | ⟨hg, hg2⟩
      all_goals
        clear h0
        go_enter Try.func32, Try.ntmps32
        go_wp2_with (go_at_call 39; (with_reducible refine hsr.out.mono ?_); rintro e w1 ⟨⟨_, h1, h2⟩, rfl, hb1⟩; have H2 := Lib.hid (And.intro h1 h2); clear h1 h2)
        have hfa := H4.out H2.out.1 H2.out.2 H3.out
        have hr := H1.out
        rw [hfa] at hr
        refine bodyPost_ret (v := .tuple #[.int .u64 0, .bool false, .bool false]) (by simp [results, Try.results32, go_sem]) rfl ⟨by rw [hr], Below.step (by (repeat (first | exact Below.refl _ _ | refine Below.drew ?_ | refine below_drewN' ?_ | refine Below.alloc ?_ (by simp; try omega) _ | refine Below.setCell ?_ (by simp; try omega) _))) hb1 (by simp)⟩
end Go.Proofs.Ytfggjefncnhikaa
