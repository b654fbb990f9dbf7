/- What the row of this claim reaches. No condition. -/
import Derived.Test.YtfggjefncnhikaaZVFate
set_option linter.unusedVariables false
set_option linter.unusedSimpArgs false
namespace Go.Proofs.Ytfggjefncnhikaa
open Go.RowKit
theorem cell?_newAt {w : World} {g : Nat} {t : TypeId} {cs : Array Value} (h : w.heap.size = g) (i : Nat) : (w.alloc (.cells cs t)).cell? ⟨g, i, none⟩ = cs[i]? := by
  subst h; exact World.cell?_alloc_new _ _ _ _
def countsF (own : Int) (reads : Bool) (snap first : Int) (L : List (Int × Int)) (id : Int) : Bool :=
  if reads then (fateF first L id).2.1 && decide ((fateF first L id).1 ≤ snap) else (fateF first L id).2.1 || (decide (0 < id) && id == own)
abbrev lookV (own : Int) (reads : Bool) (snap first : Int) (A : Option Addr) (n c : Nat) : Value := .agg #[.int .u64 own, .bool reads, .int .u64 snap, .int .u64 first, .slice A n c]
set_option maxHeartbeats 1000000 in
theorem counts_any (own : Int) (reads : Bool) (snap first : Int) (L : List (Int × Int)) (A : Option Addr) (c : Nat) (id : Int) (w : World) (hn : L.length ≤ 500) (hf : Fts w w.heap.size A L) (hs : Rising L) :
    Calls Try.prog 30 #[lookV own reads snap first A L.length c, .int .u64 id] w fun e w' => e = .returned (.bool (countsF own reads snap first L id)) ∧ Below w.heap.size w w' := by
  have hf2 : Fts (w.alloc (.cells #[.int .u64 own, .bool reads, .int .u64 snap, .int .u64 first, .slice A L.length c] 72)) (w.alloc (.cells #[.int .u64 own, .bool reads, .int .u64 snap, .int .u64 first, .slice A L.length c] 72)).heap.size A L := by
    intro hne
    obtain ⟨ad, e, hlt, hat⟩ := hf hne
    exact ⟨ad, e, by simp; omega, hat.keep fun p hp => World.cell?_alloc_lt _ _ _ (by omega)⟩
  have hfa := fate_any first L A c id _ hn hf2 hs
  obtain ⟨r, hr⟩ : ∃ r, countsF own reads snap first L id = r := ⟨_, rfl⟩
  rw [hr]
  unfold countsF at hr
  obtain ⟨⟨n, d, o⟩, hx⟩ : ∃ x, fateF first L id = x := ⟨_, rfl⟩
  rw [hx] at hfa hr
  have HF := Lib.hid hfa
  have HR := Lib.hid hr
  clear hfa hr hx hf2 hf
  cases reads <;> cases d
  all_goals
    go_enter Try.func30, Try.ntmps30
    go_wp2_with (go_at_call 32; (with_reducible refine HF.out.mono ?_); rintro e w1 ⟨rfl, hb1⟩; have k0 : w1.cell? ⟨w.heap.size, 0, none⟩ = some (.int .u64 own) := keep_cell hb1 (World.cell?_alloc_new _ _ _ _); have k1 : w1.cell? ⟨w.heap.size, 1, none⟩ = some (.bool _) := keep_cell hb1 (World.cell?_alloc_new _ _ _ _); have k2 : w1.cell? ⟨w.heap.size, 2, none⟩ = some (.int .u64 snap) := keep_cell hb1 (World.cell?_alloc_new _ _ _ _))
    all_goals
      go_ret
      refine ⟨?_, Below.step (by (repeat (first | exact Below.refl _ _ | refine Below.drew ?_ | refine below_drewN' ?_ | refine Below.alloc ?_ (by simp; try omega) _ | refine Below.setCell ?_ (by simp; try omega) _))) hb1 (by simp)⟩
      rw [← HR.out]
      first
        | rfl
        | (simp; done)
        | (simp [*]; done)
        | (have h9 : ¬ 0 < id := by omega
           simp [h9]; done)
abbrev tupV (row xmin xmax x0 x1 y0 y1 val : Int) : Value := .agg #[.int .u32 row, .int .u64 xmin, .int .u64 xmax, .int .i64 x0, .int .i64 x1, .int .i64 y0, .int .i64 y1, .int .i64 val]
set_option maxHeartbeats 1000000 in
theorem sees_any (own : Int) (reads : Bool) (snap first : Int) (L : List (Int × Int)) (A : Option Addr) (c : Nat) (row xmin xmax x0 x1 y0 y1 val : Int) (w : World) (hn : L.length ≤ 500) (hf : Fts w w.heap.size A L) (hs : Rising L) :
    Calls Try.prog 29 #[lookV own reads snap first A L.length c, tupV row xmin xmax x0 x1 y0 y1 val] w fun e w' =>
      e = .returned (.bool (countsF own reads snap first L xmin && !countsF own reads snap first L xmax)) ∧ Below w.heap.size w w' := by
  have hco : ∀ (id : Int) (W : World), Below w.heap.size w W → Hid (Calls Try.prog 30 #[lookV own reads snap first A L.length c, .int .u64 id] W fun e w' => e = .returned (.bool (countsF own reads snap first L id)) ∧ Below W.heap.size W w') := fun id W hb =>
    Lib.hid (counts_any own reads snap first L A c id W hn (fun hne => by
      obtain ⟨ad, e, hlt, hat⟩ := hf hne
      exact ⟨ad, e, Nat.lt_of_lt_of_le hlt hb.size, hat.keep fun p hp => hb.cell (by rw [hp]; exact hlt)⟩) hs)
  obtain ⟨r, hr⟩ : ∃ r, countsF own reads snap first L xmin = r := ⟨_, rfl⟩
  obtain ⟨q, hq⟩ : ∃ r, countsF own reads snap first L xmax = r := ⟨_, rfl⟩
  have h1 := hco xmin
  have h2 := hco xmax
  rw [hr] at h1 ⊢
  rw [hq] at h2 ⊢
  clear hr hq hco hf
  have hc1 := h1 ((w.alloc (.cells #[.int .u64 own, .bool reads, .int .u64 snap, .int .u64 first, .slice A L.length c] 72)).alloc (.cells #[.int .u32 row, .int .u64 xmin, .int .u64 xmax, .int .i64 x0, .int .i64 x1, .int .i64 y0, .int .i64 y1, .int .i64 val] 32)) (by (repeat (first | exact Below.refl _ _ | refine Below.drew ?_ | refine below_drewN' ?_ | refine Below.alloc ?_ (by simp; try omega) _ | refine Below.setCell ?_ (by simp; try omega) _)))
  cases r <;> cases q
  all_goals
    go_enter Try.func29, Try.ntmps29
    go_wp2_with (first
      | (go_at_call 30; (with_reducible refine hc1.out.mono ?_); rintro e w1 ⟨rfl, hb1⟩; have k2 : w1.cell? ⟨w.heap.size + 1, 2, none⟩ = some (.int .u64 xmax) := keep_cell hb1 ((cell?_newAt (by simp) _).trans rfl); have hc2 := h2 w1 (Below.step (by (repeat (first | exact Below.refl _ _ | refine Below.drew ?_ | refine below_drewN' ?_ | refine Below.alloc ?_ (by simp; try omega) _ | refine Below.setCell ?_ (by simp; try omega) _))) hb1 (by simp; omega)))
      | (go_at_call 30; (with_reducible refine hc2.out.mono ?_); rintro e w2 ⟨rfl, hb2⟩))
    go_ret
    first
      | exact ⟨rfl, Below.step (Below.step (by (repeat (first | exact Below.refl _ _ | refine Below.drew ?_ | refine below_drewN' ?_ | refine Below.alloc ?_ (by simp; try omega) _ | refine Below.setCell ?_ (by simp; try omega) _))) hb1 (by simp; omega)) hb2 (by have := hb1.size; simp at this; omega)⟩
      | exact ⟨rfl, Below.step (by (repeat (first | exact Below.refl _ _ | refine Below.drew ?_ | refine below_drewN' ?_ | refine Below.alloc ?_ (by simp; try omega) _ | refine Below.setCell ?_ (by simp; try omega) _))) hb1 (by simp; omega)⟩
end Go.Proofs.Ytfggjefncnhikaa
