/- What the row of this claim reaches. No condition. -/
import Derived.Test.YtiamkgoajkfofaaDoorXPl
import Derived.Test.YtiamkgoajkfofaaDoorXX0
set_option linter.unusedVariables false
set_option linter.unusedSimpArgs false
namespace Go.Proofs.YtiamkgoajkfofaaDoor.S
open Go.RowKit Go.Proofs.YtiamkgoajkfofaaDoorW.PrintWords Go.Proofs.YtiamkgoajkfofaaDoorW.PrintLast Go.Proofs.YtiamkgoajkfofaaDoorW.PrintMore
def keyG (c a b d e : Int) : Bool := (decide (a ≤ b) && decide (d ≤ e)) && (decide (c = 1) || ((decide (c = 2) && (decide (d = 0) && decide (e = 0))) || (decide (c = 3) && (decide (a = b) && decide (d = e)))))
theorem box_vG (a b d e : Int) : key_box.f a b d e = some (decide (a ≤ b) && decide (d ≤ e)) := by
  unfold key_box.f
  by_cases h : a ≤ b <;> simp [h]
theorem key_vG (c a b d e : Int) : key_Check.f c a b d e = some (if keyG c a b d e = true then 0 else 2) := by
  unfold key_Check.f keyG
  rw [box_vG]
  cases (decide (a ≤ b) && decide (d ≤ e)) <;> by_cases c1 : c = 1 <;> by_cases c2 : c = 2 <;> by_cases c3 : c = 3 <;> by_cases k1 : d = 0 <;> by_cases k2 : e = 0 <;> by_cases k3 : a = b <;> by_cases k4 : d = e <;> simp_all
def refuseG (st : Int) (rd : Bool) (c o0 o2 o3 o4 o5 o6 : Int) : Int :=
  if o0 < 1 ∨ 6 < o0 then 2 else if o0 = 1 ∧ st = 2 then 311 else if ¬ o0 = 1 ∧ st = 1 then 312 else if (o0 = 2 ∨ o0 = 3) ∧ rd = true then 315 else
  if (o0 = 2 ∨ o0 = 3) ∧ o2 = 0 then 2 else if (o0 = 2 ∧ keyG c o3 o4 o5 o6 = false) ∨ (o0 = 4 ∧ keyG 1 o3 o4 o5 o6 = false) then 314 else 0
set_option maxHeartbeats 8000000 in
set_option maxRecDepth 100000 in
theorem refuse_walk (S : Array Value) (st : Int) (rd : Bool) (h0 : S[0]? = some (.int .i64 st)) (h2 : S[2]? = some (.bool rd)) (c o0 : Int) (o1 : Bool) (o2 o3 o4 o5 o6 o7 : Int) (w : World) :
    Calls Tryd.prog 30 #[.agg S, .int .i64 c, .agg #[.int .i64 o0, .bool o1, .int .u32 o2, .int .i64 o3, .int .i64 o4, .int .i64 o5, .int .i64 o6, .int .i64 o7]] w fun e w' => e = .returned (.int .i64 (refuseG st rd c o0 o2 o3 o4 o5 o6)) ∧ Below w.heap.size w w' := by
  obtain ⟨W, hW⟩ : ∃ W, (w.alloc (.cells S 33)).alloc (.cells #[.int .i64 o0, .bool o1, .int .u32 o2, .int .i64 o3, .int .i64 o4, .int .i64 o5, .int .i64 o6, .int .i64 o7] 27) = W := ⟨_, rfl⟩
  have b3 : Blk W w.heap.size 33 S := by rw [← hW]; exact (Blk.new w 33 _).alloc _
  have b5 : Blk W (w.heap.size + 1) 27 #[.int .i64 o0, .bool o1, .int .u32 o2, .int .i64 o3, .int .i64 o4, .int .i64 o5, .int .i64 o6, .int .i64 o7] := by rw [← hW]; exact Blk.newAt (by simp)
  have hB : Below w.heap.size w W := by rw [← hW]; exact keep_below_alloc _ (keep_below_alloc _ (Below.refl _ _))
  have s0 : W.cell? ⟨w.heap.size, 0, none⟩ = some (.int .i64 st) := (b3.cell 0).trans h0
  have s2 : W.cell? ⟨w.heap.size, 2, none⟩ = some (.bool rd) := (b3.cell 2).trans h2
  have k0 := b5.cell 0
  have k2 := b5.cell 2
  have k3 := b5.cell 3
  have k4 := b5.cell 4
  have k5 := b5.cell 5
  have k6 := b5.cell 6
  simp at k0 k2 k3 k4 k5 k6
  have HKc := fun W => Lib.hid (key_Check.calls c o3 o4 o5 o6 _ W (key_vG c o3 o4 o5 o6))
  have HK1 := fun W => Lib.hid (key_Check.calls 1 o3 o4 o5 o6 _ W (key_vG 1 o3 o4 o5 o6))
  have HW := Lib.hid hW
  clear hW b3 b5
  obtain ⟨r, hr⟩ : ∃ r, refuseG st rd c o0 o2 o3 o4 o5 o6 = r := ⟨_, rfl⟩
  rw [hr]
  have HR := Lib.hid hr
  clear hr h0 h2
  have hk : o0 = 1 ∨ o0 = 2 ∨ o0 = 3 ∨ o0 = 4 ∨ o0 = 5 ∨ o0 = 6 ∨ (o0 < 1 ∨ 6 < o0) := by omega
  go_enter Tryd.func30, Tryd.ntmps30
  go_upto_region 1 with fail
  rw [HW.out]
  clear HW
  rcases hk with rfl | rfl | rfl | rfl | rfl | rfl | hk
  · skip
    by_cases hs : st = 2
    · have d : (st == 2) = true := beq_iff_eq.mpr hs
      go_wp2
      go_ret
      exact ⟨by rw [← HR.out]; simp [refuseG, hs], hB⟩
    have d : (st == 2) = false := beq_eq_false_iff_ne.mpr hs
    go_wp2
    go_ret
    exact ⟨by rw [← HR.out]; simp [refuseG, hs], hB⟩
  · skip
    by_cases hs : st = 1
    · have d : (st == 1) = true := beq_iff_eq.mpr hs
      go_wp2
      go_ret
      exact ⟨by rw [← HR.out]; simp [refuseG, hs], hB⟩
    have d : (st == 1) = false := beq_eq_false_iff_ne.mpr hs
    cases hr : rd
    case true =>
      rw [hr] at s2
      go_wp2
      go_ret
      exact ⟨by rw [← HR.out]; simp [refuseG, hs, hr], hB⟩
    rw [hr] at s2
    by_cases h2 : o2 = 0
    · have d2 : (o2 == 0) = true := beq_iff_eq.mpr h2
      go_wp2
      go_ret
      exact ⟨by rw [← HR.out]; simp [refuseG, hs, hr, h2], hB⟩
    have d2 : (o2 == 0) = false := beq_eq_false_iff_ne.mpr h2
    cases hkey : keyG c o3 o4 o5 o6
    · skip
      simp only [hkey] at HKc
      go_wp2_with (go_at_call 55; (with_reducible refine (HKc _).out.mono ?_); rintro e w1 ⟨rfl, hb⟩; have m0 := keep_cell hb k0; have hB1 := keep_below hB hb)
      go_ret
      exact ⟨by rw [← HR.out]; simp [refuseG, hs, hr, h2, hkey], hB1⟩
    · skip
      simp only [hkey] at HKc
      go_wp2_with (go_at_call 55; (with_reducible refine (HKc _).out.mono ?_); rintro e w1 ⟨rfl, hb⟩; have m0 := keep_cell hb k0; have hB1 := keep_below hB hb)
      go_ret
      exact ⟨by rw [← HR.out]; simp [refuseG, hs, hr, h2, hkey], hB1⟩
  · skip
    by_cases hs : st = 1
    · have d : (st == 1) = true := beq_iff_eq.mpr hs
      go_wp2
      go_ret
      exact ⟨by rw [← HR.out]; simp [refuseG, hs], hB⟩
    have d : (st == 1) = false := beq_eq_false_iff_ne.mpr hs
    cases hr : rd
    case true =>
      rw [hr] at s2
      go_wp2
      go_ret
      exact ⟨by rw [← HR.out]; simp [refuseG, hs, hr], hB⟩
    rw [hr] at s2
    by_cases h2 : o2 = 0
    · have d2 : (o2 == 0) = true := beq_iff_eq.mpr h2
      go_wp2
      go_ret
      exact ⟨by rw [← HR.out]; simp [refuseG, hs, hr, h2], hB⟩
    have d2 : (o2 == 0) = false := beq_eq_false_iff_ne.mpr h2
    go_wp2
    go_ret
    exact ⟨by rw [← HR.out]; simp [refuseG, hs, hr, h2], hB⟩
  · skip
    by_cases hs : st = 1
    · have d : (st == 1) = true := beq_iff_eq.mpr hs
      go_wp2
      go_ret
      exact ⟨by rw [← HR.out]; simp [refuseG, hs], hB⟩
    have d : (st == 1) = false := beq_eq_false_iff_ne.mpr hs
    cases hkey : keyG 1 o3 o4 o5 o6
    · skip
      simp only [hkey] at HK1
      go_wp2_with (go_at_call 55; (with_reducible refine (HK1 _).out.mono ?_); rintro e w1 ⟨rfl, hb⟩; have m0 := keep_cell hb k0; have hB1 := keep_below hB hb)
      go_ret
      exact ⟨by rw [← HR.out]; simp [refuseG, hs, hkey], hB1⟩
    · skip
      simp only [hkey] at HK1
      go_wp2_with (go_at_call 55; (with_reducible refine (HK1 _).out.mono ?_); rintro e w1 ⟨rfl, hb⟩; have m0 := keep_cell hb k0; have hB1 := keep_below hB hb)
      go_ret
      exact ⟨by rw [← HR.out]; simp [refuseG, hs, hkey], hB1⟩
  · skip
    by_cases hs : st = 1
    · have d : (st == 1) = true := beq_iff_eq.mpr hs
      go_wp2
      go_ret
      exact ⟨by rw [← HR.out]; simp [refuseG, hs], hB⟩
    have d : (st == 1) = false := beq_eq_false_iff_ne.mpr hs
    go_wp2
    go_ret
    exact ⟨by rw [← HR.out]; simp [refuseG, hs], hB⟩
  · skip
    by_cases hs : st = 1
    · have d : (st == 1) = true := beq_iff_eq.mpr hs
      go_wp2
      go_ret
      exact ⟨by rw [← HR.out]; simp [refuseG, hs], hB⟩
    have d : (st == 1) = false := beq_eq_false_iff_ne.mpr hs
    go_wp2
    go_ret
    exact ⟨by rw [← HR.out]; simp [refuseG, hs], hB⟩
  · by_cases h1 : o0 < 1
    · have d : decide (o0 < 1) = true := decide_eq_true h1
      have e2 : (o0 == 2) = false := beq_eq_false_iff_ne.mpr (by omega)
      have e3 : (o0 == 3) = false := beq_eq_false_iff_ne.mpr (by omega)
      clear hk
      go_wp2
      go_ret
      exact ⟨by rw [← HR.out]; simp [refuseG, h1], hB⟩
    · have d : decide (o0 < 1) = false := decide_eq_false h1
      have h6 : 6 < o0 := by omega
      have d6 : decide (6 < o0) = true := decide_eq_true h6
      have d6' : decide (o0 > 6) = true := d6
      have e2 : (o0 == 2) = false := beq_eq_false_iff_ne.mpr (by omega)
      have e3 : (o0 == 3) = false := beq_eq_false_iff_ne.mpr (by omega)
      clear hk
      go_wp2
      go_ret
      exact ⟨by rw [← HR.out]; simp [refuseG, h1, h6], hB⟩
end Go.Proofs.YtiamkgoajkfofaaDoor.S
