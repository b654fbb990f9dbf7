/- What the row of this claim reaches. No condition. -/
import Derived.Laws.BytesArg
import Derived.WalkKit
import Derived.StillTailTactics
import Derived.Deep.RegionHeld3
import Derived.Laws.Bits64b
import Derived.Test.YthlhmijgbjcloaaLKeyUnionPure09
import Derived.Test.YthlhmijgbjcloaaCPure09w
import Derived.Test.YthlhmijgbjcloaaLKeyUnionX1
set_option linter.unusedVariables false
set_option linter.unusedSimpArgs false
namespace Go.Proofs.Ythlhmijgbjcloaa.A
open Go.RowKit Go.Proofs.YthlhmijgbjcloaaW.PrintWords Go.Proofs.YthlhmijgbjcloaaW.PrintLast Go.Proofs.YthlhmijgbjcloaaW.PrintMore
theorem lbox_eq (a0 a1 a2 a3 : Int) : gazetteerlaw09_box.f a0 a1 a2 a3 = some (boxB a0 a1 a2 a3) := by
  unfold gazetteerlaw09_box.f boxB
  by_cases h : a0 ≤ a1 <;> simp [h]
theorem mn_comm (a b : Int) : mn a b = mn b a := by unfold mn; split <;> split <;> omega
theorem mx_comm (a b : Int) : mx a b = mx b a := by unfold mx; split <;> split <;> omega
theorem mn_self (a : Int) : mn a a = a := by unfold mn; split <;> rfl
theorem mx_self (a : Int) : mx a a = a := by unfold mx; split <;> rfl
theorem mn_le (a b : Int) : mn a b ≤ a ∧ mn a b ≤ b ∧ (mn a b = a ∨ mn a b = b) := by unfold mn; split <;> omega
theorem mx_ge (a b : Int) : a ≤ mx a b ∧ b ≤ mx a b ∧ (mx a b = a ∨ mx a b = b) := by unfold mx; split <;> omega
set_option maxHeartbeats 2000000 in
theorem KeyUnion_pure : KeyUnion_Pure := by
  rintro ⟨a0, a1, a2, a3⟩ ⟨b0, b1, b2, b3⟩ ⟨c0, c1, c2, c3⟩ wa wb wc
  have ka := inK_of wa
  have kb := inK_of wb
  simp only at ka kb
  refine ⟨40, ?_⟩
  unfold gazetteerlaw09_KeyUnion.f
  rw [wakes_ok]
  rw [union_eq a0, lbox_eq, lbox_eq]
  cases ha : boxB a0 a1 a2 a3
  · rfl
  cases hb : boxB b0 b1 b2 b3
  · rfl
  have ia := boxB_t.mp ha
  have ib := boxB_t.mp hb
  simp only [Option.bind_some, if_true, and_self, Bool.not_true]
  have m0 := mn_le a0 b0
  have m1 := mx_ge a1 b1
  have m2 := mn_le a2 b2
  have m3 := mx_ge a3 b3
  have hk := union_inK ka kb
  have hU : key_Union.f (mn a0 b0) (mx a1 b1) (mn a2 b2) (mx a3 b3) a0 a1 a2 a3 = some (mn a0 b0, mx a1 b1, mn a2 b2, mx a3 b3) := by
    rw [union_eq, if_pos ⟨boxB_t.mpr (by omega), ha⟩]
    unfold mn mx
    congr 2
    · split <;> split <;> omega
    congr 1
    · split <;> split <;> omega
    congr 1
    · split <;> split <;> omega
    · split <;> split <;> omega
  have hG : key_Grows.f (mn a0 b0) (mx a1 b1) (mn a2 b2) (mx a3 b3) a0 a1 a2 a3 = some (0, 0, 0, 0) := by
    unfold key_Grows.f
    rw [box_eq, box_eq, boxB_t.mpr (show mn a0 b0 ≤ mx a1 b1 ∧ mn a2 b2 ≤ mx a3 b3 by omega), ha]
    simp only [Option.bind_some, if_true, grows_same hk hU]
  have hC1 : key_Covers.f (mn a0 b0) (mx a1 b1) (mn a2 b2) (mx a3 b3) a0 a1 a2 a3 = some true := by rw [covers_eq, boxB_t.mpr (show mn a0 b0 ≤ mx a1 b1 ∧ mn a2 b2 ≤ mx a3 b3 by omega), ha, decide_eq_true (by omega)]; rfl
  have hC2 : key_Covers.f (mn a0 b0) (mx a1 b1) (mn a2 b2) (mx a3 b3) b0 b1 b2 b3 = some true := by rw [covers_eq, boxB_t.mpr (show mn a0 b0 ≤ mx a1 b1 ∧ mn a2 b2 ≤ mx a3 b3 by omega), hb, decide_eq_true (by omega)]; rfl
  have hS : key_Union.f b0 b1 b2 b3 a0 a1 a2 a3 = some (mn a0 b0, mx a1 b1, mn a2 b2, mx a3 b3) := by
    rw [union_eq, if_pos ⟨hb, ha⟩, mn_comm b0, mx_comm b1, mn_comm b2, mx_comm b3]
  have hI : key_Union.f a0 a1 a2 a3 a0 a1 a2 a3 = some (a0, a1, a2, a3) := by
    rw [union_eq, if_pos ⟨ha, ha⟩, mn_self, mx_self, mn_self, mx_self]
  generalize mn a0 b0 = u0 at *
  generalize mx a1 b1 = u1 at *
  generalize mn a2 b2 = u2 at *
  generalize mx a3 b3 = u3 at *
  have hCu : boxB c0 c1 c2 c3 = true → (c0 ≤ a0 ∧ a1 ≤ c1 ∧ c2 ≤ a2 ∧ a3 ≤ c3) → (c0 ≤ b0 ∧ b1 ≤ c1 ∧ c2 ≤ b2 ∧ b3 ≤ c3) → key_Covers.f c0 c1 c2 c3 u0 u1 u2 u3 = some true := by
    intro h1 h2 h3
    rw [covers_eq, h1, boxB_t.mpr (show u0 ≤ u1 ∧ u2 ≤ u3 by omega), decide_eq_true (by omega)]
    rfl
  have hb1 : ((u0 == u0) && ((u1 == u1) && ((u2 == u2) && (u3 == u3)))) = true := by simp
  simp only [gazetteerlaw09_KeyUnion.j0, gazetteerlaw09_KeyUnion.j1, hC1, hC2, hS, hI, hG, Option.bind_some, Bool.false_eq_true, if_true, if_false, beq_self_eq_true, Bool.not_true, Bool.or_false, Bool.and_true]
  rw [covers_eq c0 c1 c2 c3 a0, covers_eq c0 c1 c2 c3 b0, ha, hb]
  cases hc : boxB c0 c1 c2 c3
  · rfl
  simp only [Bool.true_and, Option.bind_some, decide_eq_true_eq]
  split
  · rename_i h2
    split
    · rename_i h3
      rw [hCu hc h2 h3]
      rfl
    · rfl
  · rfl
end Go.Proofs.Ythlhmijgbjcloaa.A
