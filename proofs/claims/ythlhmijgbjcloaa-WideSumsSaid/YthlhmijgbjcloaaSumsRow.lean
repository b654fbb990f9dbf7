/- WideSums: for every two numbers of 128 bits the program's sum, difference and order are the document's: the law answers true. No condition. -/
import Derived.Test.YthlhmijgbjcloaaRefSub
import Derived.Test.YthlhmijgbjcloaaWakes07
import Derived.Test.YthlhmijgbjcloaaArgs
import Derived.Test.YthlhmijgbjcloaaEq
import Derived.Test.YthlhmijgbjcloaaRowKit
namespace Go.Proofs.Ythlhmijgbjcloaa
set_option linter.unusedVariables false
set_option linter.unusedSimpArgs false
open Go.ChangeShapes Go.WideShapes Go.ChangeAt Go.RowKit

set_option maxHeartbeats 8000000 in
set_option maxRecDepth 100000 in
theorem sums_walk (A B : Int) (hA : in128 A) (hB : in128 B) (w : World) :
    Calls Try.prog 7 #[wd A, wd B] w fun e w' => e = .returned (.bool true) ∧ Below w.heap.size w w' := by
  obtain ⟨X, hX⟩ : ∃ X, m128 (A + B) = X := ⟨_, rfl⟩
  obtain ⟨o, ho⟩ : ∃ o, lt128 (A + B) = o := ⟨_, rfl⟩
  obtain ⟨Y, hY⟩ : ∃ X, m128 (A - B) = X := ⟨_, rfl⟩
  obtain ⟨u, hu⟩ : ∃ o, decide (B ≤ A) = o := ⟨_, rfl⟩
  obtain ⟨p, hp⟩ : ∃ o, cmpN A B = o := ⟨_, rfl⟩
  have hadd1 : ∀ W, Hid (Calls Try.prog 21 #[wd A, wd B] W fun e w' => e = .returned (.tuple #[wd X, .bool o]) ∧ Below W.heap.size W w') := fun W => by
    have := add_n A B W hA hB
    rw [hX, ho] at this
    exact this
  have hadd2 : ∀ W, Hid (Calls Try.prog 28 #[wd A, wd B] W fun e w' => e = .returned (.tuple #[wd X, .bool o]) ∧ Below W.heap.size W w') := fun W => by
    have := refadd_i A B hA hB W
    rw [hX, ho] at this
    exact this
  have hsub1 : ∀ W, Hid (Calls Try.prog 29 #[wd A, wd B] W fun e w' => e = .returned (.tuple #[wd Y, .bool u]) ∧ Below W.heap.size W w') := fun W => by
    have := sub_n A B W hA hB
    rw [hY, hu] at this
    exact this
  have hsub2 : ∀ W, Hid (Calls Try.prog 30 #[wd A, wd B] W fun e w' => e = .returned (.tuple #[wd Y, .bool u]) ∧ Below W.heap.size W w') := fun W => by
    obtain ⟨x, rfl⟩ := Int.eq_ofNat_of_zero_le hA.1
    obtain ⟨y, rfl⟩ := Int.eq_ofNat_of_zero_le hB.1
    have hx := hA.2
    have hy := hB.2
    have := refsub_n x y (by omega) (by omega) W
    rw [hY, hu] at this
    exact this
  have hcmp1 : ∀ W, Hid (Calls Try.prog 20 #[wd A, wd B] W fun e w' => e = .returned (.int .i64 p) ∧ Below W.heap.size W w') := fun W => by
    have := cmp_n A B W
    rw [hp] at this
    exact this
  have hcmp2 : ∀ W, Hid (Calls Try.prog 31 #[wd A, wd B] W fun e w' => e = .returned (.int .i64 p) ∧ Below W.heap.size W w') := fun W => by
    obtain ⟨x, rfl⟩ := Int.eq_ofNat_of_zero_le hA.1
    obtain ⟨y, rfl⟩ := Int.eq_ofNat_of_zero_le hB.1
    have hx := hA.2
    have hy := hB.2
    have := refcmp_n x y (by omega) (by omega) W
    rw [hp] at this
    exact this
  have heq : ∀ (Z : Int) W, (binOp .eql 25 (wd Z) (wd Z)).run Try.prog W = .ok (.bool true) W := fun Z W => by rw [eql25]; simp
  clear hX ho hY hu hp hA hB
  go_enter Try.func7, Try.ntmps7
  go_upto_region 7 with (first
    | (go_at_call 15; (with_reducible refine (wakes07_any _).mono ?_); rintro e w1 ⟨rfl, hb1⟩; obtain ⟨hc, hf⟩ := bcell hb1; have c0 : w1.cell? ⟨w.heap.size, 0, none⟩ = some (.int .u64 (hi64 A)) := (hc _ _ (by first | omega | (simp; done) | (simp; omega) | (simp at *; omega))).trans (by go_simp); have c1 : w1.cell? ⟨w.heap.size, 1, none⟩ = some (.int .u64 (lo64 A)) := (hc _ _ (by first | omega | (simp; done) | (simp; omega) | (simp at *; omega))).trans (by go_simp); have c2 : w1.cell? ⟨w.heap.size + 1, 0, none⟩ = some (.int .u64 (hi64 B)) := (hc _ _ (by first | omega | (simp; done) | (simp; omega) | (simp at *; omega))).trans (by go_simp); have c3 : w1.cell? ⟨w.heap.size + 1, 1, none⟩ = some (.int .u64 (lo64 B)) := (hc _ _ (by first | omega | (simp; done) | (simp; omega) | (simp at *; omega))).trans (by go_simp); have hB : Below w.heap.size w w1 := keep_below (by (repeat (first | exact Below.refl _ _ | refine Below.drew ?_ | refine below_drewN' ?_ | refine Below.alloc ?_ (by simp; try omega) _ | refine Below.setCell ?_ (by simp; try omega) _))) hb1; have lc0 := lt_cell c0; have lc2 := lt_cell c2; clear hb1 hc hf)
    | (go_at_call 21; (with_reducible refine (hadd1 _).out.mono ?_); rintro e wa ⟨rfl, hba⟩; replace c0 := keep_cell hba c0; replace c1 := keep_cell hba c1; replace c2 := keep_cell hba c2; replace c3 := keep_cell hba c3; replace hB := keep_below hB hba; have lc0 := lt_cell c0; have lc2 := lt_cell c2; clear hba)
    | (go_at_call 28; (with_reducible refine (hadd2 _).out.mono ?_); rintro e wb ⟨rfl, hbb⟩; replace c0 := keep_cell hbb (keep_alloc _ c0); replace c1 := keep_cell hbb (keep_alloc _ c1); replace c2 := keep_cell hbb (keep_alloc _ c2); replace c3 := keep_cell hbb (keep_alloc _ c3); replace hB := keep_below (keep_below_alloc _ hB) hbb; have x0 := keep_cell hbb (World.cell?_alloc_at (w := wa) _ _ wa.heap.size 0 rfl); have x1 := keep_cell hbb (World.cell?_alloc_at (w := wa) _ _ wa.heap.size 1 rfl); have lc0 := lt_cell c0; have lc2 := lt_cell c2; have lx0 := lt_cell x0; clear hbb)
    | (go_at_call 29; (with_reducible refine (hsub1 _).out.mono ?_); rintro e wc ⟨rfl, hbc⟩; replace c0 := keep_cell hbc (keep_alloc _ c0); replace c1 := keep_cell hbc (keep_alloc _ c1); replace c2 := keep_cell hbc (keep_alloc _ c2); replace c3 := keep_cell hbc (keep_alloc _ c3); replace x0 := keep_cell hbc (keep_alloc _ x0); replace x1 := keep_cell hbc (keep_alloc _ x1); replace hB := keep_below (keep_below_alloc _ hB) hbc; have y0 := keep_cell hbc (World.cell?_alloc_at (w := wb) _ _ wb.heap.size 0 rfl); have y1 := keep_cell hbc (World.cell?_alloc_at (w := wb) _ _ wb.heap.size 1 rfl); have lc0 := lt_cell c0; have lc2 := lt_cell c2; have lx0 := lt_cell x0; have ly0 := lt_cell y0; clear hbc)
    | (go_at_call 30; (with_reducible refine (hsub2 _).out.mono ?_); rintro e we ⟨rfl, hbe⟩; replace c0 := keep_cell hbe (keep_alloc _ c0); replace c1 := keep_cell hbe (keep_alloc _ c1); replace c2 := keep_cell hbe (keep_alloc _ c2); replace c3 := keep_cell hbe (keep_alloc _ c3); replace x0 := keep_cell hbe (keep_alloc _ x0); replace x1 := keep_cell hbe (keep_alloc _ x1); replace y0 := keep_cell hbe (keep_alloc _ y0); replace y1 := keep_cell hbe (keep_alloc _ y1); replace hB := keep_below (keep_below_alloc _ hB) hbe; have z0 := keep_cell hbe (World.cell?_alloc_at (w := wc) _ _ wc.heap.size 0 rfl); have z1 := keep_cell hbe (World.cell?_alloc_at (w := wc) _ _ wc.heap.size 1 rfl); have lc0 := lt_cell c0; have lc2 := lt_cell c2; have lx0 := lt_cell x0; have ly0 := lt_cell y0; have lz0 := lt_cell z0; clear hbe))
  obtain ⟨ob, hob⟩ : ∃ ob, ob = Obj.cells #[.int .u64 (hi64 Y), .int .u64 (lo64 Y)] 25 := ⟨_, rfl⟩
  have q0 := World.cell?_alloc_at (w := we) (#[.int .u64 (hi64 Y), .int .u64 (lo64 Y)]) 25 we.heap.size 0 rfl
  have q1 := World.cell?_alloc_at (w := we) (#[.int .u64 (hi64 Y), .int .u64 (lo64 Y)]) 25 we.heap.size 1 rfl
  rw [← hob] at q0 q1 ⊢
  clear hob
  replace c0 := keep_alloc (ob) c0; replace c1 := keep_alloc (ob) c1; replace c2 := keep_alloc (ob) c2; replace c3 := keep_alloc (ob) c3; replace x0 := keep_alloc (ob) x0; replace x1 := keep_alloc (ob) x1; replace y0 := keep_alloc (ob) y0; replace y1 := keep_alloc (ob) y1; replace z0 := keep_alloc (ob) z0; replace z1 := keep_alloc (ob) z1; replace hB := keep_below_alloc (ob) hB
  have heb : ∀ (b : Bool), (b == b) = true := by decide
  go_region_held3 (fun w' => w'.cell? ⟨w.heap.size, 0, none⟩ = some (.int .u64 (hi64 A)) ∧ w'.cell? ⟨w.heap.size, 1, none⟩ = some (.int .u64 (lo64 A)) ∧ w'.cell? ⟨w.heap.size + 1, 0, none⟩ = some (.int .u64 (hi64 B)) ∧ w'.cell? ⟨w.heap.size + 1, 1, none⟩ = some (.int .u64 (lo64 B)) ∧ w'.cell? ⟨wa.heap.size, 0, none⟩ = some (.int .u64 (hi64 X)) ∧ w'.cell? ⟨wa.heap.size, 1, none⟩ = some (.int .u64 (lo64 X)) ∧ w'.cell? ⟨wb.heap.size, 0, none⟩ = some (.int .u64 (hi64 X)) ∧ w'.cell? ⟨wb.heap.size, 1, none⟩ = some (.int .u64 (lo64 X)) ∧ w'.cell? ⟨wc.heap.size, 0, none⟩ = some (.int .u64 (hi64 Y)) ∧ w'.cell? ⟨wc.heap.size, 1, none⟩ = some (.int .u64 (lo64 Y)) ∧ w'.cell? ⟨we.heap.size, 0, none⟩ = some (.int .u64 (hi64 Y)) ∧ w'.cell? ⟨we.heap.size, 1, none⟩ = some (.int .u64 (lo64 Y)) ∧ Below w.heap.size w w') ((first | (go_split_ands; (repeat' apply And.intro) <;> (first | assumption | exact keep_cell hb2 (by assumption) | exact keep_below (by assumption) hb2 | exact Below.drew (by assumption) | exact keep_alloc _ (by assumption) | exact keep_below_alloc _ (by assumption) | (go_simp; done))) | (go_simp; done) | (simp [go_sem, *]; done)))
    (first
      | (refine goes Try.func20 (by kernel_rfl) rfl #[wd A, wd B] (by rfl) rfl rfl ?_ ?_; ((try simp only [List.map_toArray, List.map_cons, List.map_nil]); rfl); (with_reducible refine ((hcmp1 _).out).mono ?_); rintro e w2 ⟨rfl, hb2⟩; refine ⟨_, rfl, ?_⟩)
      | (refine goes Try.func31 (by kernel_rfl) rfl #[wd A, wd B] (by rfl) rfl rfl ?_ ?_; ((try simp only [List.map_toArray, List.map_cons, List.map_nil]); rfl); (with_reducible refine ((hcmp2 _).out).mono ?_); rintro e w2 ⟨rfl, hb2⟩; refine ⟨_, rfl, ?_⟩))
  go_wp2
  go_ret
  go_split_ands
  exact ⟨by first | rfl | simp, by assumption⟩

set_option maxRecDepth 100000 in
theorem wideSums_lifted (os : Os) (started : os.Started) (H : Type) (enc : TypeId × Value → H) :
    ReturnsInHanded {} Try.checked os 7 .any (Rows.wideSumsSpec.pre6 enc Try.prog Try.f7 Rows.wideSumsRow.domain false) (Rows.wideSumsSpec.post enc Try.prog Try.f7 false true false false) :=
  law_lifted os started (by kernel_rfl) Try.func7 rfl (fun ds hd => match ds, hd with | [_, _], _ => rfl) (by kernel_rfl) (by kernel_rfl)
    (ChangeSpec.witness6 (enc := enc) (C := Try.checked) false ⟨#[], #[.agg #[.int .u64 0, .int .u64 0], .agg #[.int .u64 0, .int .u64 0]], []⟩ 8 (by kernel_rfl) (by kernel_rfl) (by kernel_rfl) (by kernel_rfl))
    (by
      intro W args ds p base hval hA hlt
      rw [Try.params7] at hA hval
      obtain ⟨v0, vs0, d0, ds0, p0, q0, hargs, rfl, rfl, h0, r0⟩ := trodAll_cons hA
      obtain ⟨v1, vs1, d1, ds1, p1, q1, rfl, rfl, rfl, h1, r1⟩ := trodAll_cons r0
      obtain ⟨rfl, rfl, rfl⟩ := trodAll_nil r1
      obtain rfl : args = #[v0, v1] := by cases args; simp_all
      obtain ⟨A, gA, rfl⟩ := open_wide (hval 0 25 v0 rfl rfl) h0
      obtain ⟨B, gB, rfl⟩ := open_wide (hval 1 25 v1 rfl rfl) h1
      exact sums_walk A B gA gB W)

theorem WideSums : Rows.WideSumsSaid := OpenClaim.holds_of_wide 7 Try.f7 rfl rfl rfl rfl rfl rfl rfl ⟨rfl, rfl, rfl, rfl, rfl⟩ rfl rfl rfl rfl rfl (by kernel_rfl) Try.func7 (by kernel_rfl) (of_decide_eq_true (by kernel_rfl)) (by unfold Func.isWrapper; first | (rw [if_pos (by decide +kernel)]; kernel_rfl) | (rw [if_neg (by decide +kernel)]; exact ⟨rfl, rfl⟩)) (fun os started H enc _ => wideSums_lifted os started H enc)
#print axioms WideSums
end Go.Proofs.Ythlhmijgbjcloaa
