/- WideBoxes: for every box the program's widths, area and margin are the document's: the law answers true. No condition. -/
import Derived.Test.YthlhmijgbjcloaaRefBoxes
import Derived.Test.YthlhmijgbjcloaaWakes07
import Derived.Test.YthlhmijgbjcloaaArgs
import Derived.Test.YthlhmijgbjcloaaEq
import Derived.Test.YthlhmijgbjcloaaRowKit
namespace Go.Proofs.Ythlhmijgbjcloaa
set_option linter.unusedVariables false
set_option linter.unusedSimpArgs false
open Go.ChangeShapes Go.WideShapes Go.ChangeAt Go.RowKit

set_option maxHeartbeats 4000000 in
set_option maxRecDepth 100000 in
theorem boxes_walk (x0 x1 y0 y1 : Int) (g0 : isI x0) (g1 : isI x1) (g2 : isI y0) (g3 : isI y1) (w : World) :
    Calls Try.prog 6 #[.agg #[.int .i64 x0, .int .i64 x1, .int .i64 y0, .int .i64 y1]] w fun e w' => e = .returned (.bool true) ∧ Below w.heap.size w w' := by
  obtain ⟨V, hV⟩ : ∃ V, widthI x0 x1 = V := ⟨_, rfl⟩
  obtain ⟨A, hA⟩ : ∃ V, widthI x0 x1 * widthI y0 y1 = V := ⟨_, rfl⟩
  obtain ⟨M, hM⟩ : ∃ V, widthI x0 x1 + widthI y0 y1 = V := ⟨_, rfl⟩
  have hw1 : ∀ W, Hid (Calls Try.prog 22 #[.int .i64 x0, .int .i64 x1] W fun e w' => e = .returned (.int .u64 V) ∧ Below W.heap.size W w') := fun W => Lib.hid ((width_any x0 x1 W).mono fun e w' ⟨he, hw⟩ => ⟨by rw [he, hV], hw ▸ Below.refl _ _⟩)
  have hw2 : ∀ W, Hid (Calls Try.prog 23 #[.int .i64 x0, .int .i64 x1] W fun e w' => e = .returned (.int .u64 V) ∧ Below W.heap.size W w') := fun W => Lib.hid ((refwidth_any x0 x1 g0 g1 W).mono fun e w' ⟨he, hw⟩ => ⟨by rw [he, hV], hw ▸ Below.refl _ _⟩)
  have ha1 : ∀ W, Hid (Calls Try.prog 24 #[.agg #[.int .i64 x0, .int .i64 x1, .int .i64 y0, .int .i64 y1]] W fun e w' => e = .returned (wd A) ∧ Below W.heap.size W w') := fun W => Lib.hid (by
    have := area_any x0 x1 y0 y1 W (width_isU g0 g1) (width_isU g2 g3)
    rwa [hA] at this)
  have ha2 : ∀ W, Hid (Calls Try.prog 25 #[.agg #[.int .i64 x0, .int .i64 x1, .int .i64 y0, .int .i64 y1]] W fun e w' => e = .returned (wd A) ∧ Below W.heap.size W w') := fun W => Lib.hid (by
    have := refarea_any x0 x1 y0 y1 W g0 g1 g2 g3
    rwa [hA] at this)
  have hm1 : ∀ W, Hid (Calls Try.prog 26 #[.agg #[.int .i64 x0, .int .i64 x1, .int .i64 y0, .int .i64 y1]] W fun e w' => e = .returned (wd M) ∧ Below W.heap.size W w') := fun W => Lib.hid (by
    have := margin_any x0 x1 y0 y1 W (width_isU g0 g1) (width_isU g2 g3)
    rwa [hM] at this)
  have hm2 : ∀ W, Hid (Calls Try.prog 27 #[.agg #[.int .i64 x0, .int .i64 x1, .int .i64 y0, .int .i64 y1]] W fun e w' => e = .returned (wd M) ∧ Below W.heap.size W w') := fun W => Lib.hid (by
    have := refmargin_any x0 x1 y0 y1 W g0 g1 g2 g3
    rwa [hM] at this)
  have heq : ∀ (Z : Int) W, (binOp .eql 25 (wd Z) (wd Z)).run Try.prog W = .ok (.bool true) W := fun Z W => by rw [eql25]; simp
  clear hV hA hM g0 g1 g2 g3
  go_enter Try.func6, Try.ntmps6
  go_wp2_with (go_at_call 15; (with_reducible refine (wakes07_any _).mono ?_); rintro e w1 ⟨rfl, hb1⟩; have c0 : w1.cell? ⟨w.heap.size, 0, none⟩ = some (.int .i64 x0) := keep_cell hb1 (World.cell?_alloc_new _ _ _ _); have c1 : w1.cell? ⟨w.heap.size, 1, none⟩ = some (.int .i64 x1) := keep_cell hb1 (World.cell?_alloc_new _ _ _ _); have c2 : w1.cell? ⟨w.heap.size, 2, none⟩ = some (.int .i64 y0) := keep_cell hb1 (World.cell?_alloc_new _ _ _ _); have c3 : w1.cell? ⟨w.heap.size, 3, none⟩ = some (.int .i64 y1) := keep_cell hb1 (World.cell?_alloc_new _ _ _ _); have hB : Below w.heap.size w w1 := Below.step (by (repeat (first | exact Below.refl _ _ | refine Below.drew ?_ | refine below_drewN' ?_ | refine Below.alloc ?_ (by simp; try omega) _ | refine Below.setCell ?_ (by simp; try omega) _))) hb1 (by simp))
  go_region_held3 (fun w' => w'.cell? ⟨w.heap.size, 0, none⟩ = some (.int .i64 x0) ∧ w'.cell? ⟨w.heap.size, 1, none⟩ = some (.int .i64 x1) ∧ w'.cell? ⟨w.heap.size, 2, none⟩ = some (.int .i64 y0) ∧ w'.cell? ⟨w.heap.size, 3, none⟩ = some (.int .i64 y1) ∧ Below w.heap.size w w') ((first | (go_split_ands; (repeat' apply And.intro) <;> (first | assumption | exact keep_cell hb2 (by assumption) | exact keep_below (by assumption) hb2 | exact Below.drew (by assumption) | exact keep_alloc _ (by assumption) | exact keep_below_alloc _ (by assumption) | (go_simp; done))) | (go_simp; done) | (simp [go_sem, *]; done)))
    (first
      | (refine goes Try.func22 (by kernel_rfl) rfl #[.int .i64 x0, .int .i64 x1] (by rfl) rfl rfl ?_ ?_; ((try simp only [List.map_toArray, List.map_cons, List.map_nil]); rfl); (with_reducible refine ((hw1 _).out).mono ?_); rintro e w2 ⟨rfl, hb2⟩; refine ⟨_, rfl, ?_⟩)
      | (refine goes Try.func23 (by kernel_rfl) rfl #[.int .i64 x0, .int .i64 x1] (by rfl) rfl rfl ?_ ?_; ((try simp only [List.map_toArray, List.map_cons, List.map_nil]); rfl); (with_reducible refine ((hw2 _).out).mono ?_); rintro e w2 ⟨rfl, hb2⟩; refine ⟨_, rfl, ?_⟩)
      | (refine goes Try.func24 (by kernel_rfl) rfl #[.agg #[.int .i64 x0, .int .i64 x1, .int .i64 y0, .int .i64 y1]] (by rfl) rfl rfl ?_ ?_; ((try simp only [List.map_toArray, List.map_cons, List.map_nil]); rfl); (with_reducible refine ((ha1 _).out).mono ?_); rintro e w2 ⟨rfl, hb2⟩; refine ⟨_, rfl, ?_⟩)
      | (refine goes Try.func25 (by kernel_rfl) rfl #[.agg #[.int .i64 x0, .int .i64 x1, .int .i64 y0, .int .i64 y1]] (by rfl) rfl rfl ?_ ?_; ((try simp only [List.map_toArray, List.map_cons, List.map_nil]); rfl); (with_reducible refine ((ha2 _).out).mono ?_); rintro e w2 ⟨rfl, hb2⟩; refine ⟨_, rfl, ?_⟩)
      | (refine goes Try.func26 (by kernel_rfl) rfl #[.agg #[.int .i64 x0, .int .i64 x1, .int .i64 y0, .int .i64 y1]] (by rfl) rfl rfl ?_ ?_; ((try simp only [List.map_toArray, List.map_cons, List.map_nil]); rfl); (with_reducible refine ((hm1 _).out).mono ?_); rintro e w2 ⟨rfl, hb2⟩; refine ⟨_, rfl, ?_⟩)
      | (refine goes Try.func27 (by kernel_rfl) rfl #[.agg #[.int .i64 x0, .int .i64 x1, .int .i64 y0, .int .i64 y1]] (by rfl) rfl rfl ?_ ?_; ((try simp only [List.map_toArray, List.map_cons, List.map_nil]); rfl); (with_reducible refine ((hm2 _).out).mono ?_); rintro e w2 ⟨rfl, hb2⟩; refine ⟨_, rfl, ?_⟩))
  go_split_ands
  go_wp2
  go_ret
  exact ⟨by first | rfl | simp, by assumption⟩

set_option maxRecDepth 100000 in
theorem wideBoxes_lifted (os : Os) (started : os.Started) (H : Type) (enc : TypeId × Value → H) :
    ReturnsInHanded {} Try.checked os 6 .any (Rows.wideBoxesSpec.pre6 enc Try.prog Try.f6 Rows.wideBoxesRow.domain false) (Rows.wideBoxesSpec.post enc Try.prog Try.f6 false true false false) :=
  law_lifted os started (by kernel_rfl) Try.func6 rfl (fun ds hd => match ds, hd with | [_], _ => rfl) (by kernel_rfl) (by kernel_rfl)
    (ChangeSpec.witness6 (enc := enc) (C := Try.checked) false ⟨#[], #[.agg #[.int .i64 0, .int .i64 0, .int .i64 0, .int .i64 0]], []⟩ 8 (by kernel_rfl) (by kernel_rfl) (by kernel_rfl) (by kernel_rfl))
    (by
      intro W args ds p base hval hA hlt
      rw [Try.params6] at hA hval
      obtain ⟨v0, vs0, d0, ds0, p0, q0, hargs, rfl, rfl, h0, r0⟩ := trodAll_cons hA
      obtain ⟨rfl, rfl, rfl⟩ := trodAll_nil r0
      obtain rfl : args = #[v0] := by cases args; simp_all
      obtain ⟨x0, x1, y0, y1, g0, g1, g2, g3, rfl⟩ := open_key (hval 0 35 v0 rfl rfl) h0
      exact boxes_walk x0 x1 y0 y1 g0 g1 g2 g3 W)

theorem WideBoxes : Rows.WideBoxesSaid := OpenClaim.holds_of_wide 6 Try.f6 rfl rfl rfl rfl rfl rfl rfl ⟨rfl, rfl, rfl, rfl, rfl⟩ rfl rfl rfl rfl rfl (by kernel_rfl) Try.func6 (by kernel_rfl) (of_decide_eq_true (by kernel_rfl)) (by unfold Func.isWrapper; first | (rw [if_pos (by decide +kernel)]; kernel_rfl) | (rw [if_neg (by decide +kernel)]; exact ⟨rfl, rfl⟩)) (fun os started H enc _ => wideBoxes_lifted os started H enc)
#print axioms WideBoxes
end Go.Proofs.Ythlhmijgbjcloaa
