/- The walk of wide.Text: a number in digits. -/
import Derived.Test.YthlhmijgbjcloaaBase
import Derived.Test.YthlhmijgbjcloaaWideMath
import Derived.Test.YthlhmijgbjcloaaTextMath
import Derived.RangeFuncBox
namespace Go.Proofs.Ythlhmijgbjcloaa
set_option linter.unusedVariables false
set_option linter.unusedSimpArgs false
open Go.RowKit

theorem info_u8 : (Try.prog.info? 5).map (fun i => (i.zero, i.size, i.bytes)) = some (some (.int .u8 0), 1, 1) := by kernel_rfl

def TextRel (w : World) (hi lo n : Nat) (v3 v12 : Value) (wr : World) : Prop :=
  ∃ k g cap len : Nat, k ≤ 128 ∧ v12 = .int .i64 (k : Int) ∧ v3 = .slice (some ⟨g, 0, none⟩) len cap ∧ len ≤ k + 1 ∧ wr.ownsRow (w.heap.size + 1) 5 1 v3 len (dcells (dl (topBits n k))) ∧
    wr.cell? ⟨w.heap.size, 0, none⟩ = some (.int .u64 (hi : Int)) ∧ wr.cell? ⟨w.heap.size, 1, none⟩ = some (.int .u64 (lo : Int)) ∧ Below w.heap.size w wr

set_option maxHeartbeats 1000000 in
set_option maxRecDepth 100000 in
theorem text_any (hi lo n : Nat) (hn : Hid (n = hi * 2 ^ 64 + lo ∧ hi < 2 ^ 64 ∧ lo < 2 ^ 64)) (w : World) :
    Calls Try.prog 18 #[.agg #[.int .u64 (hi : Int), .int .u64 (lo : Int)]] w fun e w' => e = .returned (.string (decS n)) ∧ Below w.heap.size w w' := by
  obtain ⟨i0, hi0, hz0, hz1, hz2⟩ := info_parts info_u8
  go_enter Try.func18, Try.ntmps18
  go_wp2
  go_loopw [3, 12] (fun v3 v12 wr => TextRel w hi lo n v3 v12 wr) (fun _ v12 _ => 128 - (intOf v12).toNat)
  case atStart =>
    have hn128 : n < 2 ^ 128 := by have := hn.out; omega
    refine ⟨0, w.heap.size + 1, 1, 1, by omega, rfl, rfl, by omega, ?_, by go_simp; done, by go_simp; done, by (repeat (first | exact Below.refl _ _ | refine Below.drew ?_ | refine below_drewN' ?_ | refine Below.alloc ?_ (by simp; try omega) _ | refine Below.setCell ?_ (by simp; try omega) _))⟩
    rw [topBits_zero hn128, dl_small (by omega)]
    have h := World.ownsRow_lit (base := w.heap.size + 1) (e := 5) (size := 1) (w.alloc (.cells #[.int .u64 (hi : Int), .int .u64 (lo : Int)] 25)) #[.int .u8 0] 1 (by simp) (by unfold maxLen; omega) (by simp)
    simpa [dcells] using h
  case round =>
    obtain ⟨k, g, cap, len, hk, rfl, rfl, hlen, hown, hc0, hc1, hB⟩ := hrel
    by_cases hlt : k < 128
    · obtain ⟨c, hcd⟩ : ∃ c : Nat, c = bitAt (if k < 64 then hi else lo) (63 - k % 64) := ⟨_, rfl⟩
      have hcl : c ≤ 1 := by rw [hcd]; exact bitAt_le _ _
      have hb : bits BinOp.and IntKind.u64 (((if k < 64 then hi else lo : Nat) : Int) / 2 ^ (63 - k % 64)) 1 = (c : Int) := by
        have hX : (if k < 64 then hi else lo) < 2 ^ 64 := by split <;> first | exact hn.out.2.1 | exact hn.out.2.2
        rw [hcd]
        generalize (if k < 64 then hi else lo) = X at hX ⊢
        have e : ((X : Int) / 2 ^ (63 - k % 64)) = ((X / 2 ^ (63 - k % 64) : Nat) : Int) := by simp
        have := Nat.div_le_self X (2 ^ (63 - k % 64))
        generalize hY : X / 2 ^ (63 - k % 64) = Y at *
        rw [e, and_one_u64 _ (by omega) (by omega)]
        have : bitAt X (63 - k % 64) = Y % 2 := by unfold bitAt; rw [hY]
        omega
      have HC := Lib.hid hcd
      clear hcd
      have hm : (c : Int) % 256 = (c : Int) := by omega
      obtain ⟨L, hL⟩ : ∃ L, L = dl (topBits n k) := ⟨_, rfl⟩
      rw [← hL] at hown
      have HX : Hid (dl (topBits n (k + 1)) = dblAll L c) := by
        rw [bit_any hi lo n k hn.out.1 hn.out.2.2 hlt, ← HC.out, ← dblAll_dl _ _ hcl, ← hL]; rfl
      have HL := Lib.hid hL
      clear hL
      by_cases h64 : k < 64
      all_goals
        simp only [h64, if_true, if_false] at hb
        go_wp2
        clear hb hm
        obtain ⟨wo, rfl⟩ : ∃ wo : World, wo = wr := ⟨_, rfl⟩
        go_loopw [6, 30] (fun v6 v30 wi => ∃ j : Nat, j ≤ len ∧ v30 = .int .i64 (j : Int) ∧ v6 = .int .u8 (((dbl (L.take j) c).2 : Nat) : Int) ∧ wi.ownsRow (w.heap.size + 1) 5 1 (.slice (some ⟨g, 0, none⟩) len cap) len (dcells ((dbl (L.take j) c).1 ++ L.drop j)) ∧
          wi.cell? ⟨w.heap.size, 0, none⟩ = some (.int .u64 (hi : Int)) ∧ wi.cell? ⟨w.heap.size, 1, none⟩ = some (.int .u64 (lo : Int)) ∧ Below w.heap.size w wi) (fun _ v30 _ => len - (intOf v30).toNat)
        case atStart => exact ⟨0, by omega, rfl, rfl, hown, hc0, hc1, hB⟩
        case round =>
          obtain ⟨j, hj, rfl, rfl, hown1, hd0, hd1, hB1⟩ := hrel
          obtain ⟨e, hE⟩ : ∃ e : Nat, (dbl (L.take j) c).2 = e := ⟨_, rfl⟩
          have hel : e ≤ 1 := by rw [← hE]; exact dbl_carry _ _ hcl (fun d hd => dl_lt (topBits n k) d (by rw [← HL.out]; exact List.mem_of_mem_take hd))
          by_cases hjl : j < len
          · have hLl : L.length = len := by have := hown.1; simpa [dcells] using this
            obtain ⟨d, hd⟩ : ∃ d, L[j]? = some d := ⟨L[j]'(by omega), List.getElem?_eq_getElem (by omega)⟩
            have hd9 : d ≤ 9 := by have := dl_lt (topBits n k) d (by rw [← HL.out]; exact List.mem_of_getElem? hd); omega
            have hcell : wr.cell? ⟨g, j, none⟩ = some (.int .u8 (d : Int)) := by
              rw [hown1.cellAt j (by omega)]
              simp [dcells, List.getElem?_append, dbl_len, hd, Nat.min_eq_left (show j ≤ L.length by omega)]
            have hfr := hown1.frozenAt j
            have HD := Lib.hid hd
            have HE := Lib.hid hE
            have HLl := Lib.hid hLl
            rw [hE]
            clear hd hE hLl
            go_wp2
            go_roundw
            case rel =>
              obtain ⟨r1, r2⟩ := dbl_row L c j d e HD.out HE.out
              obtain ⟨s1, s2⟩ := hown1.stored j (.int .u8 (((2 * d + e) % 10 : Nat) : Int))
              have hgB := (hown1.lt g rfl).1
              refine ⟨j + 1, by omega, by go_num, by rw [r1]; go_num, by rw [← r2]; exact s1, ?_, ?_, hB1.setCell (p := ⟨g, j, none⟩) (by simp; omega) _⟩
              · rw [World.cell?_setCell_other _ _ _ _ (by simp)]; exact hd0
              · rw [World.cell?_setCell_other _ _ _ _ (by simp)]; exact hd1
            case measure => simp [intOf]; omega
          · obtain rfl : j = len := by omega
            have hLl : L.length = j := by have := hown.1; simpa [dcells] using this
            rw [List.take_of_length_le (by omega), List.drop_of_length_le (by omega), List.append_nil] at hown1
            rw [List.take_of_length_le (by omega)] at hE
            rw [List.take_of_length_le (by omega), hE]
            have HE := Lib.hid hE
            have HLl := Lib.hid hLl
            clear hE hLl
            by_cases he0 : e = 0
            · subst he0
              go_wp2
              go_roundw
              case rel => exact ⟨k + 1, g, cap, j, by omega, by go_num, rfl, by omega, by rw [HX.out, dblAll, if_pos HE.out]; exact hown1, hd0, hd1, hB1⟩
              case measure => simp [intOf]; omega
            · have he1 : 0 < e := by omega
              go_wp2_with (at_builtin; refine wpList_append_own_at _ rfl _ _ 65 rfl (w.heap.size + 1) 5 i0 _ 1 1 Try.underlying65 hi0 hz0 hz1 hz2 rfl (by decide) (.slice (some ⟨g, 0, none⟩) j cap) _ _ rfl ((hown1).alloc _) ⟨wr.heap.size, 0, none⟩ 1 1 [.int .u8 (e : Int)] rfl rfl (cell_one_new _ _ _) (by simp [Value.oneCell']) (by unfold maxLen; omega) (by omega) (by have := hB1.size; simp; omega) ?_; intro v1 w1 hown2 hgrow2 hnil2 hat2; obtain ⟨g2, cap2, rfl⟩ := ownsRow_succ hown2)
              have hgB := (hown1.lt g rfl).1
              have hgs := (hown1.lt g rfl).2
              have hs1 := hB1.size
              go_roundw
              case rel =>
                refine ⟨k + 1, g2, cap2, j + 1, by omega, by go_num, rfl, by omega, by rw [HX.out, dblAll, if_neg (by rw [HE.out]; omega), HE.out]; simpa [dcells] using hown2, ?_, ?_, ?_⟩
                · exact hgrow2.cell ((World.cell?_alloc_lt _ _ _ (by show w.heap.size < _; omega)).trans hd0) (by simp [Value.ownBlock]; omega)
                · exact hgrow2.cell ((World.cell?_alloc_lt _ _ _ (by show w.heap.size < _; omega)).trans hd1) (by simp [Value.ownBlock]; omega)
                · exact (hB1.alloc (by omega) _).grown hgrow2 (by simp; omega) (fun q hq => by simp [Value.ownBlock] at hq; omega)
              case measure => simp [intOf]; omega
    · obtain rfl : k = 128 := by omega
      rw [topBits_all] at hown
      have hnl : (dl n).length = len := by have := hown.1; simpa [dcells] using this
      have HN := Lib.hid hnl
      clear hnl hlt
      go_wp2
      obtain ⟨wo, rfl⟩ : ∃ wo : World, wo = wr := ⟨_, rfl⟩
      have hso := hB.size
      go_loopw [9, 10] (fun v9 v10 wr => ∃ m : Nat, m ≤ len ∧ v10 = .int .i64 ((m : Int) - 1) ∧ wr.ownsRow wo.heap.size 5 1 v9 (len - m) (((dl n).reverse.take (len - m)).map fun d : Nat => .int .u8 ((48 + d : Nat) : Int)) ∧ Below wo.heap.size wo wr) (fun _ v10 _ => (intOf v10 + 1).toNat)
      case atStart => exact ⟨len, by omega, by go_num, by simpa using World.ownsRow_nil _ _ _ _, Below.refl _ _⟩
      case round =>
        obtain ⟨m, hj, rfl, hown1, hB1⟩ := hrel
        rcases m with _ | p
        · rw [show (((0 : Nat) : Int) - 1) = -1 from rfl]
          have hlp : 0 < len := by (rw [← HN.out, dl]; split <;> simp)
          obtain ⟨q, hq⟩ : ∃ q, len = q + 1 := ⟨len - 1, by omega⟩
          have HQ := Lib.hid hq
          rw [hq] at hown1
          clear hq
          obtain ⟨g3, cap3, rfl⟩ := ownsRow_succ hown1
          have hconv : (convert 65 9 (.slice (some ⟨g3, 0, none⟩) (q + 1) cap3)).run Try.prog wr = .ok (.string (decS n)) wr := by
            rw [decS_eq]
            have hlq : (dl n).reverse.length = q + 1 := by rw [List.length_reverse, HN.out, HQ.out]
            refine run_convert_bytes_arg wr 65 5 Try.underlying65 Try.underlying5 g3 0 (q + 1) cap3 (decI n) (by simpa [decI] using hlq) (fun i hi => ?_) 9 Try.underlying9
            rw [Nat.zero_add, hown1.cellAt i (by omega), List.take_of_length_le (by omega)]
            have hi2 : i < (dl n).reverse.length := by omega
            simp only [decI, List.getElem?_map, List.getD_eq_getElem?_getD, List.getElem?_eq_getElem hi2]
            rfl
          go_wp2
          go_ret
          exact ⟨rfl, Below.step hB hB1 (by omega)⟩
        · rw [show (((p + 1 : Nat) : Int) - 1) = (p : Int) by omega]
          obtain ⟨d, hd⟩ : ∃ d, (dl n)[p]? = some d := ⟨(dl n)[p]'(by have := HN.out; omega), List.getElem?_eq_getElem _⟩
          have hd9 : d ≤ 9 := by have := dl_lt n d (List.mem_of_getElem? hd); omega
          have hcell : wr.cell? ⟨g, p, none⟩ = some (.int .u8 (d : Int)) := by
            have hgs := (hown.lt g rfl).2
            rw [hB1.cell (p := ⟨g, p, none⟩) hgs, hown.cellAt p (by omega)]
            simp [dcells, hd]
          have HD := Lib.hid hd
          clear hd
          go_wp2_with (at_builtin; refine wpList_append_own_at _ rfl _ _ 65 rfl (wo.heap.size) 5 i0 _ 1 1 Try.underlying65 hi0 hz0 hz1 hz2 rfl (by decide) (u9) _ _ rfl ((hown1).alloc _) ⟨wr.heap.size, 0, none⟩ 1 1 [.int .u8 (48 + (d : Int))] rfl rfl (cell_one_new _ _ _) (by simp [Value.oneCell']) (by unfold maxLen; omega) (by omega) (by have := hB1.size; simp; try omega) ?_; intro v1 w1 hown2 hgrow2 hnil2 hat2)
          have hs1 := hB1.size
          go_roundw
          case rel =>
            (repeat apply Exists.intro)
            refine ⟨⟨p, by omega, by go_num, ?_, ?_⟩, rfl⟩
            · have hr := rev_take (dl n) p d HD.out
              rw [HN.out] at hr
              rw [hr, show len - p = len - (p + 1) + 1 by omega, List.map_append]
              simpa using hown2
            · refine (hB1.alloc hs1 _).grown hgrow2 (by simp; omega) (fun q hq => ?_)
              exact (hown1.lt q hq).1
          case measure => simp [intOf]
end Go.Proofs.Ythlhmijgbjcloaa
