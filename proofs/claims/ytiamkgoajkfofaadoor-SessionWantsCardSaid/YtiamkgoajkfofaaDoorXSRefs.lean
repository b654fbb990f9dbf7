/- What the row of this claim reaches. No condition. -/
import Derived.Test.YtiamkgoajkfofaaDoorXSSame
set_option linter.unusedVariables false
set_option linter.unusedSimpArgs false
namespace Go.Proofs.YtiamkgoajkfofaaDoor.S
open Go.RowKit Go.Proofs.YtiamkgoajkfofaaDoorW.PrintWords Go.Proofs.YtiamkgoajkfofaaDoorW.PrintLast Go.Proofs.YtiamkgoajkfofaaDoorW.PrintMore
set_option maxHeartbeats 16000000 in
set_option maxRecDepth 100000 in
theorem rkind_any (op part : Int) (rd : Bool) (w : World) :
  Calls Tryd.prog 38 #[.int .i64 op,.int .i64 part,.bool rd] w fun e w' => e = .returned (.int .i64 (kindF op part rd))∧Below w.heap.size w w':=by
 have hB:=Below.refl w.heap.size w
 obtain ⟨r,hr⟩ : ∃ r,kindF op part rd = r:=⟨_,rfl⟩
 rw [hr]
 have HR:=Lib.hid hr
 clear hr
 have hk:=seven op
 have hp : part = 0∨part = 1∨part = 2∨part = 3∨(¬ part = 0∧¬ part = 1∧¬ part = 2∧¬ part = 3):=by omega
 go_enter Tryd.func38,Tryd.ntmps38
 go_upto_region 1 with fail
 rcases hk with rfl|rfl|rfl|rfl|rfl|rfl|hk
 ·rcases hp with rfl|rfl|rfl|rfl|⟨h0,h1,h2,h3⟩
  ·skip
   go_wp2
   go_ret
   exact ⟨by rw [← HR.out];simp [kindF,tabF],hB⟩
  ·skip
   go_wp2
   go_ret
   exact ⟨by rw [← HR.out];simp [kindF,tabF],hB⟩
  ·skip
   go_wp2
   go_ret
   exact ⟨by rw [← HR.out];simp [kindF,tabF],hB⟩
  ·skip
   go_wp2
   go_ret
   exact ⟨by rw [← HR.out];simp [kindF,tabF],hB⟩
  ·have d0 : (part == 0) = false:=beq_eq_false_iff_ne.mpr h0
   have d1 : (part == 1) = false:=beq_eq_false_iff_ne.mpr h1
   have d2 : (part == 2) = false:=beq_eq_false_iff_ne.mpr h2
   have d3 : (part == 3) = false:=beq_eq_false_iff_ne.mpr h3
   go_wp2
   go_ret
   exact ⟨by rw [← HR.out];simp [kindF,tabF,h0,h1,h2,h3],hB⟩
 ·rcases hp with rfl|rfl|rfl|rfl|⟨h0,h1,h2,h3⟩
  ·skip
   go_wp2
   go_ret
   exact ⟨by rw [← HR.out];simp [kindF,tabF],hB⟩
  ·skip
   go_wp2
   go_ret
   exact ⟨by rw [← HR.out];simp [kindF,tabF],hB⟩
  ·skip
   go_wp2
   go_ret
   exact ⟨by rw [← HR.out];simp [kindF,tabF],hB⟩
  ·skip
   go_wp2
   go_ret
   exact ⟨by rw [← HR.out];simp [kindF,tabF],hB⟩
  ·have d0 : (part == 0) = false:=beq_eq_false_iff_ne.mpr h0
   have d1 : (part == 1) = false:=beq_eq_false_iff_ne.mpr h1
   have d2 : (part == 2) = false:=beq_eq_false_iff_ne.mpr h2
   have d3 : (part == 3) = false:=beq_eq_false_iff_ne.mpr h3
   go_wp2
   go_ret
   exact ⟨by rw [← HR.out];simp [kindF,tabF,h0,h1,h2,h3],hB⟩
 ·rcases hp with rfl|rfl|rfl|rfl|⟨h0,h1,h2,h3⟩
  ·skip
   go_wp2
   go_ret
   exact ⟨by rw [← HR.out];simp [kindF,tabF],hB⟩
  ·skip
   go_wp2
   go_ret
   exact ⟨by rw [← HR.out];simp [kindF,tabF],hB⟩
  ·skip
   go_wp2
   go_ret
   exact ⟨by rw [← HR.out];simp [kindF,tabF],hB⟩
  ·skip
   go_wp2
   go_ret
   exact ⟨by rw [← HR.out];simp [kindF,tabF],hB⟩
  ·have d0 : (part == 0) = false:=beq_eq_false_iff_ne.mpr h0
   have d1 : (part == 1) = false:=beq_eq_false_iff_ne.mpr h1
   have d2 : (part == 2) = false:=beq_eq_false_iff_ne.mpr h2
   have d3 : (part == 3) = false:=beq_eq_false_iff_ne.mpr h3
   go_wp2
   go_ret
   exact ⟨by rw [← HR.out];simp [kindF,tabF,h0,h1,h2,h3],hB⟩
 ·rcases hp with rfl|rfl|rfl|rfl|⟨h0,h1,h2,h3⟩
  ·skip
   go_wp2
   go_ret
   exact ⟨by rw [← HR.out];simp [kindF,tabF],hB⟩
  ·skip
   go_wp2
   go_ret
   exact ⟨by rw [← HR.out];simp [kindF,tabF],hB⟩
  ·cases rd
   ·skip
    go_wp2
    go_ret
    exact ⟨by rw [← HR.out];simp [kindF,tabF],hB⟩
   ·skip
    go_wp2
    go_ret
    exact ⟨by rw [← HR.out];simp [kindF,tabF],hB⟩
  ·skip
   go_wp2
   go_ret
   exact ⟨by rw [← HR.out];simp [kindF,tabF],hB⟩
  ·have d0 : (part == 0) = false:=beq_eq_false_iff_ne.mpr h0
   have d1 : (part == 1) = false:=beq_eq_false_iff_ne.mpr h1
   have d2 : (part == 2) = false:=beq_eq_false_iff_ne.mpr h2
   have d3 : (part == 3) = false:=beq_eq_false_iff_ne.mpr h3
   go_wp2
   go_ret
   exact ⟨by rw [← HR.out];simp [kindF,tabF,h0,h1,h2,h3],hB⟩
 ·rcases hp with rfl|rfl|rfl|rfl|⟨h0,h1,h2,h3⟩
  ·skip
   go_wp2
   go_ret
   exact ⟨by rw [← HR.out];simp [kindF,tabF],hB⟩
  ·skip
   go_wp2
   go_ret
   exact ⟨by rw [← HR.out];simp [kindF,tabF],hB⟩
  ·skip
   go_wp2
   go_ret
   exact ⟨by rw [← HR.out];simp [kindF,tabF],hB⟩
  ·skip
   go_wp2
   go_ret
   exact ⟨by rw [← HR.out];simp [kindF,tabF],hB⟩
  ·have d0 : (part == 0) = false:=beq_eq_false_iff_ne.mpr h0
   have d1 : (part == 1) = false:=beq_eq_false_iff_ne.mpr h1
   have d2 : (part == 2) = false:=beq_eq_false_iff_ne.mpr h2
   have d3 : (part == 3) = false:=beq_eq_false_iff_ne.mpr h3
   go_wp2
   go_ret
   exact ⟨by rw [← HR.out];simp [kindF,tabF,h0,h1,h2,h3],hB⟩
 ·rcases hp with rfl|rfl|rfl|rfl|⟨h0,h1,h2,h3⟩
  ·skip
   go_wp2
   go_ret
   exact ⟨by rw [← HR.out];simp [kindF,tabF],hB⟩
  ·skip
   go_wp2
   go_ret
   exact ⟨by rw [← HR.out];simp [kindF,tabF],hB⟩
  ·skip
   go_wp2
   go_ret
   exact ⟨by rw [← HR.out];simp [kindF,tabF],hB⟩
  ·skip
   go_wp2
   go_ret
   exact ⟨by rw [← HR.out];simp [kindF,tabF],hB⟩
  ·have d0 : (part == 0) = false:=beq_eq_false_iff_ne.mpr h0
   have d1 : (part == 1) = false:=beq_eq_false_iff_ne.mpr h1
   have d2 : (part == 2) = false:=beq_eq_false_iff_ne.mpr h2
   have d3 : (part == 3) = false:=beq_eq_false_iff_ne.mpr h3
   go_wp2
   go_ret
   exact ⟨by rw [← HR.out];simp [kindF,tabF,h0,h1,h2,h3],hB⟩
 ·clear hp
  have n1 : (op == 1) = false:=beq_eq_false_iff_ne.mpr (by omega)
  have n2 : (op == 2) = false:=beq_eq_false_iff_ne.mpr (by omega)
  have n3 : (op == 3) = false:=beq_eq_false_iff_ne.mpr (by omega)
  have n4 : (op == 4) = false:=beq_eq_false_iff_ne.mpr (by omega)
  have n5 : (op == 5) = false:=beq_eq_false_iff_ne.mpr (by omega)
  have n6 : (op == 6) = false:=beq_eq_false_iff_ne.mpr (by omega)
  have m1 : ¬ op = 1:=by omega
  have m2 : ¬ op = 2:=by omega
  have m3 : ¬ op = 3:=by omega
  have m4 : ¬ op = 4:=by omega
  have m5 : ¬ op = 5:=by omega
  have m6 : ¬ op = 6:=by omega
  clear hk
  go_wp2
  go_ret
  exact ⟨by rw [← HR.out];simp [kindF,tabF,m1,m2,m3,m4,m5,m6],hB⟩
theorem rkind_c (op part : Int) (rd : Bool) (W : World) : Hid (Calls Tryd.prog 38 #[.int .i64 op, .int .i64 part, .bool rd] W fun e w' => e = .returned (.int .i64 (kindF op part rd)) ∧ Below W.heap.size W w') := Lib.hid (rkind_any op part rd W)
set_option maxHeartbeats 16000000 in
set_option maxRecDepth 100000 in
theorem rrefuse_walk (op rd : Bool) (c o0 : Int) (o1 : Bool) (o2 o3 o4 o5 o6 o7 : Int) (w : World) :
  Calls Tryd.prog 18 #[.bool op,.bool rd,.int .i64 c,.agg #[.int .i64 o0,.bool o1,.int .u32 o2,.int .i64 o3,.int .i64 o4,.int .i64 o5,.int .i64 o6,.int .i64 o7]] w fun e w' => e = .returned (.int .i64 (refuseG (if op = true then 2 else 1) rd c o0 o2 o3 o4 o5 o6))∧Below w.heap.size w w':=by
 obtain ⟨W,hW⟩ : ∃ W,w.alloc (.cells #[.int .i64 o0,.bool o1,.int .u32 o2,.int .i64 o3,.int .i64 o4,.int .i64 o5,.int .i64 o6,.int .i64 o7] 27) = W:=⟨_,rfl⟩
 have b5 : Blk W w.heap.size 27 #[.int .i64 o0,.bool o1,.int .u32 o2,.int .i64 o3,.int .i64 o4,.int .i64 o5,.int .i64 o6,.int .i64 o7]:=by rw [← hW];exact Blk.new w 27 _
 have hB : Below w.heap.size w W:=by rw [← hW];exact keep_below_alloc _ (Below.refl _ _)
 have k0:=b5.cell 0
 have k2:=b5.cell 2
 have k3:=b5.cell 3
 have k4:=b5.cell 4
 have k5:=b5.cell 5
 have k6:=b5.cell 6
 simp at k0 k2 k3 k4 k5 k6
 have HKc:=fun W => Lib.hid (gazetteerref09_Right.calls c o3 o4 o5 o6 (keyG c o3 o4 o5 o6) W (rkey_v c ⟨o3,o4,o5,o6⟩))
 have HK1:=fun W => Lib.hid (gazetteerref09_Box.calls o3 o4 o5 o6 (keyG 1 o3 o4 o5 o6) W (by have:=rbox_v ⟨o3,o4,o5,o6⟩;rw [this];simp [keyG,boxB]))
 have HW:=Lib.hid hW
 clear hW b5
 obtain ⟨r,hr⟩ : ∃ r,refuseG (if op = true then 2 else 1) rd c o0 o2 o3 o4 o5 o6 = r:=⟨_,rfl⟩
 rw [hr]
 have HR:=Lib.hid hr
 clear hr
 have hk : o0 = 1∨o0 = 2∨o0 = 3∨o0 = 4∨o0 = 5∨o0 = 6∨(o0 < 1∨6 < o0):=by omega
 go_enter Tryd.func18,Tryd.ntmps18
 go_upto_region 1 with fail
 rw [HW.out]
 clear HW
 rcases hk with rfl|rfl|rfl|rfl|rfl|rfl|hk
 ·cases op
  ·skip
   go_wp2
   go_ret
   exact ⟨by rw [← HR.out];simp [refuseG],hB⟩
  ·skip
   go_wp2
   go_ret
   exact ⟨by rw [← HR.out];simp [refuseG],hB⟩
 ·cases op
  ·skip
   go_wp2
   go_ret
   exact ⟨by rw [← HR.out];simp [refuseG],hB⟩
  ·skip
   cases rd
   case true =>
    skip
    go_wp2
    go_ret
    exact ⟨by rw [← HR.out];simp [refuseG],hB⟩
   by_cases h2 : o2 = 0
   ·have d2 : (o2 == 0) = true:=beq_iff_eq.mpr h2
    go_wp2
    go_ret
    exact ⟨by rw [← HR.out];simp [refuseG,h2],hB⟩
   have d2 : (o2 == 0) = false:=beq_eq_false_iff_ne.mpr h2
   cases hkey : keyG c o3 o4 o5 o6
   ·skip
    simp only [hkey] at HKc
    go_wp2_with (go_at_call 39;(with_reducible refine (HKc _).out.mono ?_);rintro e w1 ⟨rfl,hb⟩;have m0:=keep_cell hb k0;have hB1:=keep_below hB hb)
    go_ret
    exact ⟨by rw [← HR.out];simp [refuseG,h2,hkey],hB1⟩
   ·skip
    simp only [hkey] at HKc
    go_wp2_with (go_at_call 39;(with_reducible refine (HKc _).out.mono ?_);rintro e w1 ⟨rfl,hb⟩;have m0:=keep_cell hb k0;have hB1:=keep_below hB hb)
    go_ret
    exact ⟨by rw [← HR.out];simp [refuseG,h2,hkey],hB1⟩
 ·cases op
  ·skip
   go_wp2
   go_ret
   exact ⟨by rw [← HR.out];simp [refuseG],hB⟩
  ·skip
   cases rd
   case true =>
    skip
    go_wp2
    go_ret
    exact ⟨by rw [← HR.out];simp [refuseG],hB⟩
   by_cases h2 : o2 = 0
   ·have d2 : (o2 == 0) = true:=beq_iff_eq.mpr h2
    go_wp2
    go_ret
    exact ⟨by rw [← HR.out];simp [refuseG,h2],hB⟩
   have d2 : (o2 == 0) = false:=beq_eq_false_iff_ne.mpr h2
   go_wp2
   go_ret
   exact ⟨by rw [← HR.out];simp [refuseG,h2],hB⟩
 ·cases op
  ·skip
   go_wp2
   go_ret
   exact ⟨by rw [← HR.out];simp [refuseG],hB⟩
  ·skip
   cases hkey : keyG 1 o3 o4 o5 o6
   ·skip
    simp only [hkey] at HK1
    go_wp2_with (go_at_call 40;(with_reducible refine (HK1 _).out.mono ?_);rintro e w1 ⟨rfl,hb⟩;have m0:=keep_cell hb k0;have hB1:=keep_below hB hb)
    go_ret
    exact ⟨by rw [← HR.out];simp [refuseG,hkey],hB1⟩
   ·skip
    simp only [hkey] at HK1
    go_wp2_with (go_at_call 40;(with_reducible refine (HK1 _).out.mono ?_);rintro e w1 ⟨rfl,hb⟩;have m0:=keep_cell hb k0;have hB1:=keep_below hB hb)
    go_ret
    exact ⟨by rw [← HR.out];simp [refuseG,hkey],hB1⟩
 ·cases op
  ·skip
   go_wp2
   go_ret
   exact ⟨by rw [← HR.out];simp [refuseG],hB⟩
  ·skip
   go_wp2
   go_ret
   exact ⟨by rw [← HR.out];simp [refuseG],hB⟩
 ·cases op
  ·skip
   go_wp2
   go_ret
   exact ⟨by rw [← HR.out];simp [refuseG],hB⟩
  ·skip
   go_wp2
   go_ret
   exact ⟨by rw [← HR.out];simp [refuseG],hB⟩
 ·by_cases h1 : o0 < 1
  ·have d : decide (o0 < 1) = true:=decide_eq_true h1
   clear hk
   go_wp2
   go_ret
   exact ⟨by rw [← HR.out];simp [refuseG,h1],hB⟩
  ·have d : decide (o0 < 1) = false:=decide_eq_false h1
   have h6 : 6 < o0:=by omega
   have d6 : decide (6 < o0) = true:=decide_eq_true h6
   have d6' : decide (o0 > 6) = true:=d6
   clear hk
   go_wp2
   go_ret
   exact ⟨by rw [← HR.out];simp [refuseG,h1,h6],hB⟩
theorem rrefuse_c (op rd : Bool) (c : Int) (o : S27) (W : World) : Hid (Calls Tryd.prog 18 #[.bool op, .bool rd, .int .i64 c, .agg (ov o)] W fun e w' => e = .returned (.int .i64 (refuseF (if op = true then 2 else 1) rd c o)) ∧ Below W.heap.size W w') := Lib.hid (rrefuse_walk op rd c o.f0 o.f1 o.f2 o.f3.f0 o.f3.f1 o.f3.f2 o.f3.f3 o.f4 W)
set_option maxHeartbeats 16000000 in
set_option maxRecDepth 100000 in
theorem rplain_any (o : S27) (w : World) :
  Calls Tryd.prog 19 #[.agg (ov o)] w fun e w' => e = .returned (.agg (ov (plainO o)))∧Below w.heap.size w w':=by
 obtain ⟨W,hW⟩ : ∃ W,(w.alloc (.cells (ov o) 27)).alloc (.cells (ov z27) 27) = W:=⟨_,rfl⟩
 have b : Blk W w.heap.size 27 (ov o):=by rw [← hW];exact (Blk.new w 27 _).alloc _
 have d : Blk W (w.heap.size+1) 27 (ov z27):=by rw [← hW];exact Blk.newAt (by simp)
 have hB : Below w.heap.size w W:=by rw [← hW];exact keep_below_alloc _ (keep_below_alloc _ (Below.refl _ _))
 have HW:=Lib.hid hW
 clear hW
 have hk : o.f0 = 1∨o.f0 = 2∨o.f0 = 3∨o.f0 = 4∨(¬ o.f0 = 1∧¬ o.f0 = 2∧¬ o.f0 = 3∧¬ o.f0 = 4):=by omega
 go_enter Tryd.func19,Tryd.ntmps19
 go_upto_region 1 with fail
 rw [show (w.alloc (.cells (ov o) 27)).alloc (.cells #[.int .i64 0,.bool false,.int .u32 0,.int .i64 0,.int .i64 0,.int .i64 0,.int .i64 0,.int .i64 0] 27) = W from HW.out]
 clear HW
 have c0:=oc0 b
 rcases hk with hk|hk|hk|hk|⟨hk1,hk2,hk3,hk4⟩
 ·rw [hk] at c0
  go_upto_region 4 with fail
  refine wp_region_list ?_
  have z_:=b.frozen 2
  have c_ : _ = some _:=(b.cell 2).trans rfl
  refine pl_val (N:=some 15) (v:=?_) (a':=?_) rfl (by rfl) ?_ ?_ ?_
  rotate_left
  ·go_simp
   with_reducible rfl
  rotate_left
  ·simp only [Act.put,sA,sZ,sS,i64_w,i32_w]
   rfl
  refine pl_skip (W':=?_) rfl (by rfl) ?_ ?_
  rotate_left
  ·go_simp
   with_reducible rfl
  refine wpList_nil ?_
  clear z_ c_ c0
  have b1 : Blk (W.setCell ⟨w.heap.size,2,none⟩ (.int .u32 0)) w.heap.size 27 (ov { o with f2:=0 }):=b.set_ 2 (.int .u32 0)
  have d1:=d.far (p:=⟨w.heap.size,2,none⟩) (by simp) (.int .u32 0)
  have hB1:=hB.setCell (p:=⟨w.heap.size,2,none⟩) (Nat.le_refl _) (.int .u32 0)
  generalize W.setCell ⟨w.heap.size,2,none⟩ (.int .u32 0) = W1 at b1 d1 hB1 ⊢
  clear b d hB
  have c0:=oc0 b1
  change W1.cell? _ = some (.int .i64 o.f0) at c0
  rw [hk] at c0
  go_upto_region 6 with fail
  refine wp_region_list ?_
  refine pl_val (N:=some 24) (v:=?_) (a':=?_) rfl (by rfl) ?_ ?_ ?_
  rotate_left
  ·go_simp
   with_reducible rfl
  rotate_left
  ·simp only [Act.put,sA,sZ,sS,i64_w,i32_w]
   rfl
  refine pl_val (N:=some 25) (v:=?_) (a':=?_) rfl (by rfl) ?_ ?_ ?_
  rotate_left
  ·go_simp
   with_reducible rfl
  rotate_left
  ·simp only [Act.put,sA,sZ,sS,i64_w,i32_w]
   rfl
  refine pl_skip (W':=_) rfl (by rfl) (store_sub_run (g:=w.heap.size) (off:=3) 25 _ _ rfl rfl (sub:=#[.int .i64 0,.int .i64 0,.int .i64 0,.int .i64 0]) rfl 27 (b1) (by first|kernel_rfl|rfl) (Nat.le_of_ble_eq_true rfl) (by simp [Value.oneCell'])) ?_
  refine wpList_nil ?_
  clear c0
  have b2 : Blk (W1.setRow w.heap.size (putAt (#[.int .i64 0,.int .i64 0,.int .i64 0,.int .i64 0]).toList 3 (ov { o with f2:=0 }))) w.heap.size 27 (ov { o with f2:=0,f3:=z25 }):=Blk.row_ b1 _
  have d2:=Blk.row_far d1 (by omega : w.heap.size+1 ≠ w.heap.size) (putAt (#[.int .i64 0,.int .i64 0,.int .i64 0,.int .i64 0]).toList 3 (ov { o with f2:=0 }))
  have hB2:=Below.row_ hB1 (Nat.le_refl _) (putAt (#[.int .i64 0,.int .i64 0,.int .i64 0,.int .i64 0]).toList 3 (ov { o with f2:=0 }))
  generalize W1.setRow w.heap.size (putAt (#[.int .i64 0,.int .i64 0,.int .i64 0,.int .i64 0]).toList 3 (ov { o with f2:=0 })) = W2 at b2 d2 hB2 ⊢
  clear b1 d1 hB1
  have c0:=oc0 b2
  change W2.cell? _ = some (.int .i64 o.f0) at c0
  rw [hk] at c0
  go_upto_region 8 with fail
  refine wp_region_list ?_
  have z_:=b2.frozen 7
  have c_ : _ = some _:=(b2.cell 7).trans rfl
  refine pl_val (N:=some 29) (v:=?_) (a':=?_) rfl (by rfl) ?_ ?_ ?_
  rotate_left
  ·go_simp
   with_reducible rfl
  rotate_left
  ·simp only [Act.put,sA,sZ,sS,i64_w,i32_w]
   rfl
  refine pl_skip (W':=?_) rfl (by rfl) ?_ ?_
  rotate_left
  ·go_simp
   with_reducible rfl
  refine wpList_nil ?_
  clear z_ c_ c0
  have b3 : Blk (W2.setCell ⟨w.heap.size,7,none⟩ (.int .i64 0)) w.heap.size 27 (ov { o with f2:=0,f3:=z25,f4:=0 }):=b2.set_ 7 (.int .i64 0)
  have d3:=d2.far (p:=⟨w.heap.size,7,none⟩) (by simp) (.int .i64 0)
  have hB3:=hB2.setCell (p:=⟨w.heap.size,7,none⟩) (Nat.le_refl _) (.int .i64 0)
  generalize W2.setCell ⟨w.heap.size,7,none⟩ (.int .i64 0) = W3 at b3 d3 hB3 ⊢
  clear b2 d2 hB2
  have c0:=oc0 b3
  change W3.cell? _ = some (.int .i64 o.f0) at c0
  rw [hk] at c0
  have hv : { o with f2:=0,f3:=z25,f4:=0 } = plainO o:=by unfold plainO plainF;rw [if_pos hk];(try rfl)
  rw [hv] at b3
  go_upto_region 9 with fail
  refine wp_region_list ?_
  refine pl_val (N:=some 30) (v:=.agg (ov (plainO o))) (a':=?_) rfl (by rfl) (load_row_run 27 _ rfl (w.heap.size) rfl 27 (ov (plainO o)) _ (b3) Tryd.underlying27 rfl (by first|kernel_rfl|rfl)) ?_ ?_
  rotate_left
  ·simp only [Act.put,sA,sZ,sS,i64_w,i32_w]
   rfl
  refine pl_skip (W':=_) rfl (by rfl) (store_row_run (g:=w.heap.size+1) 27 _ _ rfl rfl (cells:=(ov (plainO o))) rfl 27 (d3) (by first|kernel_rfl|rfl) rfl (ov_one _)) ?_
  refine wpList_nil ?_
  go_wp2
  refine bodyPost_ret (v:=.agg (ov (plainO o))) (results_cell_row Tryd.results19 _ _ (w.heap.size+1) 27 (ov (plainO o)) (0,0) _ rfl (Blk.row_ d3 _) Tryd.underlying27 rfl (by kernel_rfl)) rfl ⟨rfl,Below.row_ hB3 (Nat.le_succ _) _⟩
 ·rw [hk] at c0
  go_upto_region 2 with fail
  refine wp_region_list ?_
  have z_:=b.frozen 1
  have c_ : _ = some _:=(b.cell 1).trans rfl
  refine pl_val (N:=some 6) (v:=?_) (a':=?_) rfl (by rfl) ?_ ?_ ?_
  rotate_left
  ·go_simp
   with_reducible rfl
  rotate_left
  ·simp only [Act.put,sA,sZ,sS,i64_w,i32_w]
   rfl
  refine pl_skip (W':=?_) rfl (by rfl) ?_ ?_
  rotate_left
  ·go_simp
   with_reducible rfl
  refine wpList_nil ?_
  clear z_ c_ c0
  have b1 : Blk (W.setCell ⟨w.heap.size,1,none⟩ (.bool false)) w.heap.size 27 (ov { o with f1:=false }):=b.set_ 1 (.bool false)
  have d1:=d.far (p:=⟨w.heap.size,1,none⟩) (by simp) (.bool false)
  have hB1:=hB.setCell (p:=⟨w.heap.size,1,none⟩) (Nat.le_refl _) (.bool false)
  generalize W.setCell ⟨w.heap.size,1,none⟩ (.bool false) = W1 at b1 d1 hB1 ⊢
  clear b d hB
  have c0:=oc0 b1
  change W1.cell? _ = some (.int .i64 o.f0) at c0
  rw [hk] at c0
  have hv : { o with f1:=false } = plainO o:=by unfold plainO plainF;rw [if_neg (by omega),if_pos hk];(try rfl)
  rw [hv] at b1
  go_upto_region 9 with fail
  refine wp_region_list ?_
  refine pl_val (N:=some 30) (v:=.agg (ov (plainO o))) (a':=?_) rfl (by rfl) (load_row_run 27 _ rfl (w.heap.size) rfl 27 (ov (plainO o)) _ (b1) Tryd.underlying27 rfl (by first|kernel_rfl|rfl)) ?_ ?_
  rotate_left
  ·simp only [Act.put,sA,sZ,sS,i64_w,i32_w]
   rfl
  refine pl_skip (W':=_) rfl (by rfl) (store_row_run (g:=w.heap.size+1) 27 _ _ rfl rfl (cells:=(ov (plainO o))) rfl 27 (d1) (by first|kernel_rfl|rfl) rfl (ov_one _)) ?_
  refine wpList_nil ?_
  go_wp2
  refine bodyPost_ret (v:=.agg (ov (plainO o))) (results_cell_row Tryd.results19 _ _ (w.heap.size+1) 27 (ov (plainO o)) (0,0) _ rfl (Blk.row_ d1 _) Tryd.underlying27 rfl (by kernel_rfl)) rfl ⟨rfl,Below.row_ hB1 (Nat.le_succ _) _⟩
 ·rw [hk] at c0
  go_upto_region 2 with fail
  refine wp_region_list ?_
  have z_:=b.frozen 1
  have c_ : _ = some _:=(b.cell 1).trans rfl
  refine pl_val (N:=some 6) (v:=?_) (a':=?_) rfl (by rfl) ?_ ?_ ?_
  rotate_left
  ·go_simp
   with_reducible rfl
  rotate_left
  ·simp only [Act.put,sA,sZ,sS,i64_w,i32_w]
   rfl
  refine pl_skip (W':=?_) rfl (by rfl) ?_ ?_
  rotate_left
  ·go_simp
   with_reducible rfl
  refine wpList_nil ?_
  clear z_ c_ c0
  have b1 : Blk (W.setCell ⟨w.heap.size,1,none⟩ (.bool false)) w.heap.size 27 (ov { o with f1:=false }):=b.set_ 1 (.bool false)
  have d1:=d.far (p:=⟨w.heap.size,1,none⟩) (by simp) (.bool false)
  have hB1:=hB.setCell (p:=⟨w.heap.size,1,none⟩) (Nat.le_refl _) (.bool false)
  generalize W.setCell ⟨w.heap.size,1,none⟩ (.bool false) = W1 at b1 d1 hB1 ⊢
  clear b d hB
  have c0:=oc0 b1
  change W1.cell? _ = some (.int .i64 o.f0) at c0
  rw [hk] at c0
  go_upto_region 6 with fail
  refine wp_region_list ?_
  refine pl_val (N:=some 24) (v:=?_) (a':=?_) rfl (by rfl) ?_ ?_ ?_
  rotate_left
  ·go_simp
   with_reducible rfl
  rotate_left
  ·simp only [Act.put,sA,sZ,sS,i64_w,i32_w]
   rfl
  refine pl_val (N:=some 25) (v:=?_) (a':=?_) rfl (by rfl) ?_ ?_ ?_
  rotate_left
  ·go_simp
   with_reducible rfl
  rotate_left
  ·simp only [Act.put,sA,sZ,sS,i64_w,i32_w]
   rfl
  refine pl_skip (W':=_) rfl (by rfl) (store_sub_run (g:=w.heap.size) (off:=3) 25 _ _ rfl rfl (sub:=#[.int .i64 0,.int .i64 0,.int .i64 0,.int .i64 0]) rfl 27 (b1) (by first|kernel_rfl|rfl) (Nat.le_of_ble_eq_true rfl) (by simp [Value.oneCell'])) ?_
  refine wpList_nil ?_
  clear c0
  have b2 : Blk (W1.setRow w.heap.size (putAt (#[.int .i64 0,.int .i64 0,.int .i64 0,.int .i64 0]).toList 3 (ov { o with f1:=false }))) w.heap.size 27 (ov { o with f1:=false,f3:=z25 }):=Blk.row_ b1 _
  have d2:=Blk.row_far d1 (by omega : w.heap.size+1 ≠ w.heap.size) (putAt (#[.int .i64 0,.int .i64 0,.int .i64 0,.int .i64 0]).toList 3 (ov { o with f1:=false }))
  have hB2:=Below.row_ hB1 (Nat.le_refl _) (putAt (#[.int .i64 0,.int .i64 0,.int .i64 0,.int .i64 0]).toList 3 (ov { o with f1:=false }))
  generalize W1.setRow w.heap.size (putAt (#[.int .i64 0,.int .i64 0,.int .i64 0,.int .i64 0]).toList 3 (ov { o with f1:=false })) = W2 at b2 d2 hB2 ⊢
  clear b1 d1 hB1
  have c0:=oc0 b2
  change W2.cell? _ = some (.int .i64 o.f0) at c0
  rw [hk] at c0
  go_upto_region 8 with fail
  refine wp_region_list ?_
  have z_:=b2.frozen 7
  have c_ : _ = some _:=(b2.cell 7).trans rfl
  refine pl_val (N:=some 29) (v:=?_) (a':=?_) rfl (by rfl) ?_ ?_ ?_
  rotate_left
  ·go_simp
   with_reducible rfl
  rotate_left
  ·simp only [Act.put,sA,sZ,sS,i64_w,i32_w]
   rfl
  refine pl_skip (W':=?_) rfl (by rfl) ?_ ?_
  rotate_left
  ·go_simp
   with_reducible rfl
  refine wpList_nil ?_
  clear z_ c_ c0
  have b3 : Blk (W2.setCell ⟨w.heap.size,7,none⟩ (.int .i64 0)) w.heap.size 27 (ov { o with f1:=false,f3:=z25,f4:=0 }):=b2.set_ 7 (.int .i64 0)
  have d3:=d2.far (p:=⟨w.heap.size,7,none⟩) (by simp) (.int .i64 0)
  have hB3:=hB2.setCell (p:=⟨w.heap.size,7,none⟩) (Nat.le_refl _) (.int .i64 0)
  generalize W2.setCell ⟨w.heap.size,7,none⟩ (.int .i64 0) = W3 at b3 d3 hB3 ⊢
  clear b2 d2 hB2
  have c0:=oc0 b3
  change W3.cell? _ = some (.int .i64 o.f0) at c0
  rw [hk] at c0
  have hv : { o with f1:=false,f3:=z25,f4:=0 } = plainO o:=by unfold plainO plainF;rw [if_neg (by omega),if_neg (by omega),if_pos hk];(try rfl)
  rw [hv] at b3
  go_upto_region 9 with fail
  refine wp_region_list ?_
  refine pl_val (N:=some 30) (v:=.agg (ov (plainO o))) (a':=?_) rfl (by rfl) (load_row_run 27 _ rfl (w.heap.size) rfl 27 (ov (plainO o)) _ (b3) Tryd.underlying27 rfl (by first|kernel_rfl|rfl)) ?_ ?_
  rotate_left
  ·simp only [Act.put,sA,sZ,sS,i64_w,i32_w]
   rfl
  refine pl_skip (W':=_) rfl (by rfl) (store_row_run (g:=w.heap.size+1) 27 _ _ rfl rfl (cells:=(ov (plainO o))) rfl 27 (d3) (by first|kernel_rfl|rfl) rfl (ov_one _)) ?_
  refine wpList_nil ?_
  go_wp2
  refine bodyPost_ret (v:=.agg (ov (plainO o))) (results_cell_row Tryd.results19 _ _ (w.heap.size+1) 27 (ov (plainO o)) (0,0) _ rfl (Blk.row_ d3 _) Tryd.underlying27 rfl (by kernel_rfl)) rfl ⟨rfl,Below.row_ hB3 (Nat.le_succ _) _⟩
 ·rw [hk] at c0
  go_upto_region 2 with fail
  refine wp_region_list ?_
  have z_:=b.frozen 1
  have c_ : _ = some _:=(b.cell 1).trans rfl
  refine pl_val (N:=some 6) (v:=?_) (a':=?_) rfl (by rfl) ?_ ?_ ?_
  rotate_left
  ·go_simp
   with_reducible rfl
  rotate_left
  ·simp only [Act.put,sA,sZ,sS,i64_w,i32_w]
   rfl
  refine pl_skip (W':=?_) rfl (by rfl) ?_ ?_
  rotate_left
  ·go_simp
   with_reducible rfl
  refine wpList_nil ?_
  clear z_ c_ c0
  have b1 : Blk (W.setCell ⟨w.heap.size,1,none⟩ (.bool false)) w.heap.size 27 (ov { o with f1:=false }):=b.set_ 1 (.bool false)
  have d1:=d.far (p:=⟨w.heap.size,1,none⟩) (by simp) (.bool false)
  have hB1:=hB.setCell (p:=⟨w.heap.size,1,none⟩) (Nat.le_refl _) (.bool false)
  generalize W.setCell ⟨w.heap.size,1,none⟩ (.bool false) = W1 at b1 d1 hB1 ⊢
  clear b d hB
  have c0:=oc0 b1
  change W1.cell? _ = some (.int .i64 o.f0) at c0
  rw [hk] at c0
  go_upto_region 4 with fail
  refine wp_region_list ?_
  have z_:=b1.frozen 2
  have c_ : _ = some _:=(b1.cell 2).trans rfl
  refine pl_val (N:=some 15) (v:=?_) (a':=?_) rfl (by rfl) ?_ ?_ ?_
  rotate_left
  ·go_simp
   with_reducible rfl
  rotate_left
  ·simp only [Act.put,sA,sZ,sS,i64_w,i32_w]
   rfl
  refine pl_skip (W':=?_) rfl (by rfl) ?_ ?_
  rotate_left
  ·go_simp
   with_reducible rfl
  refine wpList_nil ?_
  clear z_ c_ c0
  have b2 : Blk (W1.setCell ⟨w.heap.size,2,none⟩ (.int .u32 0)) w.heap.size 27 (ov { o with f1:=false,f2:=0 }):=b1.set_ 2 (.int .u32 0)
  have d2:=d1.far (p:=⟨w.heap.size,2,none⟩) (by simp) (.int .u32 0)
  have hB2:=hB1.setCell (p:=⟨w.heap.size,2,none⟩) (Nat.le_refl _) (.int .u32 0)
  generalize W1.setCell ⟨w.heap.size,2,none⟩ (.int .u32 0) = W2 at b2 d2 hB2 ⊢
  clear b1 d1 hB1
  have c0:=oc0 b2
  change W2.cell? _ = some (.int .i64 o.f0) at c0
  rw [hk] at c0
  go_upto_region 8 with fail
  refine wp_region_list ?_
  have z_:=b2.frozen 7
  have c_ : _ = some _:=(b2.cell 7).trans rfl
  refine pl_val (N:=some 29) (v:=?_) (a':=?_) rfl (by rfl) ?_ ?_ ?_
  rotate_left
  ·go_simp
   with_reducible rfl
  rotate_left
  ·simp only [Act.put,sA,sZ,sS,i64_w,i32_w]
   rfl
  refine pl_skip (W':=?_) rfl (by rfl) ?_ ?_
  rotate_left
  ·go_simp
   with_reducible rfl
  refine wpList_nil ?_
  clear z_ c_ c0
  have b3 : Blk (W2.setCell ⟨w.heap.size,7,none⟩ (.int .i64 0)) w.heap.size 27 (ov { o with f1:=false,f2:=0,f4:=0 }):=b2.set_ 7 (.int .i64 0)
  have d3:=d2.far (p:=⟨w.heap.size,7,none⟩) (by simp) (.int .i64 0)
  have hB3:=hB2.setCell (p:=⟨w.heap.size,7,none⟩) (Nat.le_refl _) (.int .i64 0)
  generalize W2.setCell ⟨w.heap.size,7,none⟩ (.int .i64 0) = W3 at b3 d3 hB3 ⊢
  clear b2 d2 hB2
  have c0:=oc0 b3
  change W3.cell? _ = some (.int .i64 o.f0) at c0
  rw [hk] at c0
  have hv : { o with f1:=false,f2:=0,f4:=0 } = plainO o:=by unfold plainO plainF;rw [if_neg (by omega),if_neg (by omega),if_neg (by omega),if_pos hk];(try rfl)
  rw [hv] at b3
  go_upto_region 9 with fail
  refine wp_region_list ?_
  refine pl_val (N:=some 30) (v:=.agg (ov (plainO o))) (a':=?_) rfl (by rfl) (load_row_run 27 _ rfl (w.heap.size) rfl 27 (ov (plainO o)) _ (b3) Tryd.underlying27 rfl (by first|kernel_rfl|rfl)) ?_ ?_
  rotate_left
  ·simp only [Act.put,sA,sZ,sS,i64_w,i32_w]
   rfl
  refine pl_skip (W':=_) rfl (by rfl) (store_row_run (g:=w.heap.size+1) 27 _ _ rfl rfl (cells:=(ov (plainO o))) rfl 27 (d3) (by first|kernel_rfl|rfl) rfl (ov_one _)) ?_
  refine wpList_nil ?_
  go_wp2
  refine bodyPost_ret (v:=.agg (ov (plainO o))) (results_cell_row Tryd.results19 _ _ (w.heap.size+1) 27 (ov (plainO o)) (0,0) _ rfl (Blk.row_ d3 _) Tryd.underlying27 rfl (by kernel_rfl)) rfl ⟨rfl,Below.row_ hB3 (Nat.le_succ _) _⟩
 ·have g1 : (o.f0 != 1) = true:=bne_iff_ne.mpr hk1
  have g2 : (o.f0 != 2) = true:=bne_iff_ne.mpr hk2
  have g3 : (o.f0 != 3) = true:=bne_iff_ne.mpr hk3
  have g4 : (o.f0 != 4) = true:=bne_iff_ne.mpr hk4
  go_upto_region 2 with fail
  refine wp_region_list ?_
  have z_:=b.frozen 1
  have c_ : _ = some _:=(b.cell 1).trans rfl
  refine pl_val (N:=some 6) (v:=?_) (a':=?_) rfl (by rfl) ?_ ?_ ?_
  rotate_left
  ·go_simp
   with_reducible rfl
  rotate_left
  ·simp only [Act.put,sA,sZ,sS,i64_w,i32_w]
   rfl
  refine pl_skip (W':=?_) rfl (by rfl) ?_ ?_
  rotate_left
  ·go_simp
   with_reducible rfl
  refine wpList_nil ?_
  clear z_ c_ c0
  have b1 : Blk (W.setCell ⟨w.heap.size,1,none⟩ (.bool false)) w.heap.size 27 (ov { o with f1:=false }):=b.set_ 1 (.bool false)
  have d1:=d.far (p:=⟨w.heap.size,1,none⟩) (by simp) (.bool false)
  have hB1:=hB.setCell (p:=⟨w.heap.size,1,none⟩) (Nat.le_refl _) (.bool false)
  generalize W.setCell ⟨w.heap.size,1,none⟩ (.bool false) = W1 at b1 d1 hB1 ⊢
  clear b d hB
  have c0:=oc0 b1
  change W1.cell? _ = some (.int .i64 o.f0) at c0
  go_upto_region 4 with fail
  refine wp_region_list ?_
  have z_:=b1.frozen 2
  have c_ : _ = some _:=(b1.cell 2).trans rfl
  refine pl_val (N:=some 15) (v:=?_) (a':=?_) rfl (by rfl) ?_ ?_ ?_
  rotate_left
  ·go_simp
   with_reducible rfl
  rotate_left
  ·simp only [Act.put,sA,sZ,sS,i64_w,i32_w]
   rfl
  refine pl_skip (W':=?_) rfl (by rfl) ?_ ?_
  rotate_left
  ·go_simp
   with_reducible rfl
  refine wpList_nil ?_
  clear z_ c_ c0
  have b2 : Blk (W1.setCell ⟨w.heap.size,2,none⟩ (.int .u32 0)) w.heap.size 27 (ov { o with f1:=false,f2:=0 }):=b1.set_ 2 (.int .u32 0)
  have d2:=d1.far (p:=⟨w.heap.size,2,none⟩) (by simp) (.int .u32 0)
  have hB2:=hB1.setCell (p:=⟨w.heap.size,2,none⟩) (Nat.le_refl _) (.int .u32 0)
  generalize W1.setCell ⟨w.heap.size,2,none⟩ (.int .u32 0) = W2 at b2 d2 hB2 ⊢
  clear b1 d1 hB1
  have c0:=oc0 b2
  change W2.cell? _ = some (.int .i64 o.f0) at c0
  go_upto_region 6 with fail
  refine wp_region_list ?_
  refine pl_val (N:=some 24) (v:=?_) (a':=?_) rfl (by rfl) ?_ ?_ ?_
  rotate_left
  ·go_simp
   with_reducible rfl
  rotate_left
  ·simp only [Act.put,sA,sZ,sS,i64_w,i32_w]
   rfl
  refine pl_val (N:=some 25) (v:=?_) (a':=?_) rfl (by rfl) ?_ ?_ ?_
  rotate_left
  ·go_simp
   with_reducible rfl
  rotate_left
  ·simp only [Act.put,sA,sZ,sS,i64_w,i32_w]
   rfl
  refine pl_skip (W':=_) rfl (by rfl) (store_sub_run (g:=w.heap.size) (off:=3) 25 _ _ rfl rfl (sub:=#[.int .i64 0,.int .i64 0,.int .i64 0,.int .i64 0]) rfl 27 (b2) (by first|kernel_rfl|rfl) (Nat.le_of_ble_eq_true rfl) (by simp [Value.oneCell'])) ?_
  refine wpList_nil ?_
  clear c0
  have b3 : Blk (W2.setRow w.heap.size (putAt (#[.int .i64 0,.int .i64 0,.int .i64 0,.int .i64 0]).toList 3 (ov { o with f1:=false,f2:=0 }))) w.heap.size 27 (ov { o with f1:=false,f2:=0,f3:=z25 }):=Blk.row_ b2 _
  have d3:=Blk.row_far d2 (by omega : w.heap.size+1 ≠ w.heap.size) (putAt (#[.int .i64 0,.int .i64 0,.int .i64 0,.int .i64 0]).toList 3 (ov { o with f1:=false,f2:=0 }))
  have hB3:=Below.row_ hB2 (Nat.le_refl _) (putAt (#[.int .i64 0,.int .i64 0,.int .i64 0,.int .i64 0]).toList 3 (ov { o with f1:=false,f2:=0 }))
  generalize W2.setRow w.heap.size (putAt (#[.int .i64 0,.int .i64 0,.int .i64 0,.int .i64 0]).toList 3 (ov { o with f1:=false,f2:=0 })) = W3 at b3 d3 hB3 ⊢
  clear b2 d2 hB2
  have c0:=oc0 b3
  change W3.cell? _ = some (.int .i64 o.f0) at c0
  go_upto_region 8 with fail
  refine wp_region_list ?_
  have z_:=b3.frozen 7
  have c_ : _ = some _:=(b3.cell 7).trans rfl
  refine pl_val (N:=some 29) (v:=?_) (a':=?_) rfl (by rfl) ?_ ?_ ?_
  rotate_left
  ·go_simp
   with_reducible rfl
  rotate_left
  ·simp only [Act.put,sA,sZ,sS,i64_w,i32_w]
   rfl
  refine pl_skip (W':=?_) rfl (by rfl) ?_ ?_
  rotate_left
  ·go_simp
   with_reducible rfl
  refine wpList_nil ?_
  clear z_ c_ c0
  have b4 : Blk (W3.setCell ⟨w.heap.size,7,none⟩ (.int .i64 0)) w.heap.size 27 (ov { o with f1:=false,f2:=0,f3:=z25,f4:=0 }):=b3.set_ 7 (.int .i64 0)
  have d4:=d3.far (p:=⟨w.heap.size,7,none⟩) (by simp) (.int .i64 0)
  have hB4:=hB3.setCell (p:=⟨w.heap.size,7,none⟩) (Nat.le_refl _) (.int .i64 0)
  generalize W3.setCell ⟨w.heap.size,7,none⟩ (.int .i64 0) = W4 at b4 d4 hB4 ⊢
  clear b3 d3 hB3
  have c0:=oc0 b4
  change W4.cell? _ = some (.int .i64 o.f0) at c0
  have hv : { o with f1:=false,f2:=0,f3:=z25,f4:=0 } = plainO o:=by unfold plainO plainF;rw [if_neg (by omega),if_neg (by omega),if_neg (by omega),if_neg (by omega)];(try rfl)
  rw [hv] at b4
  go_upto_region 9 with fail
  refine wp_region_list ?_
  refine pl_val (N:=some 30) (v:=.agg (ov (plainO o))) (a':=?_) rfl (by rfl) (load_row_run 27 _ rfl (w.heap.size) rfl 27 (ov (plainO o)) _ (b4) Tryd.underlying27 rfl (by first|kernel_rfl|rfl)) ?_ ?_
  rotate_left
  ·simp only [Act.put,sA,sZ,sS,i64_w,i32_w]
   rfl
  refine pl_skip (W':=_) rfl (by rfl) (store_row_run (g:=w.heap.size+1) 27 _ _ rfl rfl (cells:=(ov (plainO o))) rfl 27 (d4) (by first|kernel_rfl|rfl) rfl (ov_one _)) ?_
  refine wpList_nil ?_
  go_wp2
  refine bodyPost_ret (v:=.agg (ov (plainO o))) (results_cell_row Tryd.results19 _ _ (w.heap.size+1) 27 (ov (plainO o)) (0,0) _ rfl (Blk.row_ d4 _) Tryd.underlying27 rfl (by kernel_rfl)) rfl ⟨rfl,Below.row_ hB4 (Nat.le_succ _) _⟩
theorem rplain_c (o : S27) (W : World) : Hid (Calls Tryd.prog 19 #[.agg (ov o)] W fun e w' => e = .returned (.agg (ov (plainO o))) ∧ Below W.heap.size W w') := Lib.hid (rplain_any o W)
end Go.Proofs.YtiamkgoajkfofaaDoor.S
