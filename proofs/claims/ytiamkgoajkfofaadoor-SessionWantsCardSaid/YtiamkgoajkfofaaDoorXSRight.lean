/- What the row of this claim reaches. No condition. -/
import Derived.Test.YtiamkgoajkfofaaDoorXSLaw0
import Derived.Test.YtiamkgoajkfofaaDoorXSRefs
set_option linter.unusedVariables false
set_option linter.unusedSimpArgs false
namespace Go.Proofs.YtiamkgoajkfofaaDoor.S
open Go.RowKit Go.Proofs.YtiamkgoajkfofaaDoorW.PrintWords Go.Proofs.YtiamkgoajkfofaaDoorW.PrintLast Go.Proofs.YtiamkgoajkfofaaDoorW.PrintMore
attribute [local go_sem high] eqA27 eqA25
theorem rcur_c {s : S33} {p : Pt} {W : World} (hl : Lens s) (hi : In W s p) : Hid (Calls Tryd.prog 37 #[.agg (cv s.f6 p), .agg (cv z31 p0)] W fun e w' => e = .returned (.bool (curEq s.f6 z31)) ∧ Below W.heap.size W w') := by
  obtain ⟨k, hk⟩ := Ev.rounds (rcur_ev s.f6 z31 hl.1 hl.2.1)
  have hz := In.zero W
  exact Lib.hid ((gazetteerref13_Same.calls k s.f6.f0.f0 s.f6.f0.f1 s.f6.f0.f2 s.f6.f0.f3 p.A17 p.c17 s.f6.f1 p.A18 p.c18 s.f6.f2 z31.f0.f0 z31.f0.f1 z31.f0.f2 z31.f0.f3 none 0 [] none 0 [] (curEq s.f6 z31) W hi.1.1 hi.1.2 hi.2.1.1 hi.2.1.2 hz.1.1 hz.1.2 hz.2.1.1 hz.2.1.2 hk).mono fun _ _ h => And.intro h.1 (by first | exact h.2 | exact h.2.below))
theorem rright_c {s : S33} {p : Pt} {W : World} (hl : Lens s) (hi : In W s p) : Hid (Calls Tryd.prog 23 #[.agg (cv s.f6 p)] W fun e w' => e = .returned (.bool (curB s.f6)) ∧ Below W.heap.size W w') := by
  obtain ⟨k, hk⟩ := Ev.rounds (rright_ev s.f6 hl.1 hl.2.1)
  exact Lib.hid ((gazetteerref13_Right.calls k s.f6.f0.f0 s.f6.f0.f1 s.f6.f0.f2 s.f6.f0.f3 p.A17 p.c17 s.f6.f1 p.A18 p.c18 s.f6.f2 (curB s.f6) W hi.1.1 hi.1.2 hi.2.1.1 hi.2.1.2 hk).mono fun _ _ h => And.intro h.1 (by first | exact h.2 | exact h.2.below))
theorem rrises_c {s : S33} {p : Pt} {W : World} (hl : Lens s) (hi : In W s p) : Hid (Calls Tryd.prog 24 #[.slice p.A19 s.f7.length p.c19] W fun e w' => e = .returned (.bool (risesB s.f7)) ∧ Below W.heap.size W w') := by
  obtain ⟨k, hk⟩ := Ev.rounds (rrises_ev s.f7 hl.2.2)
  exact Lib.hid ((gazetteerref21_Rises.calls k p.A19 p.c19 s.f7 (risesB s.f7) W hi.2.2.1 hi.2.2.2 hk).mono fun _ _ h => And.intro h.1 (by first | exact h.2 | exact h.2.below))
theorem rplain_x {s : S33} {t_ : S27} (W : World) (ht : plainO s.f4 = t_) : Hid (Calls Tryd.prog 19 #[.agg #[.int .i64 s.f4.f0, .bool s.f4.f1, .int .u32 s.f4.f2, .int .i64 s.f4.f3.f0, .int .i64 s.f4.f3.f1, .int .i64 s.f4.f3.f2, .int .i64 s.f4.f3.f3, .int .i64 s.f4.f4]] W fun e w' => e = .returned (.agg #[.int .i64 t_.f0, .bool t_.f1, .int .u32 t_.f2, .int .i64 t_.f3.f0, .int .i64 t_.f3.f1, .int .i64 t_.f3.f2, .int .i64 t_.f3.f3, .int .i64 t_.f4]) ∧ Below W.heap.size W w') := by subst ht; exact rplain_c s.f4 W
theorem rrefuse_x {s : S33} {er : Int} (W : World) (he : refuseF (if (s.f4.f0 != 1) = true then 2 else 1) s.f2 1 s.f4 = er) : Hid (Calls Tryd.prog 18 #[.bool (s.f4.f0 != 1), .bool s.f2, .int .i64 1, .agg #[.int .i64 s.f4.f0, .bool s.f4.f1, .int .u32 s.f4.f2, .int .i64 s.f4.f3.f0, .int .i64 s.f4.f3.f1, .int .i64 s.f4.f3.f2, .int .i64 s.f4.f3.f3, .int .i64 s.f4.f4]] W fun e w' => e = .returned (.int .i64 er) ∧ Below W.heap.size W w') := by subst he; exact rrefuse_c _ _ _ s.f4 W
theorem refuse_busy (s : S33) : refuseF (if s.f4.f0 = 1 then 1 else 2) (if s.f4.f0 = 1 then false else s.f2) 1 s.f4 = refuseF (if (s.f4.f0 != 1) = true then 2 else 1) s.f2 1 s.f4 := by
  by_cases h : s.f4.f0 = 1 <;> simp [refuseF, h]
theorem opE_zero (s : S33) : (s.f4.f0 == 0 && (!s.f4.f1 && (s.f4.f2 == 0 && ((s.f4.f3.f0 == 0 && (s.f4.f3.f1 == 0 && (s.f4.f3.f2 == 0 && (s.f4.f3.f3 == 0)))) && (s.f4.f4 == 0))))) = opE s.f4 z27 := by
  unfold opE kEq z27 z25
  cases s.f4.f1 <;> rfl
def rgh.T7 : Bool × List (List Nat × List Nat) := (true, [([], []), ([0], [0]), ([1], [1]), ([2], [2]), ([3], [3]), ([4, 3], [3, 4]), ([3], [3]), ([6, 3], [3, 6]), ([7, 3, 3], [3, 7]), ([5, 8, 3], [3, 5, 8]), ([3, 9], [3, 9]), ([10, 8], [10]), ([11], [11]), ([12, 11], [11, 12]), ([13, 11], [11, 13]), ([14, 11], [11, 14]), ([11], [11]), ([16, 11], [11, 16]), ([11], [11]), ([18, 11], [11, 18]), ([15, 17, 19, 11, 11], [11, 15, 17, 19]), ([20, 11], [11, 20]), ([11, 21], [11, 21]), ([22, 20], [22]), ([23], [23]), ([24, 23], [23, 24]), ([25, 23], [23, 25]), ([23], [23]), ([27, 23], [23, 27]), ([23], [23]), ([29, 23], [23, 29]), ([26, 28, 30, 23, 23], [23, 26, 28, 30]), ([31, 23], [23, 31]), ([23, 32], [23, 32])])
def rgh.B7 : List Nat := [0, 1, 3, 7, 15, 31, 15, 79, 207, 511, 1023, 2047, 4095, 8191, 16383, 32767, 4095, 69631, 4095, 266239, 1048575, 2097151, 4194303, 8388607, 16777215, 33554431, 67108863, 16777215, 150994943, 16777215, 553648127, 2147483647, 4294967295, 8589934591]
theorem rgh.tab7 : rtab .any (opsOf Tryd.f16 7) = rgh.T7 := by kernel_rfl
theorem rgh.bits7 : waitsOk rgh.T7.2 rgh.B7 = true := by kernel_rfl
set_option maxHeartbeats 16000000 in
set_option maxRecDepth 100000 in
theorem right_any (s : S33) (p : Pt) (w : World) (hk : Okk s) (hi : In w s p) :
  Calls Tryd.prog 16 #[.agg (sv s p)] w fun e w' => e = .returned (.bool (mayB s))∧Below w.heap.size w w':=by
 obtain ⟨W,hW⟩ : ∃ W,w.alloc (.cells (sv s p) 33) = W:=⟨_,rfl⟩
 have b : Blk W w.heap.size 33 (sv s p):=by rw [← hW];exact Blk.new w 33 _
 have hB : Below w.heap.size w W:=by rw [← hW];exact keep_below_alloc _ (Below.refl _ _)
 have HW:=Lib.hid hW
 clear hW
 go_enter Tryd.func16,Tryd.ntmps16
 go_upto_region 1 with fail
 rw [HW.out]
 have hI:=hi.below hB
 clear hi HW
 have c1:=sc1 b
 have c2:=sc2 b
 have c3:=sc3 b
 obtain ⟨t,ht⟩ : ∃ t,txnB s = t:=⟨_,rfl⟩
 obtain ⟨i,hidl⟩ : ∃ i,idleB s = i:=⟨_,rfl⟩
 have HX:=Lib.hid (And.intro ht hidl)
 go_cut [3] (fun v wx => v = .bool i∧wx = W)
 case first =>
  subst hidl
  clear HX ht
  by_cases h1 : s.f1 = 0 <;> cases h2 : s.f2 <;> by_cases h3 : s.f3 = 0 <;> (
   (first|have d1 : (s.f1 == 0) = true:=beq_iff_eq.mpr h1|have d1 : (s.f1 == 0) = false:=beq_eq_false_iff_ne.mpr h1)
   (first|have d3 : (s.f3 == 0) = true:=beq_iff_eq.mpr h3|have d3 : (s.f3 == 0) = false:=beq_eq_false_iff_ne.mpr h3)
   rw [h2] at c2
   clear h1 h3
   go_wp2
   go_meet
   exact ⟨by simp [idleB,d1,d3,h2],rfl⟩)
 case rest =>
 obtain ⟨rfl,hwc⟩:=hcut
 rw [hwc]
 clear hwc
 go_upto_region 2 with fail
 go_cut [4] (fun v wx => v = .bool t∧wx = W)
 case first =>
  subst ht
  clear HX hidl
  by_cases h1 : 0 < s.f1 <;> cases h2 : s.f2 <;> by_cases h3 : s.f3 = 0 <;> (
   (first|(have d1:=decide_eq_true h1;have d1' : decide (s.f1 > 0) = true:=d1)|(have d1:=decide_eq_false h1;have d1' : decide (s.f1 > 0) = false:=d1))
   (first|have d3 : (s.f3 == 0) = true:=beq_iff_eq.mpr h3|have d3 : (s.f3 == 0) = false:=beq_eq_false_iff_ne.mpr h3)
   rw [h2] at c2
   clear h1 h3
   go_wp2
   go_meet
   exact ⟨by simp [txnB,d1,d3,h2],rfl⟩)
 case rest =>
 obtain ⟨rfl,hwc⟩:=hcut
 rw [hwc]
 clear hwc c1 c2 c3
 obtain ⟨z,hz⟩ : ∃ z,curEq s.f6 z31 = z:=⟨_,rfl⟩
 obtain ⟨oz,hoz⟩ : ∃ z,opE s.f4 z27 = z:=⟨_,rfl⟩
 obtain ⟨t_,ht_⟩ : ∃ x,plainO s.f4 = x:=⟨_,rfl⟩
 obtain ⟨q,hq⟩ : ∃ x,opE s.f4 t_ = x:=⟨_,rfl⟩
 obtain ⟨er,her⟩ : ∃ x,refuseF (if (s.f4.f0 != 1) = true then 2 else 1) s.f2 1 s.f4 = x:=⟨_,rfl⟩
 obtain ⟨kd,hkd⟩ : ∃ x,kindF s.f4.f0 s.f5 s.f2 = x:=⟨_,rfl⟩
 obtain ⟨cb,hcb⟩ : ∃ x,curB s.f6 = x:=⟨_,rfl⟩
 obtain ⟨kq,hkq⟩ : ∃ x,kEq s.f6.f0 s.f4.f3 = x:=⟨_,rfl⟩
 obtain ⟨rb,hrb⟩ : ∃ x,risesB s.f7 = x:=⟨_,rfl⟩
 have Hb:=Lib.hid (show bareB s = (oz && ((s.f5 == 0) && (z && decide (s.f7.length = 0)))) by unfold bareB;rw [hoz,hz])
 have H3:=Lib.hid (show busyB s t i = ((if s.f4.f0 = 1 then i else t) && (q && (decide (er = 0) && (decide (¬ kd = 0) && ((if s.f4.f0 = 4∧s.f5 = 1 then cb && kq else z) && (if s.f4.f0 = 4∧s.f5 = 2 then decide (0 < s.f7.length) && rb else decide (s.f7.length = 0))))))) by
  unfold busyB;rw [refuse_busy,her,hkd,ht_,hq,hcb,hkq,hz,hrb])
 have Hm:=Lib.hid (show mayB s = (if s.f0 = 1 then i && bareB s else if s.f0 = 2 then t && bareB s else if s.f0 = 3 then busyB s t i else false) by unfold mayB;rw [ht,hidl])
 clear ht hidl HX
 have HC:=rcur_c hk.1 hI
 rw [hz] at HC
 go_upto_region 3 with fail
 refine wp_region_list ?_
 refine pl_val (N:=some 32) (v:=?_) (a':=?_) rfl (by rfl) ?_ ?_ ?_
 rotate_left
 ·go_simp
  with_reducible rfl
 rotate_left
 ·simp only [Act.put,sA,sZ,sS,i64_w,i32_w]
  rfl
 refine pl_val (N:=some 33) (v:=.agg (cv s.f6 p)) (a':=?_) rfl (by rfl) (load_sub_run (g:=w.heap.size) (off:=13) 31 _ rfl rfl 33 (cv s.f6 p) _ (b) (sv_cur s p) Tryd.underlying31 rfl (by first|kernel_rfl|rfl)) ?_ ?_
 rotate_left
 ·simp only [Act.put,sA,sZ,sS,i64_w,i32_w]
  rfl
 refine pl_val (N:=some 34) (v:=.agg (cv z31 p0)) (a':=?_) rfl (by rfl) (by first|rfl|(go_simp;done)|(go_simp;rfl)) ?_ ?_
 rotate_left
 ·simp only [Act.put,sA,sZ,sS,i64_w,i32_w]
  rfl
 refine pl_call Tryd.func37 (by kernel_rfl) rfl #[.agg (cv s.f6 p),.agg (cv z31 p0)] (by rfl) rfl rfl (by (try simp only [List.map_toArray,List.map_cons,List.map_nil]);first|done|rfl) ?_
 refine HC.out.mono ?_
 rintro e_ w1_ ⟨rfl,hb⟩
 refine ⟨_,rfl,?_⟩
 replace b:=b.keep hb
 replace hB:=keep_below hB hb
 replace hI:=hI.below hb
 clear hb HC
 refine pl_norm (a':=?_) ?_ ?_
 rotate_left
 ·first|(show Act.put _ (some 35) _ = _;simp only [Act.put,sA,sZ,sS,i64_w,i32_w];rfl)|with_reducible rfl
 refine pl_val (N:=some 5) (v:=?_) (a':=?_) rfl (by rfl) ?_ ?_ ?_
 rotate_left
 ·go_simp
  with_reducible rfl
 rotate_left
 ·simp only [Act.put,sA,sZ,sS,i64_w,i32_w]
  rfl
 refine wpList_nil ?_
 go_upto_region 4 with fail
 refine wp_region_list ?_
 refine pl_val (N:=some 36) (v:=.agg (ov z27)) (a':=?_) rfl (by rfl) (by first|rfl|(go_simp;done)|(go_simp;rfl)) ?_ ?_
 rotate_left
 ·simp only [Act.put,sA,sZ,sS,i64_w,i32_w]
  rfl
 refine pl_make (N:=some 6) (v:=.pointer (some ⟨(w1_).heap.size,0,none⟩)) (W':=(w1_).alloc (.cells #[.int .i64 0,.bool false,.int .u32 0,.int .i64 0,.int .i64 0,.int .i64 0,.int .i64 0,.int .i64 0] 27)) (a':=?_) rfl (by rfl) (by first|(go_simp;done)|(go_simp;rfl)) ?_ ?_
 rotate_left
 ·simp only [Act.put,sA,sZ,sS,i64_w,i32_w]
  rfl
 have n_:=new_row w1_ #[.int .i64 0,.bool false,.int .u32 0,.int .i64 0,.int .i64 0,.int .i64 0,.int .i64 0,.int .i64 0] (ov z27) 27
 have b_ : Blk (w1_.alloc (.cells #[.int .i64 0,.bool false,.int .u32 0,.int .i64 0,.int .i64 0,.int .i64 0,.int .i64 0,.int .i64 0] 27)) w1_.heap.size 27 #[.int .i64 0,.bool false,.int .u32 0,.int .i64 0,.int .i64 0,.int .i64 0,.int .i64 0,.int .i64 0]:=Blk.new w1_ 27 _
 refine pl_skip (W':=_) rfl (by rfl) (store_row_run (g:=w1_.heap.size) 27 _ _ rfl rfl (cells:=(ov z27)) rfl 27 (b_) (by first|kernel_rfl|rfl) rfl (ov_one _)) ?_
 clear b_
 refine wpList_nil ?_
 obtain ⟨b6,hle⟩:=n_
 replace b:=b.keep hle
 replace hB:=keep_below hB hle
 replace hI:=hI.below hle
 generalize (w1_.alloc (.cells #[.int .i64 0,.bool false,.int .u32 0,.int .i64 0,.int .i64 0,.int .i64 0,.int .i64 0,.int .i64 0] 27)).setRow w1_.heap.size (ov z27) = V at b b6 hB hI hle ⊢
 generalize w1_.heap.size = g6 at b6 hle ⊢
 clear hle
 have c0:=sc0 b
 by_cases s1 : s.f0 = 1
 case pos =>
  have e1 : (s.f0 == 1) = true:=by simp [s1]
  have e2 : (s.f0 == 2) = false:=by simp [s1]
  have Hv:=Lib.hid (show mayB s = (i && (oz && ((s.f5 == 0) && (z && decide (s.f7.length = 0))))) by rw [Hm.out,if_pos s1,Hb.out])
  clear s1 Hm Hb H3
  cases i
  case false =>
   skip
   go_wp2
   go_ret
   exact ⟨by rw [Hv.out];simp,hB⟩
  have c4:=sc4 b
  have c5:=sc5 b
  have c6:=sc6 b
  have c7:=sc7 b
  have c8:=sc8 b
  have c9:=sc9 b
  have c10:=sc10 b
  have c11:=sc11 b
  have c12:=sc12 b
  have c19:=sc19 b
  have y0:=oc0 b6
  have y1:=oc1 b6
  have y2:=oc2 b6
  have y3:=oc3 b6
  have y4:=oc4 b6
  have y5:=oc5 b6
  have y6:=oc6 b6
  have y7:=oc7 b6
  simp only [show z27.f0 = 0 from rfl,show z27.f1 = false from rfl,show z27.f2 = 0 from rfl,show z27.f3.f0 = 0 from rfl,show z27.f3.f1 = 0 from rfl,show z27.f3.f2 = 0 from rfl,show z27.f3.f3 = 0 from rfl,show z27.f4 = 0 from rfl] at y0 y1 y2 y3 y4 y5 y6 y7
  have dop : (s.f4.f0 == 0 && (!s.f4.f1 && (s.f4.f2 == 0 && ((s.f4.f3.f0 == 0 && (s.f4.f3.f1 == 0 && (s.f4.f3.f2 == 0 && (s.f4.f3.f3 == 0)))) && (s.f4.f4 == 0))))) = oz:=(opE_zero s).trans hoz
  clear hoz
  cases oz
  case false =>
   skip
   go_wp2
   go_ret
   exact ⟨by rw [Hv.out];simp,hB⟩
  by_cases h5 : s.f5 = 0
  case neg =>
   have d5 : (s.f5 == 0) = false:=beq_eq_false_iff_ne.mpr h5
   clear h5
   go_wp2
   go_ret
   exact ⟨by rw [Hv.out];simp [d5],hB⟩
  have d5 : (s.f5 == 0) = true:=beq_iff_eq.mpr h5
  clear h5
  cases z
  case false =>
   skip
   go_wp2
   go_ret
   exact ⟨by rw [Hv.out];simp,hB⟩
  by_cases hl7 : s.f7.length = 0
  case neg =>
   have dl : ((s.f7.length : Int) == 0) = false:=beq_eq_false_iff_ne.mpr (by omega)
   have HL:=Lib.hid hl7
   clear hl7
   go_wp2
   go_ret
   exact ⟨by rw [Hv.out];simp [HL.out],hB⟩
  have dl : ((s.f7.length : Int) == 0) = true:=beq_iff_eq.mpr (by omega)
  have HL:=Lib.hid hl7
  clear hl7
  go_wp2
  go_ret
  exact ⟨by rw [Hv.out];simp [d5,HL.out],hB⟩
 by_cases s2 : s.f0 = 2
 case pos =>
  have e1 : (s.f0 == 1) = false:=by simp [s2]
  have e2 : (s.f0 == 2) = true:=by simp [s2]
  have Hv:=Lib.hid (show mayB s = (t && (oz && ((s.f5 == 0) && (z && decide (s.f7.length = 0))))) by rw [Hm.out,if_neg s1,if_pos s2,Hb.out])
  clear s1 s2 Hm Hb H3
  cases t
  case false =>
   skip
   go_wp2
   go_ret
   exact ⟨by rw [Hv.out];simp,hB⟩
  have c4:=sc4 b
  have c5:=sc5 b
  have c6:=sc6 b
  have c7:=sc7 b
  have c8:=sc8 b
  have c9:=sc9 b
  have c10:=sc10 b
  have c11:=sc11 b
  have c12:=sc12 b
  have c19:=sc19 b
  have y0:=oc0 b6
  have y1:=oc1 b6
  have y2:=oc2 b6
  have y3:=oc3 b6
  have y4:=oc4 b6
  have y5:=oc5 b6
  have y6:=oc6 b6
  have y7:=oc7 b6
  simp only [show z27.f0 = 0 from rfl,show z27.f1 = false from rfl,show z27.f2 = 0 from rfl,show z27.f3.f0 = 0 from rfl,show z27.f3.f1 = 0 from rfl,show z27.f3.f2 = 0 from rfl,show z27.f3.f3 = 0 from rfl,show z27.f4 = 0 from rfl] at y0 y1 y2 y3 y4 y5 y6 y7
  have dop : (s.f4.f0 == 0 && (!s.f4.f1 && (s.f4.f2 == 0 && ((s.f4.f3.f0 == 0 && (s.f4.f3.f1 == 0 && (s.f4.f3.f2 == 0 && (s.f4.f3.f3 == 0)))) && (s.f4.f4 == 0))))) = oz:=(opE_zero s).trans hoz
  clear hoz
  cases oz
  case false =>
   skip
   go_wp2
   go_ret
   exact ⟨by rw [Hv.out];simp,hB⟩
  by_cases h5 : s.f5 = 0
  case neg =>
   have d5 : (s.f5 == 0) = false:=beq_eq_false_iff_ne.mpr h5
   clear h5
   go_wp2
   go_ret
   exact ⟨by rw [Hv.out];simp [d5],hB⟩
  have d5 : (s.f5 == 0) = true:=beq_iff_eq.mpr h5
  clear h5
  cases z
  case false =>
   skip
   go_wp2
   go_ret
   exact ⟨by rw [Hv.out];simp,hB⟩
  by_cases hl7 : s.f7.length = 0
  case neg =>
   have dl : ((s.f7.length : Int) == 0) = false:=beq_eq_false_iff_ne.mpr (by omega)
   have HL:=Lib.hid hl7
   clear hl7
   go_wp2
   go_ret
   exact ⟨by rw [Hv.out];simp [HL.out],hB⟩
  have dl : ((s.f7.length : Int) == 0) = true:=beq_iff_eq.mpr (by omega)
  have HL:=Lib.hid hl7
  clear hl7
  go_wp2
  go_ret
  exact ⟨by rw [Hv.out];simp [d5,HL.out],hB⟩
 have e1 : (s.f0 == 1) = false:=beq_eq_false_iff_ne.mpr s1
 have e2 : (s.f0 == 2) = false:=beq_eq_false_iff_ne.mpr s2
 clear hoz Hb
 by_cases s3 : s.f0 = 3
 case neg =>
  have e3 : (s.f0 != 3) = true:=bne_iff_ne.mpr s3
  have Hv:=Lib.hid (show mayB s = false by rw [Hm.out,if_neg s1,if_neg s2,if_neg s3])
  clear s1 s2 s3 Hm H3
  go_upto_region 7 with fail
  refine start_ (n:=34) (S:=(fun w' => Below V.heap.size V w')) (ds:=[]) #[ff,ff,ff,ff,ff,ff,ff,ff,ff,ff,ff,ff,ff,ff,ff,ff,ff,ff,ff,ff,ff,ff,ff,ff,ff,ff,ff,ff,ff,ff,ff,ff,ff,ff] (by kernel_rfl) rfl rfl (Below.drew (Below.refl _ _)) (fun hHeld => ?_)
  refine with_tabW rgh.tab7 rgh.bits7 (fun HT_ HW_ => ?_)
  refine pure_ (i:=0) (N:=some 79) (v:=?_) (a':=?_) #[tt,ff,ff,ff,ff,ff,ff,ff,ff,ff,ff,ff,ff,ff,ff,ff,ff,ff,ff,ff,ff,ff,ff,ff,ff,ff,ff,ff,ff,ff,ff,ff,ff,ff] rfl rfl (any_of HT_.out (by kernel_rfl)) (fun _ _ _ h => h) (Or.inl ⟨by rfl,?_⟩) ?_ ?_
  rotate_left
  ·intro w'
   go_simp
   with_reducible rfl
  rotate_left
  ·simp only [Act.put,sA,sZ,sS,i64_w,i32_w]
   rfl
  refine take_ (i:=1) (N:=some 80) (v:=?_) (a':=?_) #[tt,tt,ff,ff,ff,ff,ff,ff,ff,ff,ff,ff,ff,ff,ff,ff,ff,ff,ff,ff,ff,ff,ff,ff,ff,ff,ff,ff,ff,ff,ff,ff,ff,ff] rfl rfl (take_ofW HT_.out HW_.out (by kernel_rfl)) (fun _ _ _ h => h) (Or.inl ⟨by rfl,?_⟩) hHeld ?_ ?_
  rotate_left
  ·rintro w' s0
   have m0:=keep_cell s0 c0
   go_simp
   with_reducible rfl
  rotate_left
  ·simp only [Act.put,sA,sZ,sS,i64_w,i32_w]
   rfl
  refine pure_ (i:=2) (N:=some 81) (v:=?_) (a':=?_) #[tt,tt,tt,ff,ff,ff,ff,ff,ff,ff,ff,ff,ff,ff,ff,ff,ff,ff,ff,ff,ff,ff,ff,ff,ff,ff,ff,ff,ff,ff,ff,ff,ff,ff] rfl rfl (any_of HT_.out (by kernel_rfl)) (fun _ _ _ h => h) (Or.inl ⟨by rfl,?_⟩) ?_ ?_
  rotate_left
  ·intro w'
   go_simp
   with_reducible rfl
  rotate_left
  ·simp only [Act.put,sA,sZ,sS,i64_w,i32_w]
   rfl
  refine pure_ (i:=3) (N:=some 82) (v:=?_) (a':=?_) #[tt,tt,tt,tt,ff,ff,ff,ff,ff,ff,ff,ff,ff,ff,ff,ff,ff,ff,ff,ff,ff,ff,ff,ff,ff,ff,ff,ff,ff,ff,ff,ff,ff,ff] rfl rfl (any_of HT_.out (by kernel_rfl)) (fun _ _ _ h => h) (Or.inl ⟨by rfl,?_⟩) ?_ ?_
  rotate_left
  ·intro w'
   go_simp
   with_reducible rfl
  rotate_left
  ·simp only [Act.put,sA,sZ,sS,i64_w,i32_w]
   rfl
  refine pure_ (i:=4) (N:=some 83) (v:=undef) (a':=?_) #[tt,tt,tt,tt,tt,ff,ff,ff,ff,ff,ff,ff,ff,ff,ff,ff,ff,ff,ff,ff,ff,ff,ff,ff,ff,ff,ff,ff,ff,ff,ff,ff,ff,ff] rfl rfl (any_of HT_.out (by kernel_rfl)) (fun _ _ _ h => h) (Or.inr ⟨by rfl,rfl⟩) ?_ ?_
  rotate_left
  ·simp only [Act.put,sA,sZ,sS]
   rfl
  refine pure_ (i:=5) (N:=some 84) (v:=undef) (a':=?_) #[tt,tt,tt,tt,tt,tt,ff,ff,ff,ff,ff,ff,ff,ff,ff,ff,ff,ff,ff,ff,ff,ff,ff,ff,ff,ff,ff,ff,ff,ff,ff,ff,ff,ff] rfl rfl (any_of HT_.out (by kernel_rfl)) (fun _ _ _ h => h) (Or.inr ⟨by rfl,rfl⟩) ?_ ?_
  rotate_left
  ·simp only [Act.put,sA,sZ,sS]
   rfl
  refine pure_ (i:=6) (N:=some 85) (v:=undef) (a':=?_) #[tt,tt,tt,tt,tt,tt,tt,ff,ff,ff,ff,ff,ff,ff,ff,ff,ff,ff,ff,ff,ff,ff,ff,ff,ff,ff,ff,ff,ff,ff,ff,ff,ff,ff] rfl rfl (any_of HT_.out (by kernel_rfl)) (fun _ _ _ h => h) (Or.inr ⟨by rfl,rfl⟩) ?_ ?_
  rotate_left
  ·simp only [Act.put,sA,sZ,sS]
   rfl
  refine pure_ (i:=7) (N:=some 86) (v:=undef) (a':=?_) #[tt,tt,tt,tt,tt,tt,tt,tt,ff,ff,ff,ff,ff,ff,ff,ff,ff,ff,ff,ff,ff,ff,ff,ff,ff,ff,ff,ff,ff,ff,ff,ff,ff,ff] rfl rfl (any_of HT_.out (by kernel_rfl)) (fun _ _ _ h => h) (Or.inr ⟨by rfl,rfl⟩) ?_ ?_
  rotate_left
  ·simp only [Act.put,sA,sZ,sS]
   rfl
  refine pure_ (i:=8) (N:=some 87) (v:=undef) (a':=?_) #[tt,tt,tt,tt,tt,tt,tt,tt,tt,ff,ff,ff,ff,ff,ff,ff,ff,ff,ff,ff,ff,ff,ff,ff,ff,ff,ff,ff,ff,ff,ff,ff,ff,ff] rfl rfl (any_of HT_.out (by kernel_rfl)) (fun _ _ _ h => h) (Or.inr ⟨by rfl,rfl⟩) ?_ ?_
  rotate_left
  ·simp only [Act.put,sA,sZ,sS]
   rfl
  refine pure_ (i:=9) (N:=some 88) (v:=undef) (a':=?_) #[tt,tt,tt,tt,tt,tt,tt,tt,tt,tt,ff,ff,ff,ff,ff,ff,ff,ff,ff,ff,ff,ff,ff,ff,ff,ff,ff,ff,ff,ff,ff,ff,ff,ff] rfl rfl (any_of HT_.out (by kernel_rfl)) (fun _ _ _ h => h) (Or.inr ⟨by rfl,rfl⟩) ?_ ?_
  rotate_left
  ·simp only [Act.put,sA,sZ,sS]
   rfl
  refine pure_ (i:=10) (N:=some 89) (v:=?_) (a':=?_) #[tt,tt,tt,tt,tt,tt,tt,tt,tt,tt,tt,ff,ff,ff,ff,ff,ff,ff,ff,ff,ff,ff,ff,ff,ff,ff,ff,ff,ff,ff,ff,ff,ff,ff] rfl rfl (any_of HT_.out (by kernel_rfl)) (fun _ _ _ h => h) (Or.inl ⟨by rfl,?_⟩) ?_ ?_
  rotate_left
  ·intro w'
   go_simp
   with_reducible rfl
  rotate_left
  ·simp only [Act.put,sA,sZ,sS,i64_w,i32_w]
   rfl
  refine pure_ (i:=11) (N:=some 90) (v:=?_) (a':=?_) #[tt,tt,tt,tt,tt,tt,tt,tt,tt,tt,tt,tt,ff,ff,ff,ff,ff,ff,ff,ff,ff,ff,ff,ff,ff,ff,ff,ff,ff,ff,ff,ff,ff,ff] rfl rfl (any_of HT_.out (by kernel_rfl)) (fun _ _ _ h => h) (Or.inl ⟨by rfl,?_⟩) ?_ ?_
  rotate_left
  ·intro w'
   go_simp
   with_reducible rfl
  rotate_left
  ·simp only [Act.put,sA,sZ,sS,i64_w,i32_w]
   rfl
  refine pure_ (i:=12) (N:=some 91) (v:=undef) (a':=?_) #[tt,tt,tt,tt,tt,tt,tt,tt,tt,tt,tt,tt,tt,ff,ff,ff,ff,ff,ff,ff,ff,ff,ff,ff,ff,ff,ff,ff,ff,ff,ff,ff,ff,ff] rfl rfl (any_of HT_.out (by kernel_rfl)) (fun _ _ _ h => h) (Or.inr ⟨by rfl,rfl⟩) ?_ ?_
  rotate_left
  ·simp only [Act.put,sA,sZ,sS]
   rfl
  refine pure_ (i:=13) (N:=some 92) (v:=undef) (a':=?_) #[tt,tt,tt,tt,tt,tt,tt,tt,tt,tt,tt,tt,tt,tt,ff,ff,ff,ff,ff,ff,ff,ff,ff,ff,ff,ff,ff,ff,ff,ff,ff,ff,ff,ff] rfl rfl (any_of HT_.out (by kernel_rfl)) (fun _ _ _ h => h) (Or.inr ⟨by rfl,rfl⟩) ?_ ?_
  rotate_left
  ·simp only [Act.put,sA,sZ,sS]
   rfl
  refine pure_ (i:=14) (N:=some 93) (v:=undef) (a':=?_) #[tt,tt,tt,tt,tt,tt,tt,tt,tt,tt,tt,tt,tt,tt,tt,ff,ff,ff,ff,ff,ff,ff,ff,ff,ff,ff,ff,ff,ff,ff,ff,ff,ff,ff] rfl rfl (any_of HT_.out (by kernel_rfl)) (fun _ _ _ h => h) (Or.inr ⟨by rfl,rfl⟩) ?_ ?_
  rotate_left
  ·simp only [Act.put,sA,sZ,sS]
   rfl
  refine pure_ (i:=15) (N:=some 94) (v:=undef) (a':=?_) #[tt,tt,tt,tt,tt,tt,tt,tt,tt,tt,tt,tt,tt,tt,tt,tt,ff,ff,ff,ff,ff,ff,ff,ff,ff,ff,ff,ff,ff,ff,ff,ff,ff,ff] rfl rfl (any_of HT_.out (by kernel_rfl)) (fun _ _ _ h => h) (Or.inr ⟨by rfl,rfl⟩) ?_ ?_
  rotate_left
  ·simp only [Act.put,sA,sZ,sS]
   rfl
  refine pure_ (i:=16) (N:=some 95) (v:=undef) (a':=?_) #[tt,tt,tt,tt,tt,tt,tt,tt,tt,tt,tt,tt,tt,tt,tt,tt,tt,ff,ff,ff,ff,ff,ff,ff,ff,ff,ff,ff,ff,ff,ff,ff,ff,ff] rfl rfl (any_of HT_.out (by kernel_rfl)) (fun _ _ _ h => h) (Or.inr ⟨by rfl,rfl⟩) ?_ ?_
  rotate_left
  ·simp only [Act.put,sA,sZ,sS]
   rfl
  refine pure_ (i:=17) (N:=some 96) (v:=undef) (a':=?_) #[tt,tt,tt,tt,tt,tt,tt,tt,tt,tt,tt,tt,tt,tt,tt,tt,tt,tt,ff,ff,ff,ff,ff,ff,ff,ff,ff,ff,ff,ff,ff,ff,ff,ff] rfl rfl (any_of HT_.out (by kernel_rfl)) (fun _ _ _ h => h) (Or.inr ⟨by rfl,rfl⟩) ?_ ?_
  rotate_left
  ·simp only [Act.put,sA,sZ,sS]
   rfl
  refine pure_ (i:=18) (N:=some 97) (v:=undef) (a':=?_) #[tt,tt,tt,tt,tt,tt,tt,tt,tt,tt,tt,tt,tt,tt,tt,tt,tt,tt,tt,ff,ff,ff,ff,ff,ff,ff,ff,ff,ff,ff,ff,ff,ff,ff] rfl rfl (any_of HT_.out (by kernel_rfl)) (fun _ _ _ h => h) (Or.inr ⟨by rfl,rfl⟩) ?_ ?_
  rotate_left
  ·simp only [Act.put,sA,sZ,sS]
   rfl
  refine pure_ (i:=19) (N:=some 98) (v:=undef) (a':=?_) #[tt,tt,tt,tt,tt,tt,tt,tt,tt,tt,tt,tt,tt,tt,tt,tt,tt,tt,tt,tt,ff,ff,ff,ff,ff,ff,ff,ff,ff,ff,ff,ff,ff,ff] rfl rfl (any_of HT_.out (by kernel_rfl)) (fun _ _ _ h => h) (Or.inr ⟨by rfl,rfl⟩) ?_ ?_
  rotate_left
  ·simp only [Act.put,sA,sZ,sS]
   rfl
  refine pure_ (i:=20) (N:=some 99) (v:=undef) (a':=?_) #[tt,tt,tt,tt,tt,tt,tt,tt,tt,tt,tt,tt,tt,tt,tt,tt,tt,tt,tt,tt,tt,ff,ff,ff,ff,ff,ff,ff,ff,ff,ff,ff,ff,ff] rfl rfl (any_of HT_.out (by kernel_rfl)) (fun _ _ _ h => h) (Or.inr ⟨by rfl,rfl⟩) ?_ ?_
  rotate_left
  ·simp only [Act.put,sA,sZ,sS]
   rfl
  refine pure_ (i:=21) (N:=some 100) (v:=undef) (a':=?_) #[tt,tt,tt,tt,tt,tt,tt,tt,tt,tt,tt,tt,tt,tt,tt,tt,tt,tt,tt,tt,tt,tt,ff,ff,ff,ff,ff,ff,ff,ff,ff,ff,ff,ff] rfl rfl (any_of HT_.out (by kernel_rfl)) (fun _ _ _ h => h) (Or.inr ⟨by rfl,rfl⟩) ?_ ?_
  rotate_left
  ·simp only [Act.put,sA,sZ,sS]
   rfl
  refine pure_ (i:=22) (N:=some 101) (v:=?_) (a':=?_) #[tt,tt,tt,tt,tt,tt,tt,tt,tt,tt,tt,tt,tt,tt,tt,tt,tt,tt,tt,tt,tt,tt,tt,ff,ff,ff,ff,ff,ff,ff,ff,ff,ff,ff] rfl rfl (any_of HT_.out (by kernel_rfl)) (fun _ _ _ h => h) (Or.inl ⟨by rfl,?_⟩) ?_ ?_
  rotate_left
  ·intro w'
   go_simp
   with_reducible rfl
  rotate_left
  ·simp only [Act.put,sA,sZ,sS,i64_w,i32_w]
   rfl
  refine pure_ (i:=23) (N:=some 102) (v:=?_) (a':=?_) #[tt,tt,tt,tt,tt,tt,tt,tt,tt,tt,tt,tt,tt,tt,tt,tt,tt,tt,tt,tt,tt,tt,tt,tt,ff,ff,ff,ff,ff,ff,ff,ff,ff,ff] rfl rfl (any_of HT_.out (by kernel_rfl)) (fun _ _ _ h => h) (Or.inl ⟨by rfl,?_⟩) ?_ ?_
  rotate_left
  ·intro w'
   go_simp
   with_reducible rfl
  rotate_left
  ·simp only [Act.put,sA,sZ,sS,i64_w,i32_w]
   rfl
  refine pure_ (i:=24) (N:=some 103) (v:=undef) (a':=?_) #[tt,tt,tt,tt,tt,tt,tt,tt,tt,tt,tt,tt,tt,tt,tt,tt,tt,tt,tt,tt,tt,tt,tt,tt,tt,ff,ff,ff,ff,ff,ff,ff,ff,ff] rfl rfl (any_of HT_.out (by kernel_rfl)) (fun _ _ _ h => h) (Or.inr ⟨by rfl,rfl⟩) ?_ ?_
  rotate_left
  ·simp only [Act.put,sA,sZ,sS]
   rfl
  refine pure_ (i:=25) (N:=some 104) (v:=undef) (a':=?_) #[tt,tt,tt,tt,tt,tt,tt,tt,tt,tt,tt,tt,tt,tt,tt,tt,tt,tt,tt,tt,tt,tt,tt,tt,tt,tt,ff,ff,ff,ff,ff,ff,ff,ff] rfl rfl (any_of HT_.out (by kernel_rfl)) (fun _ _ _ h => h) (Or.inr ⟨by rfl,rfl⟩) ?_ ?_
  rotate_left
  ·simp only [Act.put,sA,sZ,sS]
   rfl
  refine pure_ (i:=26) (N:=some 105) (v:=undef) (a':=?_) #[tt,tt,tt,tt,tt,tt,tt,tt,tt,tt,tt,tt,tt,tt,tt,tt,tt,tt,tt,tt,tt,tt,tt,tt,tt,tt,tt,ff,ff,ff,ff,ff,ff,ff] rfl rfl (any_of HT_.out (by kernel_rfl)) (fun _ _ _ h => h) (Or.inr ⟨by rfl,rfl⟩) ?_ ?_
  rotate_left
  ·simp only [Act.put,sA,sZ,sS]
   rfl
  refine pure_ (i:=27) (N:=some 106) (v:=undef) (a':=?_) #[tt,tt,tt,tt,tt,tt,tt,tt,tt,tt,tt,tt,tt,tt,tt,tt,tt,tt,tt,tt,tt,tt,tt,tt,tt,tt,tt,tt,ff,ff,ff,ff,ff,ff] rfl rfl (any_of HT_.out (by kernel_rfl)) (fun _ _ _ h => h) (Or.inr ⟨by rfl,rfl⟩) ?_ ?_
  rotate_left
  ·simp only [Act.put,sA,sZ,sS]
   rfl
  refine pure_ (i:=28) (N:=some 107) (v:=undef) (a':=?_) #[tt,tt,tt,tt,tt,tt,tt,tt,tt,tt,tt,tt,tt,tt,tt,tt,tt,tt,tt,tt,tt,tt,tt,tt,tt,tt,tt,tt,tt,ff,ff,ff,ff,ff] rfl rfl (any_of HT_.out (by kernel_rfl)) (fun _ _ _ h => h) (Or.inr ⟨by rfl,rfl⟩) ?_ ?_
  rotate_left
  ·simp only [Act.put,sA,sZ,sS]
   rfl
  refine pure_ (i:=29) (N:=some 108) (v:=undef) (a':=?_) #[tt,tt,tt,tt,tt,tt,tt,tt,tt,tt,tt,tt,tt,tt,tt,tt,tt,tt,tt,tt,tt,tt,tt,tt,tt,tt,tt,tt,tt,tt,ff,ff,ff,ff] rfl rfl (any_of HT_.out (by kernel_rfl)) (fun _ _ _ h => h) (Or.inr ⟨by rfl,rfl⟩) ?_ ?_
  rotate_left
  ·simp only [Act.put,sA,sZ,sS]
   rfl
  refine pure_ (i:=30) (N:=some 109) (v:=undef) (a':=?_) #[tt,tt,tt,tt,tt,tt,tt,tt,tt,tt,tt,tt,tt,tt,tt,tt,tt,tt,tt,tt,tt,tt,tt,tt,tt,tt,tt,tt,tt,tt,tt,ff,ff,ff] rfl rfl (any_of HT_.out (by kernel_rfl)) (fun _ _ _ h => h) (Or.inr ⟨by rfl,rfl⟩) ?_ ?_
  rotate_left
  ·simp only [Act.put,sA,sZ,sS]
   rfl
  refine pure_ (i:=31) (N:=some 110) (v:=undef) (a':=?_) #[tt,tt,tt,tt,tt,tt,tt,tt,tt,tt,tt,tt,tt,tt,tt,tt,tt,tt,tt,tt,tt,tt,tt,tt,tt,tt,tt,tt,tt,tt,tt,tt,ff,ff] rfl rfl (any_of HT_.out (by kernel_rfl)) (fun _ _ _ h => h) (Or.inr ⟨by rfl,rfl⟩) ?_ ?_
  rotate_left
  ·simp only [Act.put,sA,sZ,sS]
   rfl
  refine pure_ (i:=32) (N:=some 111) (v:=undef) (a':=?_) #[tt,tt,tt,tt,tt,tt,tt,tt,tt,tt,tt,tt,tt,tt,tt,tt,tt,tt,tt,tt,tt,tt,tt,tt,tt,tt,tt,tt,tt,tt,tt,tt,tt,ff] rfl rfl (any_of HT_.out (by kernel_rfl)) (fun _ _ _ h => h) (Or.inr ⟨by rfl,rfl⟩) ?_ ?_
  rotate_left
  ·simp only [Act.put,sA,sZ,sS]
   rfl
  refine pure_ (i:=33) (N:=some 112) (v:=?_) (a':=?_) #[tt,tt,tt,tt,tt,tt,tt,tt,tt,tt,tt,tt,tt,tt,tt,tt,tt,tt,tt,tt,tt,tt,tt,tt,tt,tt,tt,tt,tt,tt,tt,tt,tt,tt] rfl rfl (any_of HT_.out (by kernel_rfl)) (fun _ _ _ h => h) (Or.inl ⟨by rfl,?_⟩) ?_ ?_
  rotate_left
  ·intro w'
   go_simp
   with_reducible rfl
  rotate_left
  ·simp only [Act.put,sA,sZ,sS,i64_w,i32_w]
   rfl
  have hX:=hHeld
  refine done_ (done_of HT_.out (by kernel_rfl)) ?_
  go_wp2
  go_ret
  exact ⟨by rw [Hv.out];simp,keep_below hB hX⟩
 have e3 : (s.f0 != 3) = false:=by simp [s3]
 have Hv:=Lib.hid (Hm.out.trans (by rw [if_neg s1,if_neg s2,if_pos s3] : _ = busyB s t i) |>.trans H3.out)
 clear s1 s2 s3 Hm H3
 have c2:=sc2 b
 have c4:=sc4 b
 have c5:=sc5 b
 have c6:=sc6 b
 have c7:=sc7 b
 have c8:=sc8 b
 have c9:=sc9 b
 have c10:=sc10 b
 have c11:=sc11 b
 have c12:=sc12 b
 go_upto_region 7 with fail
 refine start_ (n:=34) (S:=(fun w' => Below V.heap.size V w')) (ds:=[]) #[ff,ff,ff,ff,ff,ff,ff,ff,ff,ff,ff,ff,ff,ff,ff,ff,ff,ff,ff,ff,ff,ff,ff,ff,ff,ff,ff,ff,ff,ff,ff,ff,ff,ff] (by kernel_rfl) rfl rfl (Below.drew (Below.refl _ _)) (fun hHeld => ?_)
 refine with_tabW rgh.tab7 rgh.bits7 (fun HT_ HW_ => ?_)
 refine pure_ (i:=0) (N:=some 79) (v:=?_) (a':=?_) #[tt,ff,ff,ff,ff,ff,ff,ff,ff,ff,ff,ff,ff,ff,ff,ff,ff,ff,ff,ff,ff,ff,ff,ff,ff,ff,ff,ff,ff,ff,ff,ff,ff,ff] rfl rfl (any_of HT_.out (by kernel_rfl)) (fun _ _ _ h => h) (Or.inl ⟨by rfl,?_⟩) ?_ ?_
 rotate_left
 ·intro w'
  go_simp
  with_reducible rfl
 rotate_left
 ·simp only [Act.put,sA,sZ,sS,i64_w,i32_w]
  rfl
 refine take_ (i:=1) (N:=some 80) (v:=?_) (a':=?_) #[tt,tt,ff,ff,ff,ff,ff,ff,ff,ff,ff,ff,ff,ff,ff,ff,ff,ff,ff,ff,ff,ff,ff,ff,ff,ff,ff,ff,ff,ff,ff,ff,ff,ff] rfl rfl (take_ofW HT_.out HW_.out (by kernel_rfl)) (fun _ _ _ h => h) (Or.inl ⟨by rfl,?_⟩) hHeld ?_ ?_
 rotate_left
 ·rintro w' s0
  have m0:=keep_cell s0 c0
  have m2:=keep_cell s0 c2
  have m4:=keep_cell s0 c4
  have m5:=keep_cell s0 c5
  have m6:=keep_cell s0 c6
  have m7:=keep_cell s0 c7
  have m8:=keep_cell s0 c8
  have m9:=keep_cell s0 c9
  have m10:=keep_cell s0 c10
  have m11:=keep_cell s0 c11
  have m12:=keep_cell s0 c12
  go_simp
  with_reducible rfl
 rotate_left
 ·simp only [Act.put,sA,sZ,sS,i64_w,i32_w]
  rfl
 refine pure_ (i:=2) (N:=some 81) (v:=?_) (a':=?_) #[tt,tt,tt,ff,ff,ff,ff,ff,ff,ff,ff,ff,ff,ff,ff,ff,ff,ff,ff,ff,ff,ff,ff,ff,ff,ff,ff,ff,ff,ff,ff,ff,ff,ff] rfl rfl (any_of HT_.out (by kernel_rfl)) (fun _ _ _ h => h) (Or.inl ⟨by rfl,?_⟩) ?_ ?_
 rotate_left
 ·intro w'
  go_simp
  with_reducible rfl
 rotate_left
 ·simp only [Act.put,sA,sZ,sS,i64_w,i32_w]
  rfl
 refine pure_ (i:=3) (N:=some 82) (v:=?_) (a':=?_) #[tt,tt,tt,tt,ff,ff,ff,ff,ff,ff,ff,ff,ff,ff,ff,ff,ff,ff,ff,ff,ff,ff,ff,ff,ff,ff,ff,ff,ff,ff,ff,ff,ff,ff] rfl rfl (any_of HT_.out (by kernel_rfl)) (fun _ _ _ h => h) (Or.inl ⟨by rfl,?_⟩) ?_ ?_
 rotate_left
 ·intro w'
  go_simp
  with_reducible rfl
 rotate_left
 ·simp only [Act.put,sA,sZ,sS,i64_w,i32_w]
  rfl
 refine pure_ (i:=4) (N:=some 83) (v:=?_) (a':=?_) #[tt,tt,tt,tt,tt,ff,ff,ff,ff,ff,ff,ff,ff,ff,ff,ff,ff,ff,ff,ff,ff,ff,ff,ff,ff,ff,ff,ff,ff,ff,ff,ff,ff,ff] rfl rfl (any_of HT_.out (by kernel_rfl)) (fun _ _ _ h => h) (Or.inl ⟨by rfl,?_⟩) ?_ ?_
 rotate_left
 ·intro w'
  go_simp
  with_reducible rfl
 rotate_left
 ·simp only [Act.put,sA,sZ,sS,i64_w,i32_w]
  rfl
 refine take_ (i:=5) (N:=some 84) (v:=?_) (a':=?_) #[tt,tt,tt,tt,tt,tt,ff,ff,ff,ff,ff,ff,ff,ff,ff,ff,ff,ff,ff,ff,ff,ff,ff,ff,ff,ff,ff,ff,ff,ff,ff,ff,ff,ff] rfl rfl (take_ofW HT_.out HW_.out (by kernel_rfl)) (fun _ _ _ h => h) (Or.inl ⟨by rfl,?_⟩) hHeld ?_ ?_
 rotate_left
 ·rintro w' s0
  have m0:=keep_cell s0 c0
  have m2:=keep_cell s0 c2
  have m4:=keep_cell s0 c4
  have m5:=keep_cell s0 c5
  have m6:=keep_cell s0 c6
  have m7:=keep_cell s0 c7
  have m8:=keep_cell s0 c8
  have m9:=keep_cell s0 c9
  have m10:=keep_cell s0 c10
  have m11:=keep_cell s0 c11
  have m12:=keep_cell s0 c12
  go_simp
  with_reducible rfl
 rotate_left
 ·simp only [Act.put,sA,sZ,sS,i64_w,i32_w]
  rfl
 refine pure_ (i:=6) (N:=some 85) (v:=?_) (a':=?_) #[tt,tt,tt,tt,tt,tt,tt,ff,ff,ff,ff,ff,ff,ff,ff,ff,ff,ff,ff,ff,ff,ff,ff,ff,ff,ff,ff,ff,ff,ff,ff,ff,ff,ff] rfl rfl (any_of HT_.out (by kernel_rfl)) (fun _ _ _ h => h) (Or.inl ⟨by rfl,?_⟩) ?_ ?_
 rotate_left
 ·intro w'
  go_simp
  with_reducible rfl
 rotate_left
 ·simp only [Act.put,sA,sZ,sS,i64_w,i32_w]
  rfl
 refine take_ (i:=7) (N:=some 86) (v:=?_) (a':=?_) #[tt,tt,tt,tt,tt,tt,tt,tt,ff,ff,ff,ff,ff,ff,ff,ff,ff,ff,ff,ff,ff,ff,ff,ff,ff,ff,ff,ff,ff,ff,ff,ff,ff,ff] rfl rfl (take_ofW HT_.out HW_.out (by kernel_rfl)) (fun _ _ _ h => h) (Or.inl ⟨by rfl,?_⟩) hHeld ?_ ?_
 rotate_left
 ·rintro w' s0
  have m0:=keep_cell s0 c0
  have m2:=keep_cell s0 c2
  have m4:=keep_cell s0 c4
  have m5:=keep_cell s0 c5
  have m6:=keep_cell s0 c6
  have m7:=keep_cell s0 c7
  have m8:=keep_cell s0 c8
  have m9:=keep_cell s0 c9
  have m10:=keep_cell s0 c10
  have m11:=keep_cell s0 c11
  have m12:=keep_cell s0 c12
  go_simp
  with_reducible rfl
 rotate_left
 ·simp only [Act.put,sA,sZ,sS,i64_w,i32_w]
  rfl
 have hX:=hHeld
 refine one_ (i:=8) (N:=some 87) #[tt,tt,tt,tt,tt,tt,tt,tt,tt,ff,ff,ff,ff,ff,ff,ff,ff,ff,ff,ff,ff,ff,ff,ff,ff,ff,ff,ff,ff,ff,ff,ff,ff,ff] rfl rfl (one_of HT_.out (by kernel_rfl)) (by decide) (fun K hK => ?_)
 refine goes_ Tryd.func19 (by kernel_rfl) rfl #[.agg #[.int .i64 s.f4.f0,.bool s.f4.f1,.int .u32 s.f4.f2,.int .i64 s.f4.f3.f0,.int .i64 s.f4.f3.f1,.int .i64 s.f4.f3.f2,.int .i64 s.f4.f3.f3,.int .i64 s.f4.f4]] (by rfl) rfl rfl (by (try simp only [List.map_toArray,List.map_cons,List.map_nil]);first|done|rfl) ?_
 refine (rplain_x _ ht_).out.mono ?_
 rintro e_ w9 ⟨rfl,hb9⟩
 refine ⟨_,rfl,?_⟩
 replace hX:=keep_below hX hb9
 clear hb9
 refine hK.out _ _ hX (fun hHeld => ?_)
 clear hK K
 refine norm_ (a':=?_) ?_ ?_
 rotate_left
 ·first|(show Act.put _ (some 87) _ = _;simp only [Act.put,sA,sZ,sS,i64_w,i32_w];rfl)|with_reducible rfl
 have dq : (s.f4.f0 == t_.f0 && (s.f4.f1 == t_.f1 && (s.f4.f2 == t_.f2 && ((s.f4.f3.f0 == t_.f3.f0 && (s.f4.f3.f1 == t_.f3.f1 && (s.f4.f3.f2 == t_.f3.f2 && (s.f4.f3.f3 == t_.f3.f3)))) && (s.f4.f4 == t_.f4))))) = q:=hq
 clear hq ht_
 cases q
 case false =>
  refine pure_ (i:=9) (N:=some 88) (v:=?_) (a':=?_) #[tt,tt,tt,tt,tt,tt,tt,tt,tt,tt,ff,ff,ff,ff,ff,ff,ff,ff,ff,ff,ff,ff,ff,ff,ff,ff,ff,ff,ff,ff,ff,ff,ff,ff] rfl rfl (any_of HT_.out (by kernel_rfl)) (fun _ _ _ h => h) (Or.inl ⟨by rfl,?_⟩) ?_ ?_
  rotate_left
  ·intro w'
   go_simp
   with_reducible rfl
  rotate_left
  ·simp only [Act.put,sA,sZ,sS,i64_w,i32_w]
   rfl
  refine pure_ (i:=10) (N:=some 89) (v:=?_) (a':=?_) #[tt,tt,tt,tt,tt,tt,tt,tt,tt,tt,tt,ff,ff,ff,ff,ff,ff,ff,ff,ff,ff,ff,ff,ff,ff,ff,ff,ff,ff,ff,ff,ff,ff,ff] rfl rfl (any_of HT_.out (by kernel_rfl)) (fun _ _ _ h => h) (Or.inl ⟨by rfl,?_⟩) ?_ ?_
  rotate_left
  ·intro w'
   go_simp
   with_reducible rfl
  rotate_left
  ·simp only [Act.put,sA,sZ,sS,i64_w,i32_w]
   rfl
  refine pure_ (i:=11) (N:=some 90) (v:=?_) (a':=?_) #[tt,tt,tt,tt,tt,tt,tt,tt,tt,tt,tt,tt,ff,ff,ff,ff,ff,ff,ff,ff,ff,ff,ff,ff,ff,ff,ff,ff,ff,ff,ff,ff,ff,ff] rfl rfl (any_of HT_.out (by kernel_rfl)) (fun _ _ _ h => h) (Or.inl ⟨by rfl,?_⟩) ?_ ?_
  rotate_left
  ·intro w'
   go_simp
   with_reducible rfl
  rotate_left
  ·simp only [Act.put,sA,sZ,sS,i64_w,i32_w]
   rfl
  refine pure_ (i:=12) (N:=some 91) (v:=undef) (a':=?_) #[tt,tt,tt,tt,tt,tt,tt,tt,tt,tt,tt,tt,tt,ff,ff,ff,ff,ff,ff,ff,ff,ff,ff,ff,ff,ff,ff,ff,ff,ff,ff,ff,ff,ff] rfl rfl (any_of HT_.out (by kernel_rfl)) (fun _ _ _ h => h) (Or.inr ⟨by rfl,rfl⟩) ?_ ?_
  rotate_left
  ·simp only [Act.put,sA,sZ,sS]
   rfl
  refine pure_ (i:=13) (N:=some 92) (v:=undef) (a':=?_) #[tt,tt,tt,tt,tt,tt,tt,tt,tt,tt,tt,tt,tt,tt,ff,ff,ff,ff,ff,ff,ff,ff,ff,ff,ff,ff,ff,ff,ff,ff,ff,ff,ff,ff] rfl rfl (any_of HT_.out (by kernel_rfl)) (fun _ _ _ h => h) (Or.inr ⟨by rfl,rfl⟩) ?_ ?_
  rotate_left
  ·simp only [Act.put,sA,sZ,sS]
   rfl
  refine pure_ (i:=14) (N:=some 93) (v:=undef) (a':=?_) #[tt,tt,tt,tt,tt,tt,tt,tt,tt,tt,tt,tt,tt,tt,tt,ff,ff,ff,ff,ff,ff,ff,ff,ff,ff,ff,ff,ff,ff,ff,ff,ff,ff,ff] rfl rfl (any_of HT_.out (by kernel_rfl)) (fun _ _ _ h => h) (Or.inr ⟨by rfl,rfl⟩) ?_ ?_
  rotate_left
  ·simp only [Act.put,sA,sZ,sS]
   rfl
  refine pure_ (i:=15) (N:=some 94) (v:=undef) (a':=?_) #[tt,tt,tt,tt,tt,tt,tt,tt,tt,tt,tt,tt,tt,tt,tt,tt,ff,ff,ff,ff,ff,ff,ff,ff,ff,ff,ff,ff,ff,ff,ff,ff,ff,ff] rfl rfl (any_of HT_.out (by kernel_rfl)) (fun _ _ _ h => h) (Or.inr ⟨by rfl,rfl⟩) ?_ ?_
  rotate_left
  ·simp only [Act.put,sA,sZ,sS]
   rfl
  refine pure_ (i:=16) (N:=some 95) (v:=undef) (a':=?_) #[tt,tt,tt,tt,tt,tt,tt,tt,tt,tt,tt,tt,tt,tt,tt,tt,tt,ff,ff,ff,ff,ff,ff,ff,ff,ff,ff,ff,ff,ff,ff,ff,ff,ff] rfl rfl (any_of HT_.out (by kernel_rfl)) (fun _ _ _ h => h) (Or.inr ⟨by rfl,rfl⟩) ?_ ?_
  rotate_left
  ·simp only [Act.put,sA,sZ,sS]
   rfl
  refine pure_ (i:=17) (N:=some 96) (v:=undef) (a':=?_) #[tt,tt,tt,tt,tt,tt,tt,tt,tt,tt,tt,tt,tt,tt,tt,tt,tt,tt,ff,ff,ff,ff,ff,ff,ff,ff,ff,ff,ff,ff,ff,ff,ff,ff] rfl rfl (any_of HT_.out (by kernel_rfl)) (fun _ _ _ h => h) (Or.inr ⟨by rfl,rfl⟩) ?_ ?_
  rotate_left
  ·simp only [Act.put,sA,sZ,sS]
   rfl
  refine pure_ (i:=18) (N:=some 97) (v:=undef) (a':=?_) #[tt,tt,tt,tt,tt,tt,tt,tt,tt,tt,tt,tt,tt,tt,tt,tt,tt,tt,tt,ff,ff,ff,ff,ff,ff,ff,ff,ff,ff,ff,ff,ff,ff,ff] rfl rfl (any_of HT_.out (by kernel_rfl)) (fun _ _ _ h => h) (Or.inr ⟨by rfl,rfl⟩) ?_ ?_
  rotate_left
  ·simp only [Act.put,sA,sZ,sS]
   rfl
  refine pure_ (i:=19) (N:=some 98) (v:=undef) (a':=?_) #[tt,tt,tt,tt,tt,tt,tt,tt,tt,tt,tt,tt,tt,tt,tt,tt,tt,tt,tt,tt,ff,ff,ff,ff,ff,ff,ff,ff,ff,ff,ff,ff,ff,ff] rfl rfl (any_of HT_.out (by kernel_rfl)) (fun _ _ _ h => h) (Or.inr ⟨by rfl,rfl⟩) ?_ ?_
  rotate_left
  ·simp only [Act.put,sA,sZ,sS]
   rfl
  refine pure_ (i:=20) (N:=some 99) (v:=undef) (a':=?_) #[tt,tt,tt,tt,tt,tt,tt,tt,tt,tt,tt,tt,tt,tt,tt,tt,tt,tt,tt,tt,tt,ff,ff,ff,ff,ff,ff,ff,ff,ff,ff,ff,ff,ff] rfl rfl (any_of HT_.out (by kernel_rfl)) (fun _ _ _ h => h) (Or.inr ⟨by rfl,rfl⟩) ?_ ?_
  rotate_left
  ·simp only [Act.put,sA,sZ,sS]
   rfl
  refine pure_ (i:=21) (N:=some 100) (v:=undef) (a':=?_) #[tt,tt,tt,tt,tt,tt,tt,tt,tt,tt,tt,tt,tt,tt,tt,tt,tt,tt,tt,tt,tt,tt,ff,ff,ff,ff,ff,ff,ff,ff,ff,ff,ff,ff] rfl rfl (any_of HT_.out (by kernel_rfl)) (fun _ _ _ h => h) (Or.inr ⟨by rfl,rfl⟩) ?_ ?_
  rotate_left
  ·simp only [Act.put,sA,sZ,sS]
   rfl
  refine pure_ (i:=22) (N:=some 101) (v:=?_) (a':=?_) #[tt,tt,tt,tt,tt,tt,tt,tt,tt,tt,tt,tt,tt,tt,tt,tt,tt,tt,tt,tt,tt,tt,tt,ff,ff,ff,ff,ff,ff,ff,ff,ff,ff,ff] rfl rfl (any_of HT_.out (by kernel_rfl)) (fun _ _ _ h => h) (Or.inl ⟨by rfl,?_⟩) ?_ ?_
  rotate_left
  ·intro w'
   go_simp
   with_reducible rfl
  rotate_left
  ·simp only [Act.put,sA,sZ,sS,i64_w,i32_w]
   rfl
  refine pure_ (i:=23) (N:=some 102) (v:=?_) (a':=?_) #[tt,tt,tt,tt,tt,tt,tt,tt,tt,tt,tt,tt,tt,tt,tt,tt,tt,tt,tt,tt,tt,tt,tt,tt,ff,ff,ff,ff,ff,ff,ff,ff,ff,ff] rfl rfl (any_of HT_.out (by kernel_rfl)) (fun _ _ _ h => h) (Or.inl ⟨by rfl,?_⟩) ?_ ?_
  rotate_left
  ·intro w'
   go_simp
   with_reducible rfl
  rotate_left
  ·simp only [Act.put,sA,sZ,sS,i64_w,i32_w]
   rfl
  refine pure_ (i:=24) (N:=some 103) (v:=undef) (a':=?_) #[tt,tt,tt,tt,tt,tt,tt,tt,tt,tt,tt,tt,tt,tt,tt,tt,tt,tt,tt,tt,tt,tt,tt,tt,tt,ff,ff,ff,ff,ff,ff,ff,ff,ff] rfl rfl (any_of HT_.out (by kernel_rfl)) (fun _ _ _ h => h) (Or.inr ⟨by rfl,rfl⟩) ?_ ?_
  rotate_left
  ·simp only [Act.put,sA,sZ,sS]
   rfl
  refine pure_ (i:=25) (N:=some 104) (v:=undef) (a':=?_) #[tt,tt,tt,tt,tt,tt,tt,tt,tt,tt,tt,tt,tt,tt,tt,tt,tt,tt,tt,tt,tt,tt,tt,tt,tt,tt,ff,ff,ff,ff,ff,ff,ff,ff] rfl rfl (any_of HT_.out (by kernel_rfl)) (fun _ _ _ h => h) (Or.inr ⟨by rfl,rfl⟩) ?_ ?_
  rotate_left
  ·simp only [Act.put,sA,sZ,sS]
   rfl
  refine pure_ (i:=26) (N:=some 105) (v:=undef) (a':=?_) #[tt,tt,tt,tt,tt,tt,tt,tt,tt,tt,tt,tt,tt,tt,tt,tt,tt,tt,tt,tt,tt,tt,tt,tt,tt,tt,tt,ff,ff,ff,ff,ff,ff,ff] rfl rfl (any_of HT_.out (by kernel_rfl)) (fun _ _ _ h => h) (Or.inr ⟨by rfl,rfl⟩) ?_ ?_
  rotate_left
  ·simp only [Act.put,sA,sZ,sS]
   rfl
  refine pure_ (i:=27) (N:=some 106) (v:=undef) (a':=?_) #[tt,tt,tt,tt,tt,tt,tt,tt,tt,tt,tt,tt,tt,tt,tt,tt,tt,tt,tt,tt,tt,tt,tt,tt,tt,tt,tt,tt,ff,ff,ff,ff,ff,ff] rfl rfl (any_of HT_.out (by kernel_rfl)) (fun _ _ _ h => h) (Or.inr ⟨by rfl,rfl⟩) ?_ ?_
  rotate_left
  ·simp only [Act.put,sA,sZ,sS]
   rfl
  refine pure_ (i:=28) (N:=some 107) (v:=undef) (a':=?_) #[tt,tt,tt,tt,tt,tt,tt,tt,tt,tt,tt,tt,tt,tt,tt,tt,tt,tt,tt,tt,tt,tt,tt,tt,tt,tt,tt,tt,tt,ff,ff,ff,ff,ff] rfl rfl (any_of HT_.out (by kernel_rfl)) (fun _ _ _ h => h) (Or.inr ⟨by rfl,rfl⟩) ?_ ?_
  rotate_left
  ·simp only [Act.put,sA,sZ,sS]
   rfl
  refine pure_ (i:=29) (N:=some 108) (v:=undef) (a':=?_) #[tt,tt,tt,tt,tt,tt,tt,tt,tt,tt,tt,tt,tt,tt,tt,tt,tt,tt,tt,tt,tt,tt,tt,tt,tt,tt,tt,tt,tt,tt,ff,ff,ff,ff] rfl rfl (any_of HT_.out (by kernel_rfl)) (fun _ _ _ h => h) (Or.inr ⟨by rfl,rfl⟩) ?_ ?_
  rotate_left
  ·simp only [Act.put,sA,sZ,sS]
   rfl
  refine pure_ (i:=30) (N:=some 109) (v:=undef) (a':=?_) #[tt,tt,tt,tt,tt,tt,tt,tt,tt,tt,tt,tt,tt,tt,tt,tt,tt,tt,tt,tt,tt,tt,tt,tt,tt,tt,tt,tt,tt,tt,tt,ff,ff,ff] rfl rfl (any_of HT_.out (by kernel_rfl)) (fun _ _ _ h => h) (Or.inr ⟨by rfl,rfl⟩) ?_ ?_
  rotate_left
  ·simp only [Act.put,sA,sZ,sS]
   rfl
  refine pure_ (i:=31) (N:=some 110) (v:=undef) (a':=?_) #[tt,tt,tt,tt,tt,tt,tt,tt,tt,tt,tt,tt,tt,tt,tt,tt,tt,tt,tt,tt,tt,tt,tt,tt,tt,tt,tt,tt,tt,tt,tt,tt,ff,ff] rfl rfl (any_of HT_.out (by kernel_rfl)) (fun _ _ _ h => h) (Or.inr ⟨by rfl,rfl⟩) ?_ ?_
  rotate_left
  ·simp only [Act.put,sA,sZ,sS]
   rfl
  refine pure_ (i:=32) (N:=some 111) (v:=undef) (a':=?_) #[tt,tt,tt,tt,tt,tt,tt,tt,tt,tt,tt,tt,tt,tt,tt,tt,tt,tt,tt,tt,tt,tt,tt,tt,tt,tt,tt,tt,tt,tt,tt,tt,tt,ff] rfl rfl (any_of HT_.out (by kernel_rfl)) (fun _ _ _ h => h) (Or.inr ⟨by rfl,rfl⟩) ?_ ?_
  rotate_left
  ·simp only [Act.put,sA,sZ,sS]
   rfl
  refine pure_ (i:=33) (N:=some 112) (v:=?_) (a':=?_) #[tt,tt,tt,tt,tt,tt,tt,tt,tt,tt,tt,tt,tt,tt,tt,tt,tt,tt,tt,tt,tt,tt,tt,tt,tt,tt,tt,tt,tt,tt,tt,tt,tt,tt] rfl rfl (any_of HT_.out (by kernel_rfl)) (fun _ _ _ h => h) (Or.inl ⟨by rfl,?_⟩) ?_ ?_
  rotate_left
  ·intro w'
   go_simp
   with_reducible rfl
  rotate_left
  ·simp only [Act.put,sA,sZ,sS,i64_w,i32_w]
   rfl
  refine done_ (done_of HT_.out (by kernel_rfl)) ?_
  go_wp2
  go_ret
  exact ⟨by rw [Hv.out];simp,keep_below hB hX⟩
 refine pure_ (i:=9) (N:=some 88) (v:=?_) (a':=?_) #[tt,tt,tt,tt,tt,tt,tt,tt,tt,tt,ff,ff,ff,ff,ff,ff,ff,ff,ff,ff,ff,ff,ff,ff,ff,ff,ff,ff,ff,ff,ff,ff,ff,ff] rfl rfl (any_of HT_.out (by kernel_rfl)) (fun _ _ _ h => h) (Or.inl ⟨by rfl,?_⟩) ?_ ?_
 rotate_left
 ·intro w'
  go_simp
  with_reducible rfl
 rotate_left
 ·simp only [Act.put,sA,sZ,sS,i64_w,i32_w]
  rfl
 refine pure_ (i:=10) (N:=some 89) (v:=?_) (a':=?_) #[tt,tt,tt,tt,tt,tt,tt,tt,tt,tt,tt,ff,ff,ff,ff,ff,ff,ff,ff,ff,ff,ff,ff,ff,ff,ff,ff,ff,ff,ff,ff,ff,ff,ff] rfl rfl (any_of HT_.out (by kernel_rfl)) (fun _ _ _ h => h) (Or.inl ⟨by rfl,?_⟩) ?_ ?_
 rotate_left
 ·intro w'
  go_simp
  with_reducible rfl
 rotate_left
 ·simp only [Act.put,sA,sZ,sS,i64_w,i32_w]
  rfl
 refine pure_ (i:=11) (N:=some 90) (v:=?_) (a':=?_) #[tt,tt,tt,tt,tt,tt,tt,tt,tt,tt,tt,tt,ff,ff,ff,ff,ff,ff,ff,ff,ff,ff,ff,ff,ff,ff,ff,ff,ff,ff,ff,ff,ff,ff] rfl rfl (any_of HT_.out (by kernel_rfl)) (fun _ _ _ h => h) (Or.inl ⟨by rfl,?_⟩) ?_ ?_
 rotate_left
 ·intro w'
  go_simp
  with_reducible rfl
 rotate_left
 ·simp only [Act.put,sA,sZ,sS,i64_w,i32_w]
  rfl
 refine pure_ (i:=12) (N:=some 91) (v:=?_) (a':=?_) #[tt,tt,tt,tt,tt,tt,tt,tt,tt,tt,tt,tt,tt,ff,ff,ff,ff,ff,ff,ff,ff,ff,ff,ff,ff,ff,ff,ff,ff,ff,ff,ff,ff,ff] rfl rfl (any_of HT_.out (by kernel_rfl)) (fun _ _ _ h => h) (Or.inl ⟨by rfl,?_⟩) ?_ ?_
 rotate_left
 ·intro w'
  go_simp
  with_reducible rfl
 rotate_left
 ·simp only [Act.put,sA,sZ,sS,i64_w,i32_w]
  rfl
 refine pure_ (i:=13) (N:=some 92) (v:=?_) (a':=?_) #[tt,tt,tt,tt,tt,tt,tt,tt,tt,tt,tt,tt,tt,tt,ff,ff,ff,ff,ff,ff,ff,ff,ff,ff,ff,ff,ff,ff,ff,ff,ff,ff,ff,ff] rfl rfl (any_of HT_.out (by kernel_rfl)) (fun _ _ _ h => h) (Or.inl ⟨by rfl,?_⟩) ?_ ?_
 rotate_left
 ·intro w'
  go_simp
  with_reducible rfl
 rotate_left
 ·simp only [Act.put,sA,sZ,sS,i64_w,i32_w]
  rfl
 refine take_ (i:=14) (N:=some 93) (v:=?_) (a':=?_) #[tt,tt,tt,tt,tt,tt,tt,tt,tt,tt,tt,tt,tt,tt,tt,ff,ff,ff,ff,ff,ff,ff,ff,ff,ff,ff,ff,ff,ff,ff,ff,ff,ff,ff] rfl rfl (take_ofW HT_.out HW_.out (by kernel_rfl)) (fun _ _ _ h => h) (Or.inl ⟨by rfl,?_⟩) hHeld ?_ ?_
 rotate_left
 ·rintro w' s0
  have m0:=keep_cell s0 c0
  have m2:=keep_cell s0 c2
  have m4:=keep_cell s0 c4
  have m5:=keep_cell s0 c5
  have m6:=keep_cell s0 c6
  have m7:=keep_cell s0 c7
  have m8:=keep_cell s0 c8
  have m9:=keep_cell s0 c9
  have m10:=keep_cell s0 c10
  have m11:=keep_cell s0 c11
  have m12:=keep_cell s0 c12
  go_simp
  with_reducible rfl
 rotate_left
 ·simp only [Act.put,sA,sZ,sS,i64_w,i32_w]
  rfl
 refine pure_ (i:=15) (N:=some 94) (v:=?_) (a':=?_) #[tt,tt,tt,tt,tt,tt,tt,tt,tt,tt,tt,tt,tt,tt,tt,tt,ff,ff,ff,ff,ff,ff,ff,ff,ff,ff,ff,ff,ff,ff,ff,ff,ff,ff] rfl rfl (any_of HT_.out (by kernel_rfl)) (fun _ _ _ h => h) (Or.inl ⟨by rfl,?_⟩) ?_ ?_
 rotate_left
 ·intro w'
  go_simp
  with_reducible rfl
 rotate_left
 ·simp only [Act.put,sA,sZ,sS,i64_w,i32_w]
  rfl
 refine pure_ (i:=16) (N:=some 95) (v:=?_) (a':=?_) #[tt,tt,tt,tt,tt,tt,tt,tt,tt,tt,tt,tt,tt,tt,tt,tt,tt,ff,ff,ff,ff,ff,ff,ff,ff,ff,ff,ff,ff,ff,ff,ff,ff,ff] rfl rfl (any_of HT_.out (by kernel_rfl)) (fun _ _ _ h => h) (Or.inl ⟨by rfl,?_⟩) ?_ ?_
 rotate_left
 ·intro w'
  go_simp
  with_reducible rfl
 rotate_left
 ·simp only [Act.put,sA,sZ,sS,i64_w,i32_w]
  rfl
 refine take_ (i:=17) (N:=some 96) (v:=?_) (a':=?_) #[tt,tt,tt,tt,tt,tt,tt,tt,tt,tt,tt,tt,tt,tt,tt,tt,tt,tt,ff,ff,ff,ff,ff,ff,ff,ff,ff,ff,ff,ff,ff,ff,ff,ff] rfl rfl (take_ofW HT_.out HW_.out (by kernel_rfl)) (fun _ _ _ h => h) (Or.inl ⟨by rfl,?_⟩) hHeld ?_ ?_
 rotate_left
 ·rintro w' s0
  have m0:=keep_cell s0 c0
  have m2:=keep_cell s0 c2
  have m4:=keep_cell s0 c4
  have m5:=keep_cell s0 c5
  have m6:=keep_cell s0 c6
  have m7:=keep_cell s0 c7
  have m8:=keep_cell s0 c8
  have m9:=keep_cell s0 c9
  have m10:=keep_cell s0 c10
  have m11:=keep_cell s0 c11
  have m12:=keep_cell s0 c12
  go_simp
  with_reducible rfl
 rotate_left
 ·simp only [Act.put,sA,sZ,sS,i64_w,i32_w]
  rfl
 refine pure_ (i:=18) (N:=some 97) (v:=?_) (a':=?_) #[tt,tt,tt,tt,tt,tt,tt,tt,tt,tt,tt,tt,tt,tt,tt,tt,tt,tt,tt,ff,ff,ff,ff,ff,ff,ff,ff,ff,ff,ff,ff,ff,ff,ff] rfl rfl (any_of HT_.out (by kernel_rfl)) (fun _ _ _ h => h) (Or.inl ⟨by rfl,?_⟩) ?_ ?_
 rotate_left
 ·intro w'
  go_simp
  with_reducible rfl
 rotate_left
 ·simp only [Act.put,sA,sZ,sS,i64_w,i32_w]
  rfl
 refine take_ (i:=19) (N:=some 98) (v:=?_) (a':=?_) #[tt,tt,tt,tt,tt,tt,tt,tt,tt,tt,tt,tt,tt,tt,tt,tt,tt,tt,tt,tt,ff,ff,ff,ff,ff,ff,ff,ff,ff,ff,ff,ff,ff,ff] rfl rfl (take_ofW HT_.out HW_.out (by kernel_rfl)) (fun _ _ _ h => h) (Or.inl ⟨by rfl,?_⟩) hHeld ?_ ?_
 rotate_left
 ·rintro w' s0
  have m0:=keep_cell s0 c0
  have m2:=keep_cell s0 c2
  have m4:=keep_cell s0 c4
  have m5:=keep_cell s0 c5
  have m6:=keep_cell s0 c6
  have m7:=keep_cell s0 c7
  have m8:=keep_cell s0 c8
  have m9:=keep_cell s0 c9
  have m10:=keep_cell s0 c10
  have m11:=keep_cell s0 c11
  have m12:=keep_cell s0 c12
  go_simp
  with_reducible rfl
 rotate_left
 ·simp only [Act.put,sA,sZ,sS,i64_w,i32_w]
  rfl
 refine one_ (i:=20) (N:=some 99) #[tt,tt,tt,tt,tt,tt,tt,tt,tt,tt,tt,tt,tt,tt,tt,tt,tt,tt,tt,tt,tt,ff,ff,ff,ff,ff,ff,ff,ff,ff,ff,ff,ff,ff] rfl rfl (one_of HT_.out (by kernel_rfl)) (by decide) (fun K hK => ?_)
 refine goes_ Tryd.func18 (by kernel_rfl) rfl #[.bool (s.f4.f0 != 1),.bool s.f2,.int .i64 1,.agg #[.int .i64 s.f4.f0,.bool s.f4.f1,.int .u32 s.f4.f2,.int .i64 s.f4.f3.f0,.int .i64 s.f4.f3.f1,.int .i64 s.f4.f3.f2,.int .i64 s.f4.f3.f3,.int .i64 s.f4.f4]] (by rfl) rfl rfl (by (try simp only [List.map_toArray,List.map_cons,List.map_nil]);first|done|rfl) ?_
 refine (rrefuse_x _ her).out.mono ?_
 rintro e_ w9 ⟨rfl,hb9⟩
 refine ⟨_,rfl,?_⟩
 replace hX:=keep_below hX hb9
 clear hb9
 refine hK.out _ _ hX (fun hHeld => ?_)
 clear hK K
 refine norm_ (a':=?_) ?_ ?_
 rotate_left
 ·first|(show Act.put _ (some 99) _ = _;simp only [Act.put,sA,sZ,sS,i64_w,i32_w];rfl)|with_reducible rfl
 clear her
 by_cases h0 : er = 0
 case neg =>
  have dr : (er != 0) = true:=bne_iff_ne.mpr h0
  clear h0
  refine pure_ (i:=21) (N:=some 100) (v:=?_) (a':=?_) #[tt,tt,tt,tt,tt,tt,tt,tt,tt,tt,tt,tt,tt,tt,tt,tt,tt,tt,tt,tt,tt,tt,ff,ff,ff,ff,ff,ff,ff,ff,ff,ff,ff,ff] rfl rfl (any_of HT_.out (by kernel_rfl)) (fun _ _ _ h => h) (Or.inl ⟨by rfl,?_⟩) ?_ ?_
  rotate_left
  ·intro w'
   go_simp
   with_reducible rfl
  rotate_left
  ·simp only [Act.put,sA,sZ,sS,i64_w,i32_w]
   rfl
  refine pure_ (i:=22) (N:=some 101) (v:=?_) (a':=?_) #[tt,tt,tt,tt,tt,tt,tt,tt,tt,tt,tt,tt,tt,tt,tt,tt,tt,tt,tt,tt,tt,tt,tt,ff,ff,ff,ff,ff,ff,ff,ff,ff,ff,ff] rfl rfl (any_of HT_.out (by kernel_rfl)) (fun _ _ _ h => h) (Or.inl ⟨by rfl,?_⟩) ?_ ?_
  rotate_left
  ·intro w'
   go_simp
   with_reducible rfl
  rotate_left
  ·simp only [Act.put,sA,sZ,sS,i64_w,i32_w]
   rfl
  refine pure_ (i:=23) (N:=some 102) (v:=?_) (a':=?_) #[tt,tt,tt,tt,tt,tt,tt,tt,tt,tt,tt,tt,tt,tt,tt,tt,tt,tt,tt,tt,tt,tt,tt,tt,ff,ff,ff,ff,ff,ff,ff,ff,ff,ff] rfl rfl (any_of HT_.out (by kernel_rfl)) (fun _ _ _ h => h) (Or.inl ⟨by rfl,?_⟩) ?_ ?_
  rotate_left
  ·intro w'
   go_simp
   with_reducible rfl
  rotate_left
  ·simp only [Act.put,sA,sZ,sS,i64_w,i32_w]
   rfl
  refine pure_ (i:=24) (N:=some 103) (v:=undef) (a':=?_) #[tt,tt,tt,tt,tt,tt,tt,tt,tt,tt,tt,tt,tt,tt,tt,tt,tt,tt,tt,tt,tt,tt,tt,tt,tt,ff,ff,ff,ff,ff,ff,ff,ff,ff] rfl rfl (any_of HT_.out (by kernel_rfl)) (fun _ _ _ h => h) (Or.inr ⟨by rfl,rfl⟩) ?_ ?_
  rotate_left
  ·simp only [Act.put,sA,sZ,sS]
   rfl
  refine pure_ (i:=25) (N:=some 104) (v:=undef) (a':=?_) #[tt,tt,tt,tt,tt,tt,tt,tt,tt,tt,tt,tt,tt,tt,tt,tt,tt,tt,tt,tt,tt,tt,tt,tt,tt,tt,ff,ff,ff,ff,ff,ff,ff,ff] rfl rfl (any_of HT_.out (by kernel_rfl)) (fun _ _ _ h => h) (Or.inr ⟨by rfl,rfl⟩) ?_ ?_
  rotate_left
  ·simp only [Act.put,sA,sZ,sS]
   rfl
  refine pure_ (i:=26) (N:=some 105) (v:=undef) (a':=?_) #[tt,tt,tt,tt,tt,tt,tt,tt,tt,tt,tt,tt,tt,tt,tt,tt,tt,tt,tt,tt,tt,tt,tt,tt,tt,tt,tt,ff,ff,ff,ff,ff,ff,ff] rfl rfl (any_of HT_.out (by kernel_rfl)) (fun _ _ _ h => h) (Or.inr ⟨by rfl,rfl⟩) ?_ ?_
  rotate_left
  ·simp only [Act.put,sA,sZ,sS]
   rfl
  refine pure_ (i:=27) (N:=some 106) (v:=undef) (a':=?_) #[tt,tt,tt,tt,tt,tt,tt,tt,tt,tt,tt,tt,tt,tt,tt,tt,tt,tt,tt,tt,tt,tt,tt,tt,tt,tt,tt,tt,ff,ff,ff,ff,ff,ff] rfl rfl (any_of HT_.out (by kernel_rfl)) (fun _ _ _ h => h) (Or.inr ⟨by rfl,rfl⟩) ?_ ?_
  rotate_left
  ·simp only [Act.put,sA,sZ,sS]
   rfl
  refine pure_ (i:=28) (N:=some 107) (v:=undef) (a':=?_) #[tt,tt,tt,tt,tt,tt,tt,tt,tt,tt,tt,tt,tt,tt,tt,tt,tt,tt,tt,tt,tt,tt,tt,tt,tt,tt,tt,tt,tt,ff,ff,ff,ff,ff] rfl rfl (any_of HT_.out (by kernel_rfl)) (fun _ _ _ h => h) (Or.inr ⟨by rfl,rfl⟩) ?_ ?_
  rotate_left
  ·simp only [Act.put,sA,sZ,sS]
   rfl
  refine pure_ (i:=29) (N:=some 108) (v:=undef) (a':=?_) #[tt,tt,tt,tt,tt,tt,tt,tt,tt,tt,tt,tt,tt,tt,tt,tt,tt,tt,tt,tt,tt,tt,tt,tt,tt,tt,tt,tt,tt,tt,ff,ff,ff,ff] rfl rfl (any_of HT_.out (by kernel_rfl)) (fun _ _ _ h => h) (Or.inr ⟨by rfl,rfl⟩) ?_ ?_
  rotate_left
  ·simp only [Act.put,sA,sZ,sS]
   rfl
  refine pure_ (i:=30) (N:=some 109) (v:=undef) (a':=?_) #[tt,tt,tt,tt,tt,tt,tt,tt,tt,tt,tt,tt,tt,tt,tt,tt,tt,tt,tt,tt,tt,tt,tt,tt,tt,tt,tt,tt,tt,tt,tt,ff,ff,ff] rfl rfl (any_of HT_.out (by kernel_rfl)) (fun _ _ _ h => h) (Or.inr ⟨by rfl,rfl⟩) ?_ ?_
  rotate_left
  ·simp only [Act.put,sA,sZ,sS]
   rfl
  refine pure_ (i:=31) (N:=some 110) (v:=undef) (a':=?_) #[tt,tt,tt,tt,tt,tt,tt,tt,tt,tt,tt,tt,tt,tt,tt,tt,tt,tt,tt,tt,tt,tt,tt,tt,tt,tt,tt,tt,tt,tt,tt,tt,ff,ff] rfl rfl (any_of HT_.out (by kernel_rfl)) (fun _ _ _ h => h) (Or.inr ⟨by rfl,rfl⟩) ?_ ?_
  rotate_left
  ·simp only [Act.put,sA,sZ,sS]
   rfl
  refine pure_ (i:=32) (N:=some 111) (v:=undef) (a':=?_) #[tt,tt,tt,tt,tt,tt,tt,tt,tt,tt,tt,tt,tt,tt,tt,tt,tt,tt,tt,tt,tt,tt,tt,tt,tt,tt,tt,tt,tt,tt,tt,tt,tt,ff] rfl rfl (any_of HT_.out (by kernel_rfl)) (fun _ _ _ h => h) (Or.inr ⟨by rfl,rfl⟩) ?_ ?_
  rotate_left
  ·simp only [Act.put,sA,sZ,sS]
   rfl
  refine pure_ (i:=33) (N:=some 112) (v:=?_) (a':=?_) #[tt,tt,tt,tt,tt,tt,tt,tt,tt,tt,tt,tt,tt,tt,tt,tt,tt,tt,tt,tt,tt,tt,tt,tt,tt,tt,tt,tt,tt,tt,tt,tt,tt,tt] rfl rfl (any_of HT_.out (by kernel_rfl)) (fun _ _ _ h => h) (Or.inl ⟨by rfl,?_⟩) ?_ ?_
  rotate_left
  ·intro w'
   go_simp
   with_reducible rfl
  rotate_left
  ·simp only [Act.put,sA,sZ,sS,i64_w,i32_w]
   rfl
  refine done_ (done_of HT_.out (by kernel_rfl)) ?_
  go_wp2
  go_ret
  exact ⟨by rw [Hv.out];simp [bne_iff_ne.mp dr],keep_below hB hX⟩
 have dr : (er != 0) = false:=by simp [h0]
 have HR:=Lib.hid h0
 clear h0
 refine pure_ (i:=21) (N:=some 100) (v:=?_) (a':=?_) #[tt,tt,tt,tt,tt,tt,tt,tt,tt,tt,tt,tt,tt,tt,tt,tt,tt,tt,tt,tt,tt,tt,ff,ff,ff,ff,ff,ff,ff,ff,ff,ff,ff,ff] rfl rfl (any_of HT_.out (by kernel_rfl)) (fun _ _ _ h => h) (Or.inl ⟨by rfl,?_⟩) ?_ ?_
 rotate_left
 ·intro w'
  go_simp
  with_reducible rfl
 rotate_left
 ·simp only [Act.put,sA,sZ,sS,i64_w,i32_w]
  rfl
 refine pure_ (i:=22) (N:=some 101) (v:=?_) (a':=?_) #[tt,tt,tt,tt,tt,tt,tt,tt,tt,tt,tt,tt,tt,tt,tt,tt,tt,tt,tt,tt,tt,tt,tt,ff,ff,ff,ff,ff,ff,ff,ff,ff,ff,ff] rfl rfl (any_of HT_.out (by kernel_rfl)) (fun _ _ _ h => h) (Or.inl ⟨by rfl,?_⟩) ?_ ?_
 rotate_left
 ·intro w'
  go_simp
  with_reducible rfl
 rotate_left
 ·simp only [Act.put,sA,sZ,sS,i64_w,i32_w]
  rfl
 refine pure_ (i:=23) (N:=some 102) (v:=?_) (a':=?_) #[tt,tt,tt,tt,tt,tt,tt,tt,tt,tt,tt,tt,tt,tt,tt,tt,tt,tt,tt,tt,tt,tt,tt,tt,ff,ff,ff,ff,ff,ff,ff,ff,ff,ff] rfl rfl (any_of HT_.out (by kernel_rfl)) (fun _ _ _ h => h) (Or.inl ⟨by rfl,?_⟩) ?_ ?_
 rotate_left
 ·intro w'
  go_simp
  with_reducible rfl
 rotate_left
 ·simp only [Act.put,sA,sZ,sS,i64_w,i32_w]
  rfl
 refine pure_ (i:=24) (N:=some 103) (v:=?_) (a':=?_) #[tt,tt,tt,tt,tt,tt,tt,tt,tt,tt,tt,tt,tt,tt,tt,tt,tt,tt,tt,tt,tt,tt,tt,tt,tt,ff,ff,ff,ff,ff,ff,ff,ff,ff] rfl rfl (any_of HT_.out (by kernel_rfl)) (fun _ _ _ h => h) (Or.inl ⟨by rfl,?_⟩) ?_ ?_
 rotate_left
 ·intro w'
  go_simp
  with_reducible rfl
 rotate_left
 ·simp only [Act.put,sA,sZ,sS,i64_w,i32_w]
  rfl
 refine pure_ (i:=25) (N:=some 104) (v:=?_) (a':=?_) #[tt,tt,tt,tt,tt,tt,tt,tt,tt,tt,tt,tt,tt,tt,tt,tt,tt,tt,tt,tt,tt,tt,tt,tt,tt,tt,ff,ff,ff,ff,ff,ff,ff,ff] rfl rfl (any_of HT_.out (by kernel_rfl)) (fun _ _ _ h => h) (Or.inl ⟨by rfl,?_⟩) ?_ ?_
 rotate_left
 ·intro w'
  go_simp
  with_reducible rfl
 rotate_left
 ·simp only [Act.put,sA,sZ,sS,i64_w,i32_w]
  rfl
 refine take_ (i:=26) (N:=some 105) (v:=?_) (a':=?_) #[tt,tt,tt,tt,tt,tt,tt,tt,tt,tt,tt,tt,tt,tt,tt,tt,tt,tt,tt,tt,tt,tt,tt,tt,tt,tt,tt,ff,ff,ff,ff,ff,ff,ff] rfl rfl (take_ofW HT_.out HW_.out (by kernel_rfl)) (fun _ _ _ h => h) (Or.inl ⟨by rfl,?_⟩) hHeld ?_ ?_
 rotate_left
 ·rintro w' s0
  have m0:=keep_cell s0 c0
  have m2:=keep_cell s0 c2
  have m4:=keep_cell s0 c4
  have m5:=keep_cell s0 c5
  have m6:=keep_cell s0 c6
  have m7:=keep_cell s0 c7
  have m8:=keep_cell s0 c8
  have m9:=keep_cell s0 c9
  have m10:=keep_cell s0 c10
  have m11:=keep_cell s0 c11
  have m12:=keep_cell s0 c12
  go_simp
  with_reducible rfl
 rotate_left
 ·simp only [Act.put,sA,sZ,sS,i64_w,i32_w]
  rfl
 refine pure_ (i:=27) (N:=some 106) (v:=?_) (a':=?_) #[tt,tt,tt,tt,tt,tt,tt,tt,tt,tt,tt,tt,tt,tt,tt,tt,tt,tt,tt,tt,tt,tt,tt,tt,tt,tt,tt,tt,ff,ff,ff,ff,ff,ff] rfl rfl (any_of HT_.out (by kernel_rfl)) (fun _ _ _ h => h) (Or.inl ⟨by rfl,?_⟩) ?_ ?_
 rotate_left
 ·intro w'
  go_simp
  with_reducible rfl
 rotate_left
 ·simp only [Act.put,sA,sZ,sS,i64_w,i32_w]
  rfl
 refine take_ (i:=28) (N:=some 107) (v:=?_) (a':=?_) #[tt,tt,tt,tt,tt,tt,tt,tt,tt,tt,tt,tt,tt,tt,tt,tt,tt,tt,tt,tt,tt,tt,tt,tt,tt,tt,tt,tt,tt,ff,ff,ff,ff,ff] rfl rfl (take_ofW HT_.out HW_.out (by kernel_rfl)) (fun _ _ _ h => h) (Or.inl ⟨by rfl,?_⟩) hHeld ?_ ?_
 rotate_left
 ·rintro w' s0
  have m0:=keep_cell s0 c0
  have m2:=keep_cell s0 c2
  have m4:=keep_cell s0 c4
  have m5:=keep_cell s0 c5
  have m6:=keep_cell s0 c6
  have m7:=keep_cell s0 c7
  have m8:=keep_cell s0 c8
  have m9:=keep_cell s0 c9
  have m10:=keep_cell s0 c10
  have m11:=keep_cell s0 c11
  have m12:=keep_cell s0 c12
  go_simp
  with_reducible rfl
 rotate_left
 ·simp only [Act.put,sA,sZ,sS,i64_w,i32_w]
  rfl
 refine pure_ (i:=29) (N:=some 108) (v:=?_) (a':=?_) #[tt,tt,tt,tt,tt,tt,tt,tt,tt,tt,tt,tt,tt,tt,tt,tt,tt,tt,tt,tt,tt,tt,tt,tt,tt,tt,tt,tt,tt,tt,ff,ff,ff,ff] rfl rfl (any_of HT_.out (by kernel_rfl)) (fun _ _ _ h => h) (Or.inl ⟨by rfl,?_⟩) ?_ ?_
 rotate_left
 ·intro w'
  go_simp
  with_reducible rfl
 rotate_left
 ·simp only [Act.put,sA,sZ,sS,i64_w,i32_w]
  rfl
 refine take_ (i:=30) (N:=some 109) (v:=?_) (a':=?_) #[tt,tt,tt,tt,tt,tt,tt,tt,tt,tt,tt,tt,tt,tt,tt,tt,tt,tt,tt,tt,tt,tt,tt,tt,tt,tt,tt,tt,tt,tt,tt,ff,ff,ff] rfl rfl (take_ofW HT_.out HW_.out (by kernel_rfl)) (fun _ _ _ h => h) (Or.inl ⟨by rfl,?_⟩) hHeld ?_ ?_
 rotate_left
 ·rintro w' s0
  have m0:=keep_cell s0 c0
  have m2:=keep_cell s0 c2
  have m4:=keep_cell s0 c4
  have m5:=keep_cell s0 c5
  have m6:=keep_cell s0 c6
  have m7:=keep_cell s0 c7
  have m8:=keep_cell s0 c8
  have m9:=keep_cell s0 c9
  have m10:=keep_cell s0 c10
  have m11:=keep_cell s0 c11
  have m12:=keep_cell s0 c12
  go_simp
  with_reducible rfl
 rotate_left
 ·simp only [Act.put,sA,sZ,sS,i64_w,i32_w]
  rfl
 refine one_ (i:=31) (N:=some 110) #[tt,tt,tt,tt,tt,tt,tt,tt,tt,tt,tt,tt,tt,tt,tt,tt,tt,tt,tt,tt,tt,tt,tt,tt,tt,tt,tt,tt,tt,tt,tt,tt,ff,ff] rfl rfl (one_of HT_.out (by kernel_rfl)) (by decide) (fun K hK => ?_)
 refine goes_ Tryd.func38 (by kernel_rfl) rfl #[.int .i64 s.f4.f0,.int .i64 s.f5,.bool s.f2] (by rfl) rfl rfl (by (try simp only [List.map_toArray,List.map_cons,List.map_nil]);first|done|rfl) ?_
 refine (rkind_c _ _ _ _).out.mono ?_
 rintro e_ w9 ⟨rfl,hb9⟩
 refine ⟨_,rfl,?_⟩
 rw [hkd]
 replace hX:=keep_below hX hb9
 clear hb9
 refine hK.out _ _ hX (fun hHeld => ?_)
 clear hK K
 refine norm_ (a':=?_) ?_ ?_
 rotate_left
 ·first|(show Act.put _ (some 110) _ = _;simp only [Act.put,sA,sZ,sS,i64_w,i32_w];rfl)|with_reducible rfl
 clear hkd
 by_cases h0 : kd = 0
 case pos =>
  have dk : (kd == 0) = true:=beq_iff_eq.mpr h0
  have HK:=Lib.hid h0
  clear h0
  refine pure_ (i:=32) (N:=some 111) (v:=?_) (a':=?_) #[tt,tt,tt,tt,tt,tt,tt,tt,tt,tt,tt,tt,tt,tt,tt,tt,tt,tt,tt,tt,tt,tt,tt,tt,tt,tt,tt,tt,tt,tt,tt,tt,tt,ff] rfl rfl (any_of HT_.out (by kernel_rfl)) (fun _ _ _ h => h) (Or.inl ⟨by rfl,?_⟩) ?_ ?_
  rotate_left
  ·intro w'
   go_simp
   with_reducible rfl
  rotate_left
  ·simp only [Act.put,sA,sZ,sS,i64_w,i32_w]
   rfl
  refine pure_ (i:=33) (N:=some 112) (v:=?_) (a':=?_) #[tt,tt,tt,tt,tt,tt,tt,tt,tt,tt,tt,tt,tt,tt,tt,tt,tt,tt,tt,tt,tt,tt,tt,tt,tt,tt,tt,tt,tt,tt,tt,tt,tt,tt] rfl rfl (any_of HT_.out (by kernel_rfl)) (fun _ _ _ h => h) (Or.inl ⟨by rfl,?_⟩) ?_ ?_
  rotate_left
  ·intro w'
   go_simp
   with_reducible rfl
  rotate_left
  ·simp only [Act.put,sA,sZ,sS,i64_w,i32_w]
   rfl
  refine done_ (done_of HT_.out (by kernel_rfl)) ?_
  go_wp2
  go_ret
  exact ⟨by rw [Hv.out];simp [HK.out],keep_below hB hX⟩
 have dk : (kd == 0) = false:=beq_eq_false_iff_ne.mpr h0
 have HK:=Lib.hid h0
 clear h0
 refine pure_ (i:=32) (N:=some 111) (v:=?_) (a':=?_) #[tt,tt,tt,tt,tt,tt,tt,tt,tt,tt,tt,tt,tt,tt,tt,tt,tt,tt,tt,tt,tt,tt,tt,tt,tt,tt,tt,tt,tt,tt,tt,tt,tt,ff] rfl rfl (any_of HT_.out (by kernel_rfl)) (fun _ _ _ h => h) (Or.inl ⟨by rfl,?_⟩) ?_ ?_
 rotate_left
 ·intro w'
  go_simp
  with_reducible rfl
 rotate_left
 ·simp only [Act.put,sA,sZ,sS,i64_w,i32_w]
  rfl
 refine pure_ (i:=33) (N:=some 112) (v:=?_) (a':=?_) #[tt,tt,tt,tt,tt,tt,tt,tt,tt,tt,tt,tt,tt,tt,tt,tt,tt,tt,tt,tt,tt,tt,tt,tt,tt,tt,tt,tt,tt,tt,tt,tt,tt,tt] rfl rfl (any_of HT_.out (by kernel_rfl)) (fun _ _ _ h => h) (Or.inl ⟨by rfl,?_⟩) ?_ ?_
 rotate_left
 ·intro w'
  go_simp
  with_reducible rfl
 rotate_left
 ·simp only [Act.put,sA,sZ,sS,i64_w,i32_w]
  rfl
 refine done_ (done_of HT_.out (by kernel_rfl)) ?_
 replace Hv:=Lib.hid (Hv.out.trans (show _ = ((if s.f4.f0 = 1 then i else t) && ((if s.f4.f0 = 4∧s.f5 = 1 then cb && kq else z) && (if s.f4.f0 = 4∧s.f5 = 2 then decide (0 < s.f7.length) && rb else decide (s.f7.length = 0)))) by simp [HR.out,HK.out]))
 clear HR HK dr dk dq
 clear c0 c2 c4 c5 c6 c7 c8 c9 c10 c11 c12
 replace b:=b.keep hX
 replace hI:=hI.below hX
 replace hB:=keep_below hB hX
 clear hX hHeld b6
 have c4:=sc4 b
 have c12:=sc12 b
 have c19:=sc19 b
 by_cases s1 : s.f4.f0 = 1
 case pos =>
  have g1 : (s.f4.f0 == 1) = true:=beq_iff_eq.mpr s1
  have g2 : (s.f4.f0 != 1) = false:=by simp [s1]
  have g4 : (s.f4.f0 == 4) = false:=by simp [s1]
  replace Hv:=Lib.hid (Hv.out.trans (show _ = (i && (z && decide (s.f7.length = 0))) by simp [s1]))
  clear s1
  cases i
  case false =>
   skip
   go_wp2
   go_ret
   exact ⟨by rw [Hv.out];simp,hB⟩
  cases z
  case false =>
   skip
   go_wp2
   go_ret
   exact ⟨by rw [Hv.out];simp,hB⟩
  by_cases hl7 : s.f7.length = 0
  case neg =>
   have dl : ((s.f7.length : Int) == 0) = false:=beq_eq_false_iff_ne.mpr (by omega)
   have HL:=Lib.hid hl7
   clear hl7
   go_wp2
   go_ret
   exact ⟨by rw [Hv.out];simp [HL.out],hB⟩
  have dl : ((s.f7.length : Int) == 0) = true:=beq_iff_eq.mpr (by omega)
  have HL:=Lib.hid hl7
  clear hl7
  go_wp2
  go_ret
  exact ⟨by rw [Hv.out];simp [HL.out],hB⟩
 have g1 : (s.f4.f0 == 1) = false:=beq_eq_false_iff_ne.mpr s1
 have g2 : (s.f4.f0 != 1) = true:=bne_iff_ne.mpr s1
 replace Hv:=Lib.hid (Hv.out.trans (show _ = (t && ((if s.f4.f0 = 4∧s.f5 = 1 then cb && kq else z) && (if s.f4.f0 = 4∧s.f5 = 2 then decide (0 < s.f7.length) && rb else decide (s.f7.length = 0)))) by rw [if_neg s1]))
 clear s1
 cases t
 case false =>
  skip
  go_wp2
  go_ret
  exact ⟨by rw [Hv.out];simp,hB⟩
 by_cases s4 : s.f4.f0 = 4
 case neg =>
  have g4 : (s.f4.f0 == 4) = false:=beq_eq_false_iff_ne.mpr s4
  replace Hv:=Lib.hid (Hv.out.trans (show _ = (z && decide (s.f7.length = 0)) by simp [s4]))
  clear s4
  cases z
  case false =>
   skip
   go_wp2
   go_ret
   exact ⟨by rw [Hv.out];simp,hB⟩
  by_cases hl7 : s.f7.length = 0
  case neg =>
   have dl : ((s.f7.length : Int) == 0) = false:=beq_eq_false_iff_ne.mpr (by omega)
   have HL:=Lib.hid hl7
   clear hl7
   go_wp2
   go_ret
   exact ⟨by rw [Hv.out];simp [HL.out],hB⟩
  have dl : ((s.f7.length : Int) == 0) = true:=beq_iff_eq.mpr (by omega)
  have HL:=Lib.hid hl7
  clear hl7
  go_wp2
  go_ret
  exact ⟨by rw [Hv.out];simp [HL.out],hB⟩
 have g4 : (s.f4.f0 == 4) = true:=beq_iff_eq.mpr s4
 by_cases s5 : s.f5 = 1
 case pos =>
  have g5 : (s.f5 == 1) = true:=beq_iff_eq.mpr s5
  have g6 : (s.f5 == 2) = false:=by simp [s5]
  replace Hv:=Lib.hid (Hv.out.trans (show _ = ((cb && kq) && decide (s.f7.length = 0)) by simp [s4,s5]))
  clear s4 s5
  have HC:=rright_c hk.1 hI
  rw [hcb] at HC
  clear hcb
  go_upto_region 12 with fail
  refine wp_region_list ?_
  refine pl_val (N:=some 140) (v:=?_) (a':=?_) rfl (by rfl) ?_ ?_ ?_
  rotate_left
  ·go_simp
   with_reducible rfl
  rotate_left
  ·simp only [Act.put,sA,sZ,sS,i64_w,i32_w]
   rfl
  refine pl_val (N:=some 141) (v:=.agg (cv s.f6 p)) (a':=?_) rfl (by rfl) (load_sub_run (g:=w.heap.size) (off:=13) 31 _ rfl rfl 33 (cv s.f6 p) _ (b) (sv_cur s p) Tryd.underlying31 rfl (by first|kernel_rfl|rfl)) ?_ ?_
  rotate_left
  ·simp only [Act.put,sA,sZ,sS,i64_w,i32_w]
   rfl
  refine pl_call Tryd.func23 (by kernel_rfl) rfl #[.agg (cv s.f6 p)] (by rfl) rfl rfl (by (try simp only [List.map_toArray,List.map_cons,List.map_nil]);first|done|rfl) ?_
  refine HC.out.mono ?_
  rintro e_ w2_ ⟨rfl,hb⟩
  refine ⟨_,rfl,?_⟩
  clear c4 c12 c19
  replace b:=b.keep hb
  replace hB:=keep_below hB hb
  clear hb HC
  have c4:=sc4 b
  have c7:=sc7 b
  have c8:=sc8 b
  have c9:=sc9 b
  have c10:=sc10 b
  have c12:=sc12 b
  have c13:=sc13 b
  have c14:=sc14 b
  have c15:=sc15 b
  have c16:=sc16 b
  have c19:=sc19 b
  refine pl_norm (a':=?_) ?_ ?_
  rotate_left
  ·first|(show Act.put _ (some 142) _ = _;simp only [Act.put,sA,sZ,sS,i64_w,i32_w];rfl)|with_reducible rfl
  refine pl_val (N:=some 143) (v:=?_) (a':=?_) rfl (by rfl) ?_ ?_ ?_
  rotate_left
  ·go_simp
   with_reducible rfl
  rotate_left
  ·simp only [Act.put,sA,sZ,sS,i64_w,i32_w]
   rfl
  cases cb
  case false =>
   refine pl_val (N:=some 144) (v:=?_) (a':=?_) rfl (by rfl) ?_ ?_ ?_
   rotate_left
   ·go_simp
    with_reducible rfl
   rotate_left
   ·simp only [Act.put,sA,sZ,sS,i64_w,i32_w]
    rfl
   refine pl_off (N:=some 145) (a':=?_) rfl (by rfl) ?_ ?_
   rotate_left
   ·simp only [Act.put,sA,sZ,sS,i64_w,i32_w]
    rfl
   refine pl_off (N:=some 146) (a':=?_) rfl (by rfl) ?_ ?_
   rotate_left
   ·simp only [Act.put,sA,sZ,sS,i64_w,i32_w]
    rfl
   refine pl_off (N:=some 147) (a':=?_) rfl (by rfl) ?_ ?_
   rotate_left
   ·simp only [Act.put,sA,sZ,sS,i64_w,i32_w]
    rfl
   refine pl_off (N:=some 148) (a':=?_) rfl (by rfl) ?_ ?_
   rotate_left
   ·simp only [Act.put,sA,sZ,sS,i64_w,i32_w]
    rfl
   refine pl_off (N:=some 149) (a':=?_) rfl (by rfl) ?_ ?_
   rotate_left
   ·simp only [Act.put,sA,sZ,sS,i64_w,i32_w]
    rfl
   refine pl_off (N:=some 150) (a':=?_) rfl (by rfl) ?_ ?_
   rotate_left
   ·simp only [Act.put,sA,sZ,sS,i64_w,i32_w]
    rfl
   refine pl_off (N:=some 151) (a':=?_) rfl (by rfl) ?_ ?_
   rotate_left
   ·simp only [Act.put,sA,sZ,sS,i64_w,i32_w]
    rfl
   refine pl_val (N:=some 152) (v:=?_) (a':=?_) rfl (by rfl) ?_ ?_ ?_
   rotate_left
   ·go_simp
    with_reducible rfl
   rotate_left
   ·simp only [Act.put,sA,sZ,sS,i64_w,i32_w]
    rfl
   refine wpList_nil ?_
   go_wp2
   go_ret
   exact ⟨by rw [Hv.out];simp,hB⟩
  have dk : (s.f6.f0.f0 == s.f4.f3.f0 && (s.f6.f0.f1 == s.f4.f3.f1 && (s.f6.f0.f2 == s.f4.f3.f2 && (s.f6.f0.f3 == s.f4.f3.f3)))) = kq:=hkq
  clear hkq
  cases kq
  case false =>
   refine pl_val (N:=some 144) (v:=?_) (a':=?_) rfl (by rfl) ?_ ?_ ?_
   rotate_left
   ·go_simp
    with_reducible rfl
   rotate_left
   ·simp only [Act.put,sA,sZ,sS,i64_w,i32_w]
    rfl
   refine pl_val (N:=some 145) (v:=?_) (a':=?_) rfl (by rfl) ?_ ?_ ?_
   rotate_left
   ·go_simp
    with_reducible rfl
   rotate_left
   ·simp only [Act.put,sA,sZ,sS,i64_w,i32_w]
    rfl
   refine pl_val (N:=some 146) (v:=?_) (a':=?_) rfl (by rfl) ?_ ?_ ?_
   rotate_left
   ·go_simp
    with_reducible rfl
   rotate_left
   ·simp only [Act.put,sA,sZ,sS,i64_w,i32_w]
    rfl
   refine pl_val (N:=some 147) (v:=?_) (a':=?_) rfl (by rfl) ?_ ?_ ?_
   rotate_left
   ·go_simp
    with_reducible rfl
   rotate_left
   ·simp only [Act.put,sA,sZ,sS,i64_w,i32_w]
    rfl
   refine pl_val (N:=some 148) (v:=?_) (a':=?_) rfl (by rfl) ?_ ?_ ?_
   rotate_left
   ·go_simp
    with_reducible rfl
   rotate_left
   ·simp only [Act.put,sA,sZ,sS,i64_w,i32_w]
    rfl
   refine pl_val (N:=some 149) (v:=?_) (a':=?_) rfl (by rfl) ?_ ?_ ?_
   rotate_left
   ·go_simp
    with_reducible rfl
   rotate_left
   ·simp only [Act.put,sA,sZ,sS,i64_w,i32_w]
    rfl
   refine pl_val (N:=some 150) (v:=?_) (a':=?_) rfl (by rfl) ?_ ?_ ?_
   rotate_left
   ·go_simp
    with_reducible rfl
   rotate_left
   ·simp only [Act.put,sA,sZ,sS,i64_w,i32_w]
    rfl
   refine pl_val (N:=some 151) (v:=?_) (a':=?_) rfl (by rfl) ?_ ?_ ?_
   rotate_left
   ·go_simp
    with_reducible rfl
   rotate_left
   ·simp only [Act.put,sA,sZ,sS,i64_w,i32_w]
    rfl
   refine pl_val (N:=some 152) (v:=?_) (a':=?_) rfl (by rfl) ?_ ?_ ?_
   rotate_left
   ·go_simp
    with_reducible rfl
   rotate_left
   ·simp only [Act.put,sA,sZ,sS,i64_w,i32_w]
    rfl
   refine wpList_nil ?_
   go_wp2
   go_ret
   exact ⟨by rw [Hv.out];simp,hB⟩
  refine pl_val (N:=some 144) (v:=?_) (a':=?_) rfl (by rfl) ?_ ?_ ?_
  rotate_left
  ·go_simp
   with_reducible rfl
  rotate_left
  ·simp only [Act.put,sA,sZ,sS,i64_w,i32_w]
   rfl
  refine pl_val (N:=some 145) (v:=?_) (a':=?_) rfl (by rfl) ?_ ?_ ?_
  rotate_left
  ·go_simp
   with_reducible rfl
  rotate_left
  ·simp only [Act.put,sA,sZ,sS,i64_w,i32_w]
   rfl
  refine pl_val (N:=some 146) (v:=?_) (a':=?_) rfl (by rfl) ?_ ?_ ?_
  rotate_left
  ·go_simp
   with_reducible rfl
  rotate_left
  ·simp only [Act.put,sA,sZ,sS,i64_w,i32_w]
   rfl
  refine pl_val (N:=some 147) (v:=?_) (a':=?_) rfl (by rfl) ?_ ?_ ?_
  rotate_left
  ·go_simp
   with_reducible rfl
  rotate_left
  ·simp only [Act.put,sA,sZ,sS,i64_w,i32_w]
   rfl
  refine pl_val (N:=some 148) (v:=?_) (a':=?_) rfl (by rfl) ?_ ?_ ?_
  rotate_left
  ·go_simp
   with_reducible rfl
  rotate_left
  ·simp only [Act.put,sA,sZ,sS,i64_w,i32_w]
   rfl
  refine pl_val (N:=some 149) (v:=?_) (a':=?_) rfl (by rfl) ?_ ?_ ?_
  rotate_left
  ·go_simp
   with_reducible rfl
  rotate_left
  ·simp only [Act.put,sA,sZ,sS,i64_w,i32_w]
   rfl
  refine pl_val (N:=some 150) (v:=?_) (a':=?_) rfl (by rfl) ?_ ?_ ?_
  rotate_left
  ·go_simp
   with_reducible rfl
  rotate_left
  ·simp only [Act.put,sA,sZ,sS,i64_w,i32_w]
   rfl
  refine pl_val (N:=some 151) (v:=?_) (a':=?_) rfl (by rfl) ?_ ?_ ?_
  rotate_left
  ·go_simp
   with_reducible rfl
  rotate_left
  ·simp only [Act.put,sA,sZ,sS,i64_w,i32_w]
   rfl
  refine pl_val (N:=some 152) (v:=?_) (a':=?_) rfl (by rfl) ?_ ?_ ?_
  rotate_left
  ·go_simp
   with_reducible rfl
  rotate_left
  ·simp only [Act.put,sA,sZ,sS,i64_w,i32_w]
   rfl
  refine wpList_nil ?_
  by_cases hl7 : s.f7.length = 0
  case neg =>
   have dl : ((s.f7.length : Int) == 0) = false:=beq_eq_false_iff_ne.mpr (by omega)
   have HL:=Lib.hid hl7
   clear hl7
   go_wp2
   go_ret
   exact ⟨by rw [Hv.out];simp [HL.out],hB⟩
  have dl : ((s.f7.length : Int) == 0) = true:=beq_iff_eq.mpr (by omega)
  have HL:=Lib.hid hl7
  clear hl7
  go_wp2
  go_ret
  exact ⟨by rw [Hv.out];simp [HL.out],hB⟩
 have g5 : (s.f5 == 1) = false:=beq_eq_false_iff_ne.mpr s5
 by_cases s6 : s.f5 = 2
 case neg =>
  have g6 : (s.f5 == 2) = false:=beq_eq_false_iff_ne.mpr s6
  replace Hv:=Lib.hid (Hv.out.trans (show _ = (z && decide (s.f7.length = 0)) by simp [s5,s6]))
  clear s4 s5 s6
  cases z
  case false =>
   skip
   go_wp2
   go_ret
   exact ⟨by rw [Hv.out];simp,hB⟩
  by_cases hl7 : s.f7.length = 0
  case neg =>
   have dl : ((s.f7.length : Int) == 0) = false:=beq_eq_false_iff_ne.mpr (by omega)
   have HL:=Lib.hid hl7
   clear hl7
   go_wp2
   go_ret
   exact ⟨by rw [Hv.out];simp [HL.out],hB⟩
  have dl : ((s.f7.length : Int) == 0) = true:=beq_iff_eq.mpr (by omega)
  have HL:=Lib.hid hl7
  clear hl7
  go_wp2
  go_ret
  exact ⟨by rw [Hv.out];simp [HL.out],hB⟩
 have g6 : (s.f5 == 2) = true:=beq_iff_eq.mpr s6
 replace Hv:=Lib.hid (Hv.out.trans (show _ = (z && (decide (0 < s.f7.length) && rb)) by simp [s4,s6]))
 clear s4 s5 s6
 cases z
 case false =>
  skip
  go_wp2
  go_ret
  exact ⟨by rw [Hv.out];simp,hB⟩
 by_cases hl7 : 0 < s.f7.length
 case neg =>
  have dl : decide ((s.f7.length : Int) > 0) = false:=decide_eq_false (by omega)
  have dl' : decide (0 < (s.f7.length : Int)) = false:=dl
  have dl3 : decide (0 < s.f7.length) = false:=decide_eq_false hl7
  have HL:=Lib.hid hl7
  clear hl7
  go_upto_region 17 with fail
  refine wp_region_list ?_
  refine pl_val (N:=some 164) (v:=?_) (a':=?_) rfl (by rfl) ?_ ?_ ?_
  rotate_left
  ·go_simp
   with_reducible rfl
  rotate_left
  ·simp only [Act.put,sA,sZ,sS,i64_w,i32_w]
   rfl
  refine pl_val (N:=some 165) (v:=?_) (a':=?_) rfl (by rfl) ?_ ?_ ?_
  rotate_left
  ·go_simp
   with_reducible rfl
  rotate_left
  ·simp only [Act.put,sA,sZ,sS,i64_w,i32_w]
   rfl
  refine pl_val (N:=some 166) (v:=?_) (a':=?_) rfl (by rfl) ?_ ?_ ?_
  rotate_left
  ·go_simp
   with_reducible rfl
  rotate_left
  ·simp only [Act.put,sA,sZ,sS,i64_w,i32_w]
   rfl
  refine pl_val (N:=some 167) (v:=?_) (a':=?_) rfl (by rfl) ?_ ?_ ?_
  rotate_left
  ·go_simp
   with_reducible rfl
  rotate_left
  ·simp only [Act.put,sA,sZ,sS,i64_w,i32_w]
   rfl
  refine pl_val (N:=some 168) (v:=?_) (a':=?_) rfl (by rfl) ?_ ?_ ?_
  rotate_left
  ·go_simp
   with_reducible rfl
  rotate_left
  ·simp only [Act.put,sA,sZ,sS,i64_w,i32_w]
   rfl
  refine pl_off (N:=some 169) (a':=?_) rfl (by rfl) ?_ ?_
  rotate_left
  ·simp only [Act.put,sA,sZ,sS,i64_w,i32_w]
   rfl
  refine pl_off (N:=some 170) (a':=?_) rfl (by rfl) ?_ ?_
  rotate_left
  ·simp only [Act.put,sA,sZ,sS,i64_w,i32_w]
   rfl
  refine pl_off (N:=some 171) (a':=?_) rfl (by rfl) ?_ ?_
  rotate_left
  ·simp only [Act.put,sA,sZ,sS,i64_w,i32_w]
   rfl
  refine pl_val (N:=some 172) (v:=?_) (a':=?_) rfl (by rfl) ?_ ?_ ?_
  rotate_left
  ·go_simp
   with_reducible rfl
  rotate_left
  ·simp only [Act.put,sA,sZ,sS,i64_w,i32_w]
   rfl
  refine pl_val (N:=some 2) (v:=?_) (a':=?_) rfl (by rfl) ?_ ?_ ?_
  rotate_left
  ·go_simp
   with_reducible rfl
  rotate_left
  ·simp only [Act.put,sA,sZ,sS,i64_w,i32_w]
   rfl
  refine wpList_nil ?_
  go_wp2
  go_ret
  exact ⟨by rw [Hv.out];simp [HL.out],hB⟩
 have dl : decide ((s.f7.length : Int) > 0) = true:=decide_eq_true (by omega)
 have dl' : decide (0 < (s.f7.length : Int)) = true:=dl
 have dl3 : decide (0 < s.f7.length) = true:=decide_eq_true hl7
 have HL:=Lib.hid hl7
 clear hl7
 have HC:=rrises_c hk.1 hI
 rw [hrb] at HC
 clear hrb
 go_upto_region 17 with fail
 refine wp_region_list ?_
 refine pl_val (N:=some 164) (v:=?_) (a':=?_) rfl (by rfl) ?_ ?_ ?_
 rotate_left
 ·go_simp
  with_reducible rfl
 rotate_left
 ·simp only [Act.put,sA,sZ,sS,i64_w,i32_w]
  rfl
 refine pl_val (N:=some 165) (v:=?_) (a':=?_) rfl (by rfl) ?_ ?_ ?_
 rotate_left
 ·go_simp
  with_reducible rfl
 rotate_left
 ·simp only [Act.put,sA,sZ,sS,i64_w,i32_w]
  rfl
 refine pl_val (N:=some 166) (v:=?_) (a':=?_) rfl (by rfl) ?_ ?_ ?_
 rotate_left
 ·go_simp
  with_reducible rfl
 rotate_left
 ·simp only [Act.put,sA,sZ,sS,i64_w,i32_w]
  rfl
 refine pl_val (N:=some 167) (v:=?_) (a':=?_) rfl (by rfl) ?_ ?_ ?_
 rotate_left
 ·go_simp
  with_reducible rfl
 rotate_left
 ·simp only [Act.put,sA,sZ,sS,i64_w,i32_w]
  rfl
 refine pl_val (N:=some 168) (v:=?_) (a':=?_) rfl (by rfl) ?_ ?_ ?_
 rotate_left
 ·go_simp
  with_reducible rfl
 rotate_left
 ·simp only [Act.put,sA,sZ,sS,i64_w,i32_w]
  rfl
 refine pl_val (N:=some 169) (v:=?_) (a':=?_) rfl (by rfl) ?_ ?_ ?_
 rotate_left
 ·go_simp
  with_reducible rfl
 rotate_left
 ·simp only [Act.put,sA,sZ,sS,i64_w,i32_w]
  rfl
 refine pl_val (N:=some 170) (v:=?_) (a':=?_) rfl (by rfl) ?_ ?_ ?_
 rotate_left
 ·go_simp
  with_reducible rfl
 rotate_left
 ·simp only [Act.put,sA,sZ,sS,i64_w,i32_w]
  rfl
 refine pl_call Tryd.func24 (by kernel_rfl) rfl #[.slice p.A19 s.f7.length p.c19] (by rfl) rfl rfl (by (try simp only [List.map_toArray,List.map_cons,List.map_nil]);first|done|rfl) ?_
 refine HC.out.mono ?_
 rintro e_ w2_ ⟨rfl,hb⟩
 refine ⟨_,rfl,?_⟩
 replace hB:=keep_below hB hb
 clear hb HC
 refine pl_norm (a':=?_) ?_ ?_
 rotate_left
 ·first|(show Act.put _ (some 171) _ = _;simp only [Act.put,sA,sZ,sS,i64_w,i32_w];rfl)|with_reducible rfl
 refine pl_val (N:=some 172) (v:=?_) (a':=?_) rfl (by rfl) ?_ ?_ ?_
 rotate_left
 ·go_simp
  with_reducible rfl
 rotate_left
 ·simp only [Act.put,sA,sZ,sS,i64_w,i32_w]
  rfl
 refine pl_val (N:=some 2) (v:=?_) (a':=?_) rfl (by rfl) ?_ ?_ ?_
 rotate_left
 ·go_simp
  with_reducible rfl
 rotate_left
 ·simp only [Act.put,sA,sZ,sS,i64_w,i32_w]
  rfl
 refine wpList_nil ?_
 go_wp2
 go_ret
 exact ⟨by rw [Hv.out];simp [HL.out],hB⟩
theorem right_c {s : S33} {p : Pt} {W : World} (hk : Okk s) (hi : In W s p) : Hid (Calls Tryd.prog 16 #[.agg (sv s p)] W fun e w' => e = .returned (.bool (mayB s)) ∧ Below W.heap.size W w') := Lib.hid (right_any s p W hk hi)
end Go.Proofs.YtiamkgoajkfofaaDoor.S
