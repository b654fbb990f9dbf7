/- What the row of this claim reaches. No condition. -/
import Derived.Test.YtiamkgoajkfofaaDoorXSLaw0
import Derived.Test.YtiamkgoajkfofaaDoorXSRefs
set_option linter.unusedVariables false
set_option linter.unusedSimpArgs false
namespace Go.Proofs.YtiamkgoajkfofaaDoor.S
open Go.RowKit Go.Proofs.YtiamkgoajkfofaaDoorW.PrintWords Go.Proofs.YtiamkgoajkfofaaDoorW.PrintLast Go.Proofs.YtiamkgoajkfofaaDoorW.PrintMore
def rwantT (s : S33) : Int × Int × Int := if kindF s.f4.f0 s.f5 s.f2 = 2 then (if s.f4.f0 = 4 then (2, s.f7.getD 0 0, 1) else (2, s.f4.f2, 2)) else (kindF s.f4.f0 s.f5 s.f2, 0, 0)
set_option maxHeartbeats 8000000 in
set_option maxRecDepth 100000 in
theorem rwant_any (s : S33) (p : Pt) (w : World) (hi : In w s p) (hn : kindF s.f4.f0 s.f5 s.f2 = 2→s.f4.f0 = 4→0 < s.f7.length) :
  Calls Tryd.prog 22 #[.agg (sv s p)] w fun e w' => e = .returned (.agg #[.int .i64 (rwantT s).1,.int .u32 (rwantT s).2.1,.int .i64 (rwantT s).2.2])∧Below w.heap.size w w':=by
 obtain ⟨W,hW⟩ : ∃ W,(w.alloc (.cells (sv s p) 33)).alloc (.cells #[.int .i64 0,.int .u32 0,.int .i64 0] 41) = W:=⟨_,rfl⟩
 have b : Blk W w.heap.size 33 (sv s p):=by rw [← hW];exact (Blk.new w 33 _).alloc _
 have d : Blk W (w.heap.size+1) 41 #[.int .i64 0,.int .u32 0,.int .i64 0]:=by rw [← hW];exact Blk.newAt (by simp)
 have hB : Below w.heap.size w W:=by rw [← hW];exact keep_below_alloc _ (keep_below_alloc _ (Below.refl _ _))
 have hI:=hi.below hB
 have HW:=Lib.hid hW
 have HN:=Lib.hid hn
 clear hW hi hn
 go_enter Tryd.func22,Tryd.ntmps22
 go_upto_region 1 with fail
 rw [HW.out]
 clear HW
 have c4:=sc4 b
 have c12:=sc12 b
 have c2:=sc2 b
 refine wp_region_list ?_
 refine pl_val (N:=some 4) (v:=?_) (a':=?_) rfl (by rfl) ?_ ?_ ?_
 rotate_left
 ·go_simp
  with_reducible rfl
 rotate_left
 ·simp only [Act.put,sA,sZ,sS,i64_w,i32_w]
  rfl
 refine pl_val (N:=some 5) (v:=?_) (a':=?_) rfl (by rfl) ?_ ?_ ?_
 rotate_left
 ·go_simp
  with_reducible rfl
 rotate_left
 ·simp only [Act.put,sA,sZ,sS,i64_w,i32_w]
  rfl
 refine pl_val (N:=some 6) (v:=?_) (a':=?_) rfl (by rfl) ?_ ?_ ?_
 rotate_left
 ·go_simp
  with_reducible rfl
 rotate_left
 ·simp only [Act.put,sA,sZ,sS,i64_w,i32_w]
  rfl
 refine pl_val (N:=some 7) (v:=?_) (a':=?_) rfl (by rfl) ?_ ?_ ?_
 rotate_left
 ·go_simp
  with_reducible rfl
 rotate_left
 ·simp only [Act.put,sA,sZ,sS,i64_w,i32_w]
  rfl
 refine pl_val (N:=some 8) (v:=?_) (a':=?_) rfl (by rfl) ?_ ?_ ?_
 rotate_left
 ·go_simp
  with_reducible rfl
 rotate_left
 ·simp only [Act.put,sA,sZ,sS,i64_w,i32_w]
  rfl
 refine pl_val (N:=some 9) (v:=?_) (a':=?_) rfl (by rfl) ?_ ?_ ?_
 rotate_left
 ·go_simp
  with_reducible rfl
 rotate_left
 ·simp only [Act.put,sA,sZ,sS,i64_w,i32_w]
  rfl
 refine pl_val (N:=some 10) (v:=?_) (a':=?_) rfl (by rfl) ?_ ?_ ?_
 rotate_left
 ·go_simp
  with_reducible rfl
 rotate_left
 ·simp only [Act.put,sA,sZ,sS,i64_w,i32_w]
  rfl
 refine pl_call Tryd.func38 (by kernel_rfl) rfl #[.int .i64 s.f4.f0,.int .i64 s.f5,.bool s.f2] (by rfl) rfl rfl (by (try simp only [List.map_toArray,List.map_cons,List.map_nil]);first|done|rfl) ?_
 refine (rkind_c _ _ _ _).out.mono ?_
 rintro e_ w1_ ⟨rfl,hb⟩
 refine ⟨_,rfl,?_⟩
 replace b:=b.keep hb
 replace d:=d.keep hb
 replace hB:=keep_below hB hb
 replace hI:=hI.below hb
 clear hb c4 c12 c2
 obtain ⟨kd,hkd⟩ : ∃ x,kindF s.f4.f0 s.f5 s.f2 = x:=⟨_,rfl⟩
 rw [hkd] at HN ⊢
 have HK:=Lib.hid (show rwantT s = if kd = 2 then (if s.f4.f0 = 4 then (2,s.f7.getD 0 0,1) else (2,s.f4.f2,2)) else (kd,0,0) by unfold rwantT;rw [hkd])
 clear hkd
 refine pl_norm (a':=?_) ?_ ?_
 rotate_left
 ·first|(show Act.put _ (some 11) _ = _;simp only [Act.put,sA,sZ,sS,i64_w,i32_w];rfl)|with_reducible rfl
 refine pl_val (N:=some 12) (v:=?_) (a':=?_) rfl (by rfl) ?_ ?_ ?_
 rotate_left
 ·go_simp
  with_reducible rfl
 rotate_left
 ·simp only [Act.put,sA,sZ,sS,i64_w,i32_w]
  rfl
 refine pl_make (N:=some 3) (v:=.pointer (some ⟨(w1_).heap.size,0,none⟩)) (W':=(w1_).alloc (.cells #[.int .i64 0,.int .u32 0,.int .i64 0] 41)) (a':=?_) rfl (by rfl) (by first|(go_simp;done)|(go_simp;rfl)) ?_ ?_
 rotate_left
 ·simp only [Act.put,sA,sZ,sS,i64_w,i32_w]
  rfl
 have n_:=new_row w1_ #[.int .i64 0,.int .u32 0,.int .i64 0] #[.int .i64 kd,.int .u32 0,.int .i64 0] 41
 have b_ : Blk (w1_.alloc (.cells #[.int .i64 0,.int .u32 0,.int .i64 0] 41)) w1_.heap.size 41 #[.int .i64 0,.int .u32 0,.int .i64 0]:=Blk.new w1_ 41 _
 refine pl_skip (W':=_) rfl (by rfl) (store_row_run (g:=w1_.heap.size) 41 _ _ rfl rfl (cells:=#[.int .i64 kd,.int .u32 0,.int .i64 0]) rfl 41 (b_) (by first|kernel_rfl|rfl) rfl (by simp [Value.oneCell'])) ?_
 clear b_
 obtain ⟨g,hle⟩:=n_
 have ng : w.heap.size+1 ≠ w1_.heap.size:=Nat.ne_of_lt d.lt
 have lg : w.heap.size ≤ w1_.heap.size:=hB.size
 replace b:=b.keep hle
 replace d:=d.keep hle
 replace hB:=keep_below hB hle
 replace hI:=hI.below hle
 generalize (w1_.alloc (.cells #[.int .i64 0,.int .u32 0,.int .i64 0] 41)).setRow w1_.heap.size #[.int .i64 kd,.int .u32 0,.int .i64 0] = V at b d g hB hI hle ⊢
 generalize w1_.heap.size = gz at g hle ng lg ⊢
 clear hle
 have Hg:=Lib.hid ng
 have Lg:=Lib.hid lg
 clear ng lg
 refine wpList_nil ?_
 have k0:=g.cell 0
 have c4:=sc4 b
 simp at k0
 by_cases hk : kd = 2
 case neg =>
  have e2 : (kd == 2) = false:=beq_eq_false_iff_ne.mpr hk
  have H2:=Lib.hid hk
  clear hk
  go_upto_region 6 with fail
  refine wp_region_list ?_
  refine pl_val (N:=some 42) (v:=.agg #[.int .i64 kd,.int .u32 0,.int .i64 0]) (a':=?_) rfl (by rfl) (load_row_run 41 _ rfl (gz) rfl 41 #[.int .i64 kd,.int .u32 0,.int .i64 0] _ (g) Tryd.underlying41 rfl (by first|kernel_rfl|rfl)) ?_ ?_
  rotate_left
  ·simp only [Act.put,sA,sZ,sS,i64_w,i32_w]
   rfl
  refine pl_skip (W':=_) rfl (by rfl) (store_row_run (g:=w.heap.size+1) 41 _ _ rfl rfl (cells:=#[.int .i64 kd,.int .u32 0,.int .i64 0]) rfl 41 (d) (by first|kernel_rfl|rfl) rfl (by simp [Value.oneCell'])) ?_
  refine wpList_nil ?_
  go_wp2
  rw [HK.out,if_neg H2.out]
  exact bodyPost_ret (v:=.agg #[.int .i64 kd,.int .u32 0,.int .i64 0]) (results_cell_row Tryd.results22 _ _ (w.heap.size+1) 41 #[.int .i64 kd,.int .u32 0,.int .i64 0] (0,0) _ rfl (Blk.row_ d _) Tryd.underlying41 rfl (by kernel_rfl)) rfl ⟨by first|rfl|(rw [H2.out]),Below.row_ hB (Nat.le_succ _) _⟩
 have e2 : (kd == 2) = true:=beq_iff_eq.mpr hk
 have H2:=Lib.hid hk
 clear hk
 by_cases h4 : s.f4.f0 = 4
 case pos =>
  have e4 : (s.f4.f0 == 4) = true:=beq_iff_eq.mpr h4
  have e4' : (s.f4.f0 != 4) = false:=by simp [h4]
  have hl:=HN.out H2.out h4
  have H4:=Lib.hid h4
  clear h4 HN
  have c19:=sc19 b
  obtain ⟨ad,hA,f0⟩:=Kd.at_int hI.2.2.1 0 (Int.le_refl _) (by omega)
  have f1 : (0 < (s.f7.length : Int)) = True:=eq_true (by omega)
  have ea : ad.add 0 = ad:=by unfold Addr.add;split <;> simp_all
  obtain ⟨n0,hn0⟩ : ∃ n,s.f7.getD 0 0 = n:=⟨_,rfl⟩
  have f2 : V.cell? (ad.add 0) = some (.int .u32 n0):=by rw [← hn0];exact f0
  have f3 : V.cell? ad = some (.int .u32 n0):=by rw [← ea];exact f2
  have HN0:=Lib.hid hn0
  clear hn0
  have f4 : (0 < s.f7.length) = True:=eq_true hl
  rw [hA] at c19
  have HL:=Lib.hid hl
  clear f0 ea hl hA
  go_upto_region 3 with fail
  refine wp_region_list ?_
  refine pl_val (N:=some 22) (v:=?_) (a':=?_) rfl (by rfl) ?_ ?_ ?_
  rotate_left
  ·go_simp
   with_reducible rfl
  rotate_left
  ·simp only [Act.put,sA,sZ,sS,i64_w,i32_w]
   rfl
  refine pl_val (N:=some 23) (v:=?_) (a':=?_) rfl (by rfl) ?_ ?_ ?_
  rotate_left
  ·go_simp
   with_reducible rfl
  rotate_left
  ·simp only [Act.put,sA,sZ,sS,i64_w,i32_w]
   rfl
  refine pl_val (N:=some 24) (v:=?_) (a':=?_) rfl (by rfl) ?_ ?_ ?_
  rotate_left
  ·go_simp
   with_reducible rfl
  rotate_left
  ·simp only [Act.put,sA,sZ,sS,i64_w,i32_w]
   rfl
  refine pl_val (N:=some 25) (v:=?_) (a':=?_) rfl (by rfl) ?_ ?_ ?_
  rotate_left
  ·go_simp
   with_reducible rfl
  rotate_left
  ·simp only [Act.put,sA,sZ,sS,i64_w,i32_w]
   rfl
  have z_:=g.frozen 1
  have y_ : _ = some _:=(g.cell 1).trans rfl
  refine pl_val (N:=some 26) (v:=?_) (a':=?_) rfl (by rfl) ?_ ?_ ?_
  rotate_left
  ·go_simp
   with_reducible rfl
  rotate_left
  ·simp only [Act.put,sA,sZ,sS,i64_w,i32_w]
   rfl
  refine pl_skip (W':=?_) rfl (by rfl) ?_ ?_
  rotate_left
  ·go_simp
   with_reducible rfl
  clear z_ y_
  have g1 : Blk (V.setCell ⟨gz,1,none⟩ (.int .u32 n0)) gz 41 #[.int .i64 kd,.int .u32 n0,.int .i64 0]:=g.set_ 1 (.int .u32 n0)
  have d1:=d.far (p:=⟨gz,1,none⟩) (by exact Hg.out) (.int .u32 n0)
  have hB1:=hB.setCell (p:=⟨gz,1,none⟩) Lg.out (.int .u32 n0)
  have b1:=b.far (p:=⟨gz,1,none⟩) (b.ne_ g (by decide)) (.int .u32 n0)
  generalize V.setCell ⟨gz,1,none⟩ (.int .u32 n0) = V1 at g1 d1 hB1 b1 ⊢
  have z_:=g1.frozen 2
  have y_ : _ = some _:=(g1.cell 2).trans rfl
  clear g d hB b c4 k0 hI
  refine pl_val (N:=some 27) (v:=?_) (a':=?_) rfl (by rfl) ?_ ?_ ?_
  rotate_left
  ·go_simp
   with_reducible rfl
  rotate_left
  ·simp only [Act.put,sA,sZ,sS,i64_w,i32_w]
   rfl
  refine pl_skip (W':=?_) rfl (by rfl) ?_ ?_
  rotate_left
  ·go_simp
   with_reducible rfl
  refine wpList_nil ?_
  clear z_ y_
  have g2 : Blk (V1.setCell ⟨gz,2,none⟩ (.int .i64 1)) gz 41 #[.int .i64 kd,.int .u32 n0,.int .i64 1]:=g1.set_ 2 (.int .i64 1)
  have d2:=d1.far (p:=⟨gz,2,none⟩) (by exact Hg.out) (.int .i64 1)
  have hB2:=hB1.setCell (p:=⟨gz,2,none⟩) Lg.out (.int .i64 1)
  have b2:=b1.far (p:=⟨gz,2,none⟩) (b1.ne_ g1 (by decide)) (.int .i64 1)
  generalize V1.setCell ⟨gz,2,none⟩ (.int .i64 1) = V2 at g2 d2 hB2 b2 ⊢
  clear g1 d1 hB1 b1
  have k0:=g2.cell 0
  have c4:=sc4 b2
  simp at k0
  have HZ:=Lib.hid (show kd = 2 from H2.out)
  go_upto_region 6 with fail
  refine wp_region_list ?_
  refine pl_val (N:=some 42) (v:=.agg #[.int .i64 kd,.int .u32 n0,.int .i64 1]) (a':=?_) rfl (by rfl) (load_row_run 41 _ rfl (gz) rfl 41 #[.int .i64 kd,.int .u32 n0,.int .i64 1] _ (g2) Tryd.underlying41 rfl (by first|kernel_rfl|rfl)) ?_ ?_
  rotate_left
  ·simp only [Act.put,sA,sZ,sS,i64_w,i32_w]
   rfl
  refine pl_skip (W':=_) rfl (by rfl) (store_row_run (g:=w.heap.size+1) 41 _ _ rfl rfl (cells:=#[.int .i64 kd,.int .u32 n0,.int .i64 1]) rfl 41 (d2) (by first|kernel_rfl|rfl) rfl (by simp [Value.oneCell'])) ?_
  refine wpList_nil ?_
  go_wp2
  rw [HK.out,if_pos H2.out,if_pos H4.out,HN0.out]
  exact bodyPost_ret (v:=.agg #[.int .i64 kd,.int .u32 n0,.int .i64 1]) (results_cell_row Tryd.results22 _ _ (w.heap.size+1) 41 #[.int .i64 kd,.int .u32 n0,.int .i64 1] (0,0) _ rfl (Blk.row_ d2 _) Tryd.underlying41 rfl (by kernel_rfl)) rfl ⟨by first|rfl|(rw [H2.out]),Below.row_ hB2 (Nat.le_succ _) _⟩
 have e4 : (s.f4.f0 == 4) = false:=beq_eq_false_iff_ne.mpr h4
 have e4' : (s.f4.f0 != 4) = true:=bne_iff_ne.mpr h4
 have H4:=Lib.hid h4
 clear h4 HN
 have c6:=sc6 b
 go_upto_region 5 with fail
 refine wp_region_list ?_
 refine pl_val (N:=some 37) (v:=?_) (a':=?_) rfl (by rfl) ?_ ?_ ?_
 rotate_left
 ·go_simp
  with_reducible rfl
 rotate_left
 ·simp only [Act.put,sA,sZ,sS,i64_w,i32_w]
  rfl
 refine pl_val (N:=some 38) (v:=?_) (a':=?_) rfl (by rfl) ?_ ?_ ?_
 rotate_left
 ·go_simp
  with_reducible rfl
 rotate_left
 ·simp only [Act.put,sA,sZ,sS,i64_w,i32_w]
  rfl
 refine pl_val (N:=some 39) (v:=?_) (a':=?_) rfl (by rfl) ?_ ?_ ?_
 rotate_left
 ·go_simp
  with_reducible rfl
 rotate_left
 ·simp only [Act.put,sA,sZ,sS,i64_w,i32_w]
  rfl
 have z_:=g.frozen 1
 have y_ : _ = some _:=(g.cell 1).trans rfl
 refine pl_val (N:=some 40) (v:=?_) (a':=?_) rfl (by rfl) ?_ ?_ ?_
 rotate_left
 ·go_simp
  with_reducible rfl
 rotate_left
 ·simp only [Act.put,sA,sZ,sS,i64_w,i32_w]
  rfl
 refine pl_skip (W':=?_) rfl (by rfl) ?_ ?_
 rotate_left
 ·go_simp
  with_reducible rfl
 clear z_ y_
 have g1 : Blk (V.setCell ⟨gz,1,none⟩ (.int .u32 s.f4.f2)) gz 41 #[.int .i64 kd,.int .u32 s.f4.f2,.int .i64 0]:=g.set_ 1 (.int .u32 s.f4.f2)
 have d1:=d.far (p:=⟨gz,1,none⟩) (by exact Hg.out) (.int .u32 s.f4.f2)
 have hB1:=hB.setCell (p:=⟨gz,1,none⟩) Lg.out (.int .u32 s.f4.f2)
 have b1:=b.far (p:=⟨gz,1,none⟩) (b.ne_ g (by decide)) (.int .u32 s.f4.f2)
 generalize V.setCell ⟨gz,1,none⟩ (.int .u32 s.f4.f2) = V1 at g1 d1 hB1 b1 ⊢
 have z_:=g1.frozen 2
 have y_ : _ = some _:=(g1.cell 2).trans rfl
 clear g d hB b c4 k0 hI
 refine pl_val (N:=some 41) (v:=?_) (a':=?_) rfl (by rfl) ?_ ?_ ?_
 rotate_left
 ·go_simp
  with_reducible rfl
 rotate_left
 ·simp only [Act.put,sA,sZ,sS,i64_w,i32_w]
  rfl
 refine pl_skip (W':=?_) rfl (by rfl) ?_ ?_
 rotate_left
 ·go_simp
  with_reducible rfl
 refine wpList_nil ?_
 clear z_ y_
 have g2 : Blk (V1.setCell ⟨gz,2,none⟩ (.int .i64 2)) gz 41 #[.int .i64 kd,.int .u32 s.f4.f2,.int .i64 2]:=g1.set_ 2 (.int .i64 2)
 have d2:=d1.far (p:=⟨gz,2,none⟩) (by exact Hg.out) (.int .i64 2)
 have hB2:=hB1.setCell (p:=⟨gz,2,none⟩) Lg.out (.int .i64 2)
 have b2:=b1.far (p:=⟨gz,2,none⟩) (b1.ne_ g1 (by decide)) (.int .i64 2)
 generalize V1.setCell ⟨gz,2,none⟩ (.int .i64 2) = V2 at g2 d2 hB2 b2 ⊢
 clear g1 d1 hB1 b1
 have k0:=g2.cell 0
 have c4:=sc4 b2
 simp at k0
 go_upto_region 6 with fail
 refine wp_region_list ?_
 refine pl_val (N:=some 42) (v:=.agg #[.int .i64 kd,.int .u32 s.f4.f2,.int .i64 2]) (a':=?_) rfl (by rfl) (load_row_run 41 _ rfl (gz) rfl 41 #[.int .i64 kd,.int .u32 s.f4.f2,.int .i64 2] _ (g2) Tryd.underlying41 rfl (by first|kernel_rfl|rfl)) ?_ ?_
 rotate_left
 ·simp only [Act.put,sA,sZ,sS,i64_w,i32_w]
  rfl
 refine pl_skip (W':=_) rfl (by rfl) (store_row_run (g:=w.heap.size+1) 41 _ _ rfl rfl (cells:=#[.int .i64 kd,.int .u32 s.f4.f2,.int .i64 2]) rfl 41 (d2) (by first|kernel_rfl|rfl) rfl (by simp [Value.oneCell'])) ?_
 refine wpList_nil ?_
 go_wp2
 rw [HK.out,if_pos H2.out,if_neg H4.out]
 exact bodyPost_ret (v:=.agg #[.int .i64 kd,.int .u32 s.f4.f2,.int .i64 2]) (results_cell_row Tryd.results22 _ _ (w.heap.size+1) 41 #[.int .i64 kd,.int .u32 s.f4.f2,.int .i64 2] (0,0) _ rfl (Blk.row_ d2 _) Tryd.underlying41 rfl (by kernel_rfl)) rfl ⟨by first|rfl|(rw [H2.out]),Below.row_ hB2 (Nat.le_succ _) _⟩
theorem rwant_c {s : S33} {p : Pt} {W : World} (hi : In W s p) (hn : kindF s.f4.f0 s.f5 s.f2 = 2 → s.f4.f0 = 4 → 0 < s.f7.length) : Hid (Calls Tryd.prog 22 #[.agg (sv s p)] W fun e w' => e = .returned (.agg #[.int .i64 (rwantT s).1, .int .u32 (rwantT s).2.1, .int .i64 (rwantT s).2.2]) ∧ Below W.heap.size W w') := Lib.hid (rwant_any s p W hi hn)
def rgrantedS (s : S33) : S33 := if ¬ s.f4.f0 = 4 then { s with f5 := 1 } else if s.f7.length = 1 then { s with f5 := 3, f7 := [] } else { s with f7 := s.f7.drop 1 }
theorem In.drop {W : World} {s : S33} {p : Pt} (h : In W s p) (hn : 0 < s.f7.length) : In W { s with f7 := s.f7.drop 1 } (dropP p) := by
  obtain ⟨h1, h2, h3⟩ := h
  refine ⟨h1, h2, ?_, ?_⟩
  · have := Kd.C_drop (m := 1) h3.1 (by omega) h3.2
    rw [show (1 * (Kd.int .u32).sz) = 1 from rfl] at this
    exact this
  · show (s.f7.drop 1).length ≤ p.c19 - 1
    rw [List.length_drop]
    have := h3.2
    omega
set_option maxHeartbeats 8000000 in
set_option maxRecDepth 100000 in
theorem rgranted_any (s : S33) (p : Pt) (w : World) (hi : In w s p) (hn : s.f4.f0 = 4→0 < s.f7.length) :
  Calls Tryd.prog 28 #[.agg (sv s p)] w fun e w' => ∃ p',e = .returned (.agg (sv (rgrantedS s) p'))∧In w' (rgrantedS s) p'∧Below w.heap.size w w':=by
 obtain ⟨W,hW⟩ : ∃ W,(w.alloc (.cells (sv s p) 33)).alloc (.cells #[.int .i64 0,.int .u64 0,.bool false,.int .u64 0,.int .i64 0,.bool false,.int .u32 0,.int .i64 0,.int .i64 0,.int .i64 0,.int .i64 0,.int .i64 0,.int .i64 0,.int .i64 0,.int .i64 0,.int .i64 0,.int .i64 0,.slice none 0 0,.slice none 0 0,.slice none 0 0] 33) = W:=⟨_,rfl⟩
 have b : Blk W w.heap.size 33 (sv s p):=by rw [← hW];exact (Blk.new w 33 _).alloc _
 have d : Blk W (w.heap.size+1) 33 (sv z33 p0):=by rw [← hW];exact Blk.newAt (by simp)
 have hB : Below w.heap.size w W:=by rw [← hW];exact keep_below_alloc _ (keep_below_alloc _ (Below.refl _ _))
 have HI:=Lib.hid hi
 have hc:=hi.2.2.2
 have HW:=Lib.hid hW
 have HN:=Lib.hid hn
 clear hW hi hn
 go_enter Tryd.func28,Tryd.ntmps28
 go_upto_region 1 with fail
 rw [HW.out]
 clear HW
 have c4:=sc4 b
 by_cases h4 : s.f4.f0 = 4
 case neg =>
  have e4 : (s.f4.f0 != 4) = true:=bne_iff_ne.mpr h4
  have hS : rgrantedS s = { s with f5:=1 }:=by unfold rgrantedS;rw [if_pos h4]
  have HS:=Lib.hid hS
  clear h4 hS hc
  go_upto_region 2 with fail
  refine wp_region_list ?_
  have z_:=b.frozen 12
  have y_:=sc12 b
  refine pl_val (N:=some 7) (v:=?_) (a':=?_) rfl (by rfl) ?_ ?_ ?_
  rotate_left
  ·go_simp
   with_reducible rfl
  rotate_left
  ·simp only [Act.put,sA,sZ,sS,i64_w,i32_w]
   rfl
  refine pl_skip (W':=?_) rfl (by rfl) ?_ ?_
  rotate_left
  ·go_simp
   with_reducible rfl
  refine wpList_nil ?_
  clear z_ y_ c4
  have b1 : Blk (W.setCell ⟨w.heap.size,12,none⟩ (.int .i64 1)) w.heap.size 33 (sv { s with f5:=1 } p):=b.set_ 12 (.int .i64 1)
  have d1:=d.far (p:=⟨w.heap.size,12,none⟩) (by simp) (.int .i64 1)
  have hB1:=hB.setCell (p:=⟨w.heap.size,12,none⟩) (Nat.le_refl _) (.int .i64 1)
  generalize W.setCell ⟨w.heap.size,12,none⟩ (.int .i64 1) = W1 at b1 d1 hB1 ⊢
  clear b d hB
  rw [← HS.out] at b1
  go_upto_region 3 with fail
  refine wp_region_list ?_
  refine pl_val (N:=some 8) (v:=.agg (sv (rgrantedS s) p)) (a':=?_) rfl (by rfl) (load_row_run 33 _ rfl (w.heap.size) rfl 33 (sv (rgrantedS s) p) _ (b1) Tryd.underlying33 rfl (by first|kernel_rfl|rfl)) ?_ ?_
  rotate_left
  ·simp only [Act.put,sA,sZ,sS,i64_w,i32_w]
   rfl
  refine pl_skip (W':=_) rfl (by rfl) (store_row_run (g:=w.heap.size+1) 33 _ _ rfl rfl (cells:=(sv (rgrantedS s) p)) rfl 33 (d1) (by first|kernel_rfl|rfl) rfl (sv_one _ _)) ?_
  refine wpList_nil ?_
  go_wp2
  refine bodyPost_ret (v:=.agg (sv (rgrantedS s) p)) (results_cell_row Tryd.results28 _ _ (w.heap.size+1) 33 (sv (rgrantedS s) p) (0,0) _ rfl (Blk.row_ d1 _) Tryd.underlying33 rfl (by kernel_rfl)) rfl ⟨p,rfl,?_,Below.row_ hB1 (Nat.le_succ _) _⟩
  have hx:=HI.out.below (Below.row_ hB1 (Nat.le_succ _) (sv (rgrantedS s) p))
  rw [HS.out] at hx ⊢
  exact hx
 have e4 : (s.f4.f0 != 4) = false:=by simp [h4]
 have hl:=HN.out h4
 have H4:=Lib.hid h4
 clear h4 HN
 have c19:=sc19 b
 by_cases h1 : s.f7.length = 1
 case pos =>
  have e1 : ((s.f7.length : Int) == 1) = true:=beq_iff_eq.mpr (by omega)
  have hS : rgrantedS s = { s with f5:=3,f7:=[] }:=by unfold rgrantedS;rw [if_neg (by rw [H4.out];simp),if_pos h1]
  have HS:=Lib.hid hS
  clear h1 hS hc hl
  go_upto_region 5 with fail
  refine wp_region_list ?_
  have z_:=b.frozen 12
  have y_:=sc12 b
  refine pl_val (N:=some 13) (v:=?_) (a':=?_) rfl (by rfl) ?_ ?_ ?_
  rotate_left
  ·go_simp
   with_reducible rfl
  rotate_left
  ·simp only [Act.put,sA,sZ,sS,i64_w,i32_w]
   rfl
  refine pl_skip (W':=?_) rfl (by rfl) ?_ ?_
  rotate_left
  ·go_simp
   with_reducible rfl
  clear z_ y_ c4 c19
  have b1 : Blk (W.setCell ⟨w.heap.size,12,none⟩ (.int .i64 3)) w.heap.size 33 (sv { s with f5:=3 } p):=b.set_ 12 (.int .i64 3)
  have d1:=d.far (p:=⟨w.heap.size,12,none⟩) (by simp) (.int .i64 3)
  have hB1:=hB.setCell (p:=⟨w.heap.size,12,none⟩) (Nat.le_refl _) (.int .i64 3)
  generalize W.setCell ⟨w.heap.size,12,none⟩ (.int .i64 3) = W1 at b1 d1 hB1 ⊢
  clear b d hB
  have z_:=b1.frozen 19
  have y_:=sc19 b1
  refine pl_val (N:=some 14) (v:=?_) (a':=?_) rfl (by rfl) ?_ ?_ ?_
  rotate_left
  ·go_simp
   with_reducible rfl
  rotate_left
  ·simp only [Act.put,sA,sZ,sS,i64_w,i32_w]
   rfl
  refine pl_skip (W':=?_) rfl (by rfl) ?_ ?_
  rotate_left
  ·go_simp
   with_reducible rfl
  refine wpList_nil ?_
  clear z_ y_
  have b2 : Blk (W1.setCell ⟨w.heap.size,19,none⟩ (.slice none 0 0)) w.heap.size 33 (sv { s with f5:=3,f7:=[] } { p with A19:=none,c19:=0 }):=b1.set_ 19 (.slice none 0 0)
  have d2:=d1.far (p:=⟨w.heap.size,19,none⟩) (by simp) (.slice none 0 0)
  have hB2:=hB1.setCell (p:=⟨w.heap.size,19,none⟩) (Nat.le_refl _) (.slice none 0 0)
  generalize W1.setCell ⟨w.heap.size,19,none⟩ (.slice none 0 0) = W2 at b2 d2 hB2 ⊢
  clear b1 d1 hB1
  rw [← HS.out] at b2
  go_upto_region 6 with fail
  refine wp_region_list ?_
  refine pl_val (N:=some 15) (v:=.agg (sv (rgrantedS s) { p with A19:=none,c19:=0 })) (a':=?_) rfl (by rfl) (load_row_run 33 _ rfl (w.heap.size) rfl 33 (sv (rgrantedS s) { p with A19:=none,c19:=0 }) _ (b2) Tryd.underlying33 rfl (by first|kernel_rfl|rfl)) ?_ ?_
  rotate_left
  ·simp only [Act.put,sA,sZ,sS,i64_w,i32_w]
   rfl
  refine pl_skip (W':=_) rfl (by rfl) (store_row_run (g:=w.heap.size+1) 33 _ _ rfl rfl (cells:=(sv (rgrantedS s) { p with A19:=none,c19:=0 })) rfl 33 (d2) (by first|kernel_rfl|rfl) rfl (sv_one _ _)) ?_
  refine wpList_nil ?_
  go_wp2
  refine bodyPost_ret (v:=.agg (sv (rgrantedS s) { p with A19:=none,c19:=0 })) (results_cell_row Tryd.results28 _ _ (w.heap.size+1) 33 (sv (rgrantedS s) { p with A19:=none,c19:=0 }) (0,0) _ rfl (Blk.row_ d2 _) Tryd.underlying33 rfl (by kernel_rfl)) rfl ⟨_,rfl,?_,Below.row_ hB2 (Nat.le_succ _) _⟩
  have hx:=HI.out.below (Below.row_ hB2 (Nat.le_succ _) (sv (rgrantedS s) { p with A19:=none,c19:=0 }))
  generalize (W2.setRow (w.heap.size+1) (sv (rgrantedS s) { p with A19:=none,c19:=0 })) = W3 at hx ⊢
  rw [HS.out]
  exact ⟨hx.1,hx.2.1,Kd.C_nil _ _,Nat.le_refl _⟩
 have e1 : ((s.f7.length : Int) == 1) = false:=beq_eq_false_iff_ne.mpr (by omega)
 have hS : rgrantedS s = { s with f7:=s.f7.drop 1 }:=by unfold rgrantedS;rw [if_neg (by rw [H4.out];simp),if_neg h1]
 have HS:=Lib.hid hS
 have H1:=Lib.hid h1
 clear h1 hS
 have q1 : ((1 : Int) ≤ (s.f7.length : Int)) = True:=eq_true (by omega)
 have q2 : ((s.f7.length : Int) ≤ (p.c19 : Int)) = True:=eq_true (by omega)
 go_upto_region 7 with fail
 refine wp_region_list ?_
 refine pl_val (N:=some 16) (v:=?_) (a':=?_) rfl (by rfl) ?_ ?_ ?_
 rotate_left
 ·go_simp
  with_reducible rfl
 rotate_left
 ·simp only [Act.put,sA,sZ,sS,i64_w,i32_w]
  rfl
 refine pl_val (N:=some 17) (v:=?_) (a':=?_) rfl (by rfl) ?_ ?_ ?_
 rotate_left
 ·go_simp
  with_reducible rfl
 rotate_left
 ·simp only [Act.put,sA,sZ,sS,i64_w,i32_w]
  rfl
 refine pl_val (N:=some 18) (v:=.slice (dropP p).A19 (s.f7.length - 1) (dropP p).c19) (a':=?_) rfl (by rfl) ?_ ?_ ?_
 ·unfold dropP
  go_simp
 rotate_left
 ·simp only [Act.put,sA,sZ,sS,i64_w,i32_w]
  rfl
 have z_:=b.frozen 19
 refine pl_val (N:=some 19) (v:=?_) (a':=?_) rfl (by rfl) ?_ ?_ ?_
 rotate_left
 ·go_simp
  with_reducible rfl
 rotate_left
 ·simp only [Act.put,sA,sZ,sS,i64_w,i32_w]
  rfl
 refine pl_skip (W':=?_) rfl (by rfl) ?_ ?_
 rotate_left
 ·go_simp
  with_reducible rfl
 refine wpList_nil ?_
 clear z_ q1 q2 c4 c19
 have hlen : (s.f7.drop 1).length = s.f7.length - 1:=List.length_drop
 have b1 : Blk (W.setCell ⟨w.heap.size,19,none⟩ (.slice (dropP p).A19 (s.f7.length - 1) (dropP p).c19)) w.heap.size 33 (sv { s with f7:=s.f7.drop 1 } (dropP p)):=by
  rw [← hlen]
  exact b.set_ 19 (.slice (dropP p).A19 (s.f7.drop 1).length (dropP p).c19)
 have d1:=d.far (p:=⟨w.heap.size,19,none⟩) (by simp) (.slice (dropP p).A19 (s.f7.length - 1) (dropP p).c19)
 have hB1:=hB.setCell (p:=⟨w.heap.size,19,none⟩) (Nat.le_refl _) (.slice (dropP p).A19 (s.f7.length - 1) (dropP p).c19)
 generalize W.setCell ⟨w.heap.size,19,none⟩ (.slice (dropP p).A19 (s.f7.length - 1) (dropP p).c19) = W1 at b1 d1 hB1 ⊢
 clear b d hB
 rw [← HS.out] at b1
 go_upto_region 8 with fail
 refine wp_region_list ?_
 refine pl_val (N:=some 20) (v:=.agg (sv (rgrantedS s) (dropP p))) (a':=?_) rfl (by rfl) (load_row_run 33 _ rfl (w.heap.size) rfl 33 (sv (rgrantedS s) (dropP p)) _ (b1) Tryd.underlying33 rfl (by first|kernel_rfl|rfl)) ?_ ?_
 rotate_left
 ·simp only [Act.put,sA,sZ,sS,i64_w,i32_w]
  rfl
 refine pl_skip (W':=_) rfl (by rfl) (store_row_run (g:=w.heap.size+1) 33 _ _ rfl rfl (cells:=(sv (rgrantedS s) (dropP p))) rfl 33 (d1) (by first|kernel_rfl|rfl) rfl (sv_one _ _)) ?_
 refine wpList_nil ?_
 go_wp2
 refine bodyPost_ret (v:=.agg (sv (rgrantedS s) (dropP p))) (results_cell_row Tryd.results28 _ _ (w.heap.size+1) 33 (sv (rgrantedS s) (dropP p)) (0,0) _ rfl (Blk.row_ d1 _) Tryd.underlying33 rfl (by kernel_rfl)) rfl ⟨_,rfl,?_,Below.row_ hB1 (Nat.le_succ _) _⟩
 have hx:=(HI.out.below (Below.row_ hB1 (Nat.le_succ _) (sv (rgrantedS s) (dropP p)))).drop hl
 generalize (W1.setRow (w.heap.size+1) (sv (rgrantedS s) (dropP p))) = W3 at hx ⊢
 rw [HS.out]
 exact hx
theorem rgranted_c {s : S33} {p : Pt} {W : World} (hi : In W s p) (hn : s.f4.f0 = 4 → 0 < s.f7.length) : Hid (Calls Tryd.prog 28 #[.agg (sv s p)] W fun e w' => ∃ p', e = .returned (.agg (sv (rgrantedS s) p')) ∧ In w' (rgrantedS s) p' ∧ Below W.heap.size W w') := Lib.hid (rgranted_any s p W hi hn)
end Go.Proofs.YtiamkgoajkfofaaDoor.S
