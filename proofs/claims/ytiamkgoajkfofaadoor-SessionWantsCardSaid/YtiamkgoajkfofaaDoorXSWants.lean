/- What the row of this claim reaches. No condition. -/
import Derived.Laws.StructEq
import Derived.Test.YtiamkgoajkfofaaDoorXSWantsP
set_option linter.unusedVariables false
set_option linter.unusedSimpArgs false
namespace Go.Proofs.YtiamkgoajkfofaaDoor.S
open Go.RowKit Go.Proofs.YtiamkgoajkfofaaDoorW.PrintWords Go.Proofs.YtiamkgoajkfofaaDoorW.PrintLast Go.Proofs.YtiamkgoajkfofaaDoorW.PrintMore
theorem eqA41 (d : Nat) (w : World) (x0 y0 : Int) (x1 y1 : Int) (x2 y2 : Int) :
    (Op.equalIn (d + 2) 41 (.agg #[.int .i64 x0, .int .u32 x1, .int .i64 x2]) (.agg #[.int .i64 y0, .int .u32 y1, .int .i64 y2])).run Tryd.prog w = .ok (x0 == y0 && (x1 == y1 && (x2 == y2))) w := by
  refine eqA_of Tryd.underlying41 (by kernel_rfl) ?_
  refine eqf_cons (by rfl) (by go_simp; rfl) (by go_simp; rfl) (by go_simp) ?_
  refine eqf_cons (by rfl) (by go_simp; rfl) (by go_simp; rfl) (by go_simp) ?_
  exact eqf_last (by rfl) (by go_simp; rfl) (by go_simp; rfl) (by go_simp)
attribute [local go_sem high] eqA41
def wnq.T18 : Bool × List (List Nat × List Nat) := (true, [([], []), ([0], [0]), ([1], [1]), ([2], [2]), ([3], [3]), ([4, 3], [3, 4]), ([5, 3, 3], [3, 5]), ([6], [6]), ([7, 6, 6], [6, 7]), ([8, 6], [6, 8]), ([6, 9, 3], [3, 6, 9]), ([3, 10], [3, 10]), ([11, 8], [11]), ([12], [12]), ([13, 12], [12, 13]), ([14, 12], [12, 14]), ([15, 12, 12], [12, 15]), ([16], [16]), ([17, 16], [16, 17]), ([18, 16, 16], [16, 18]), ([19], [19]), ([19], [19]), ([21, 19, 19], [19, 21]), ([20, 22, 22, 19], [19, 20, 22]), ([23, 19], [19, 23]), ([19, 24, 16], [16, 19, 24]), ([16, 25, 12], [12, 16, 25]), ([12, 26], [12, 26])])
def wnq.B18 : List Nat := [0, 1, 3, 7, 15, 31, 63, 127, 255, 511, 1023, 2047, 4095, 8191, 16383, 32767, 65535, 131071, 262143, 524287, 1048575, 1048575, 3145727, 8388607, 16777215, 33554431, 67108863, 134217727]
theorem wnq.tab18 : rtab .any (opsOf Tryd.f6 18) = wnq.T18 := by kernel_rfl
theorem wnq.bits18 : waitsOk wnq.T18.2 wnq.B18 = true := by kernel_rfl
set_option maxHeartbeats 8000000 in
set_option maxRecDepth 100000 in
theorem wants_law (s : S33) (p : Pt) (over : Bool) (w : World) (hp : ∀ x ∈ s.f6.f2,0 ≤ x) (hT : TabIs w) (hi : In w s p) :
  Calls Tryd.prog 6 #[.agg (sv s p),.bool over] w fun e w' => e = .returned (.bool true)∧Below w.heap.size w w':=by
 obtain ⟨W,hW⟩ : ∃ W,w.alloc (.cells (sv s p) 33) = W:=⟨_,rfl⟩
 have b3 : Blk W w.heap.size 33 (sv s p):=by rw [← hW];exact Blk.new w 33 _
 have hB : Below w.heap.size w W:=by rw [← hW];exact keep_below_alloc _ (Below.refl _ _)
 have hI:=hi.below hB
 have HT:=Lib.hid (TabIs.below hT hB)
 have HW:=Lib.hid hW
 have HP:=Lib.hid hp
 clear hW hT hi hp
 go_enter Tryd.func6,Tryd.ntmps6
 go_upto_region 1 with fail
 rw [HW.out]
 clear HW
 have HC:=wakes_c HT.out
 refine wp_region_list ?_
 refine pl_call Tryd.func8 (by kernel_rfl) rfl #[] (by rfl) rfl rfl (by (try simp only [List.map_toArray,List.map_cons,List.map_nil]);first|done|rfl) ?_
 refine (HC.out).mono ?_
 rintro e_ w1_ ⟨rfl,hb⟩
 refine ⟨_,rfl,?_⟩
 replace b3:=b3.keep hb
 replace hB:=keep_below hB hb
 replace hI:=hI.below hb
 replace HT:=Lib.hid (TabIs.below HT.out hb)
 clear hb
 refine pl_norm (a':=?_) ?_ ?_
 rotate_left
 ·first|(show Act.put _ (some 13) _ = _;simp only [Act.put,sA,sZ,sS,i64_w,i32_w];rfl)|with_reducible rfl
 clear HC
 refine pl_val (N:=some 14) (v:=?_) (a':=?_) rfl (by rfl) ?_ ?_ ?_
 rotate_left
 ·go_simp
  with_reducible rfl
 rotate_left
 ·simp only [Act.put,sA,sZ,sS,i64_w,i32_w]
  rfl
 refine wpList_nil ?_
 have HC:=large_c hI
 go_upto_region 3 with fail
 refine wp_region_list ?_
 refine pl_val (N:=some 15) (v:=.agg (sv s p)) (a':=?_) rfl (by rfl) (load_row_run 33 _ rfl (w.heap.size) rfl 33 (sv s p) _ (b3) Tryd.underlying33 rfl (by first|kernel_rfl|rfl)) ?_ ?_
 rotate_left
 ·simp only [Act.put,sA,sZ,sS,i64_w,i32_w]
  rfl
 refine pl_call Tryd.func9 (by kernel_rfl) rfl #[.agg (sv s p)] (by rfl) rfl rfl (by (try simp only [List.map_toArray,List.map_cons,List.map_nil]);first|done|rfl) ?_
 refine (HC.out).mono ?_
 rintro e_ w2_ ⟨rfl,hb⟩
 refine ⟨_,rfl,?_⟩
 replace b3:=b3.keep hb
 replace hB:=keep_below hB hb
 replace hI:=hI.below hb
 replace HT:=Lib.hid (TabIs.below HT.out hb)
 clear hb
 refine pl_norm (a':=?_) ?_ ?_
 rotate_left
 ·first|(show Act.put _ (some 16) _ = _;simp only [Act.put,sA,sZ,sS,i64_w,i32_w];rfl)|with_reducible rfl
 clear HC
 refine wpList_nil ?_
 cases hl : largeB s
 case true =>
  clear hl
  go_wp2
  go_ret
  exact ⟨rfl,hB⟩
 have hk : Okk s:=⟨not_large hl,HP.out⟩
 clear hl HP
 obtain ⟨⟨q1,q2,q3⟩,hq⟩ : ∃ q,wantsT s = q:=⟨_,rfl⟩
 obtain ⟨r,hr⟩ : ∃ r,readyF s = r:=⟨_,rfl⟩
 obtain ⟨t7,ht7⟩ : ∃ t,turnS s (grantedB s) (grantedS s) = t:=⟨_,rfl⟩
 obtain ⟨e7,he7⟩ : ∃ t,turnE s (grantedB s) = t:=⟨_,rfl⟩
 obtain ⟨t9,ht9⟩ : ∃ t,turnS s (endedB s over) (endedS s over) = t:=⟨_,rfl⟩
 obtain ⟨e9,he9⟩ : ∃ t,turnE s (endedB s over) = t:=⟨_,rfl⟩
 have hl7 : Lens t7:=by rw [← ht7];exact lens_granted hk.1
 have hl9 : Lens t9:=by rw [← ht9];exact lens_ended
 have HQ:=Lib.hid (And.intro hq (And.intro hr (And.intro ht7 (And.intro he7 (And.intro ht9 he9)))))
 clear hq hr ht7 he7 ht9 he9
 go_upto_region 5 with fail
 refine wp_region_list ?_
 refine pl_val (N:=some 18) (v:=.agg (sv s p)) (a':=?_) rfl (by rfl) (load_row_run 33 _ rfl (w.heap.size) rfl 33 (sv s p) _ (b3) Tryd.underlying33 rfl (by first|kernel_rfl|rfl)) ?_ ?_
 rotate_left
 ·simp only [Act.put,sA,sZ,sS,i64_w,i32_w]
  rfl
 refine pl_call Tryd.func14 (by kernel_rfl) rfl #[.agg (sv s p)] (by rfl) rfl rfl (by (try simp only [List.map_toArray,List.map_cons,List.map_nil]);first|done|rfl) ?_
 refine ((lcopied_c hk.1 hI).out).mono ?_
 rintro e_ w3_ ⟨p1,rfl,h1,hb⟩
 refine ⟨_,rfl,?_⟩
 replace b3:=b3.keep hb
 replace hB:=keep_below hB hb
 replace hI:=hI.below hb
 replace HT:=Lib.hid (TabIs.below HT.out hb)
 clear hb
 refine pl_norm (a':=?_) ?_ ?_
 rotate_left
 ·first|(show Act.put _ (some 19) _ = _;simp only [Act.put,sA,sZ,sS,i64_w,i32_w];rfl)|with_reducible rfl
 have HC:=wants_c hk HT.out h1.In
 rw [HQ.out.1,HQ.out.2.1] at HC
 refine pl_call Tryd.func13 (by kernel_rfl) rfl #[.agg (sv s p1)] (by rfl) rfl rfl (by (try simp only [List.map_toArray,List.map_cons,List.map_nil]);first|done|rfl) ?_
 refine (HC.out).mono ?_
 rintro e_ w4_ ⟨rfl,hb⟩
 refine ⟨_,rfl,?_⟩
 replace b3:=b3.keep hb
 replace hB:=keep_below hB hb
 replace hI:=hI.below hb
 replace HT:=Lib.hid (TabIs.below HT.out hb)
 clear hb
 refine pl_norm (a':=?_) ?_ ?_
 rotate_left
 ·first|(show Act.put _ (some 20) _ = _;simp only [Act.put,sA,sZ,sS,i64_w,i32_w];rfl)|with_reducible rfl
 clear HC h1
 refine pl_val (N:=some 17) (v:=?_) (a':=?_) rfl (by rfl) ?_ ?_ ?_
 rotate_left
 ·go_simp
  with_reducible rfl
 rotate_left
 ·simp only [Act.put,sA,sZ,sS,i64_w,i32_w]
  rfl
 refine pl_val (N:=some 21) (v:=?_) (a':=?_) rfl (by rfl) ?_ ?_ ?_
 rotate_left
 ·go_simp
  with_reducible rfl
 rotate_left
 ·simp only [Act.put,sA,sZ,sS,i64_w,i32_w]
  rfl
 refine pl_val (N:=some 22) (v:=?_) (a':=?_) rfl (by rfl) ?_ ?_ ?_
 rotate_left
 ·go_simp
  with_reducible rfl
 rotate_left
 ·simp only [Act.put,sA,sZ,sS,i64_w,i32_w]
  rfl
 refine pl_make (N:=some 5) (v:=.pointer (some ⟨(w4_).heap.size,0,none⟩)) (W':=(w4_).alloc (.cells #[.int .i64 0,.int .u32 0,.int .i64 0] 41)) (a':=?_) rfl (by rfl) (by first|(go_simp;done)|(go_simp;rfl)) ?_ ?_
 rotate_left
 ·simp only [Act.put,sA,sZ,sS,i64_w,i32_w]
  rfl
 have n_:=new_row w4_ #[.int .i64 0,.int .u32 0,.int .i64 0] #[.int .i64 q1,.int .u32 q2,.int .i64 q3] 41
 have b_ : Blk (w4_.alloc (.cells #[.int .i64 0,.int .u32 0,.int .i64 0] 41)) w4_.heap.size 41 #[.int .i64 0,.int .u32 0,.int .i64 0]:=Blk.new w4_ 41 _
 refine pl_skip (W':=_) rfl (by rfl) (store_row_run (g:=w4_.heap.size) 41 _ _ rfl rfl (cells:=#[.int .i64 q1,.int .u32 q2,.int .i64 q3]) rfl 41 (b_) (by first|kernel_rfl|rfl) rfl (by simp [Value.oneCell'])) ?_
 clear b_
 obtain ⟨b5,hle⟩:=n_
 have Sb5:=Lib.hid (show w.heap.size ≤ w4_.heap.size from hB.size)
 replace b3:=b3.keep hle
 replace hB:=keep_below hB hle
 replace hI:=hI.below hle
 replace HT:=Lib.hid (TabIs.below HT.out hle)
 generalize (w4_.alloc (.cells #[.int .i64 0,.int .u32 0,.int .i64 0] 41)).setRow w4_.heap.size #[.int .i64 q1,.int .u32 q2,.int .i64 q3] = w5_ at b3 hB hI HT b5 hle ⊢
 clear hle
 refine pl_val (N:=some 6) (v:=?_) (a':=?_) rfl (by rfl) ?_ ?_ ?_
 rotate_left
 ·go_simp
  with_reducible rfl
 rotate_left
 ·simp only [Act.put,sA,sZ,sS,i64_w,i32_w]
  rfl
 refine wpList_nil ?_
 go_upto_region 6 with fail
 refine wp_region_list ?_
 refine pl_val (N:=some 24) (v:=.agg (sv s p)) (a':=?_) rfl (by rfl) (load_row_run 33 _ rfl (w.heap.size) rfl 33 (sv s p) _ (b3) Tryd.underlying33 rfl (by first|kernel_rfl|rfl)) ?_ ?_
 rotate_left
 ·simp only [Act.put,sA,sZ,sS,i64_w,i32_w]
  rfl
 refine pl_call Tryd.func14 (by kernel_rfl) rfl #[.agg (sv s p)] (by rfl) rfl rfl (by (try simp only [List.map_toArray,List.map_cons,List.map_nil]);first|done|rfl) ?_
 refine ((lcopied_c hk.1 hI).out).mono ?_
 rintro e_ w6_ ⟨p1,rfl,h1,hb⟩
 refine ⟨_,rfl,?_⟩
 replace b3:=b3.keep hb
 replace hB:=keep_below hB hb
 replace hI:=hI.below hb
 replace HT:=Lib.hid (TabIs.below HT.out hb)
 replace b5:=b5.keep hb
 clear hb
 refine pl_norm (a':=?_) ?_ ?_
 rotate_left
 ·first|(show Act.put _ (some 25) _ = _;simp only [Act.put,sA,sZ,sS,i64_w,i32_w];rfl)|with_reducible rfl
 have HC:=granted_c hk HT.out h1.In
 rw [HQ.out.2.2.1,HQ.out.2.2.2.1] at HC
 refine pl_call Tryd.func26 (by kernel_rfl) rfl #[.agg (sv s p1)] (by rfl) rfl rfl (by (try simp only [List.map_toArray,List.map_cons,List.map_nil]);first|done|rfl) ?_
 refine (HC.out).mono ?_
 rintro e_ w7_ ⟨p7,rfl,h7,hb⟩
 refine ⟨_,rfl,?_⟩
 replace b3:=b3.keep hb
 replace hB:=keep_below hB hb
 replace hI:=hI.below hb
 replace HT:=Lib.hid (TabIs.below HT.out hb)
 replace b5:=b5.keep hb
 clear hb
 refine pl_norm (a':=?_) ?_ ?_
 rotate_left
 ·first|(show Act.put _ (some 26) _ = _;simp only [Act.put,sA,sZ,sS,i64_w,i32_w];rfl)|with_reducible rfl
 clear HC h1
 refine pl_val (N:=some 23) (v:=?_) (a':=?_) rfl (by rfl) ?_ ?_ ?_
 rotate_left
 ·go_simp
  with_reducible rfl
 rotate_left
 ·simp only [Act.put,sA,sZ,sS,i64_w,i32_w]
  rfl
 refine pl_val (N:=some 27) (v:=?_) (a':=?_) rfl (by rfl) ?_ ?_ ?_
 rotate_left
 ·go_simp
  with_reducible rfl
 rotate_left
 ·simp only [Act.put,sA,sZ,sS,i64_w,i32_w]
  rfl
 refine pl_val (N:=some 28) (v:=?_) (a':=?_) rfl (by rfl) ?_ ?_ ?_
 rotate_left
 ·go_simp
  with_reducible rfl
 rotate_left
 ·simp only [Act.put,sA,sZ,sS,i64_w,i32_w]
  rfl
 refine pl_make (N:=some 7) (v:=.pointer (some ⟨(w7_).heap.size,0,none⟩)) (W':=(w7_).alloc (.cells #[.int .i64 0,.int .u64 0,.bool false,.int .u64 0,.int .i64 0,.bool false,.int .u32 0,.int .i64 0,.int .i64 0,.int .i64 0,.int .i64 0,.int .i64 0,.int .i64 0,.int .i64 0,.int .i64 0,.int .i64 0,.int .i64 0,.slice none 0 0,.slice none 0 0,.slice none 0 0] 33)) (a':=?_) rfl (by rfl) (by first|(go_simp;done)|(go_simp;rfl)) ?_ ?_
 rotate_left
 ·simp only [Act.put,sA,sZ,sS,i64_w,i32_w]
  rfl
 have n_:=new_row w7_ #[.int .i64 0,.int .u64 0,.bool false,.int .u64 0,.int .i64 0,.bool false,.int .u32 0,.int .i64 0,.int .i64 0,.int .i64 0,.int .i64 0,.int .i64 0,.int .i64 0,.int .i64 0,.int .i64 0,.int .i64 0,.int .i64 0,.slice none 0 0,.slice none 0 0,.slice none 0 0] (sv t7 p7) 33
 have b_ : Blk (w7_.alloc (.cells #[.int .i64 0,.int .u64 0,.bool false,.int .u64 0,.int .i64 0,.bool false,.int .u32 0,.int .i64 0,.int .i64 0,.int .i64 0,.int .i64 0,.int .i64 0,.int .i64 0,.int .i64 0,.int .i64 0,.int .i64 0,.int .i64 0,.slice none 0 0,.slice none 0 0,.slice none 0 0] 33)) w7_.heap.size 33 #[.int .i64 0,.int .u64 0,.bool false,.int .u64 0,.int .i64 0,.bool false,.int .u32 0,.int .i64 0,.int .i64 0,.int .i64 0,.int .i64 0,.int .i64 0,.int .i64 0,.int .i64 0,.int .i64 0,.int .i64 0,.int .i64 0,.slice none 0 0,.slice none 0 0,.slice none 0 0]:=Blk.new w7_ 33 _
 refine pl_skip (W':=_) rfl (by rfl) (store_row_run (g:=w7_.heap.size) 33 _ _ rfl rfl (cells:=(sv t7 p7)) rfl 33 (b_) (by first|kernel_rfl|rfl) rfl (sv_one _ _)) ?_
 clear b_
 obtain ⟨b7,hle⟩:=n_
 have Sb7:=Lib.hid (show w.heap.size ≤ w7_.heap.size from hB.size)
 replace b3:=b3.keep hle
 replace hB:=keep_below hB hle
 replace hI:=hI.below hle
 replace HT:=Lib.hid (TabIs.below HT.out hle)
 replace b5:=b5.keep hle
 replace h7:=h7.below hle
 generalize (w7_.alloc (.cells #[.int .i64 0,.int .u64 0,.bool false,.int .u64 0,.int .i64 0,.bool false,.int .u32 0,.int .i64 0,.int .i64 0,.int .i64 0,.int .i64 0,.int .i64 0,.int .i64 0,.int .i64 0,.int .i64 0,.int .i64 0,.int .i64 0,.slice none 0 0,.slice none 0 0,.slice none 0 0] 33)).setRow w7_.heap.size (sv t7 p7) = w8_ at b3 hB hI HT b5 h7 b7 hle ⊢
 clear hle
 refine pl_val (N:=some 8) (v:=?_) (a':=?_) rfl (by rfl) ?_ ?_ ?_
 rotate_left
 ·go_simp
  with_reducible rfl
 rotate_left
 ·simp only [Act.put,sA,sZ,sS,i64_w,i32_w]
  rfl
 refine wpList_nil ?_
 go_upto_region 7 with fail
 refine wp_region_list ?_
 refine pl_val (N:=some 30) (v:=.agg (sv s p)) (a':=?_) rfl (by rfl) (load_row_run 33 _ rfl (w.heap.size) rfl 33 (sv s p) _ (b3) Tryd.underlying33 rfl (by first|kernel_rfl|rfl)) ?_ ?_
 rotate_left
 ·simp only [Act.put,sA,sZ,sS,i64_w,i32_w]
  rfl
 refine pl_call Tryd.func14 (by kernel_rfl) rfl #[.agg (sv s p)] (by rfl) rfl rfl (by (try simp only [List.map_toArray,List.map_cons,List.map_nil]);first|done|rfl) ?_
 refine ((lcopied_c hk.1 hI).out).mono ?_
 rintro e_ w9_ ⟨p1,rfl,h1,hb⟩
 refine ⟨_,rfl,?_⟩
 replace b3:=b3.keep hb
 replace hB:=keep_below hB hb
 replace hI:=hI.below hb
 replace HT:=Lib.hid (TabIs.below HT.out hb)
 replace b5:=b5.keep hb
 replace h7:=h7.below hb
 replace b7:=b7.keep hb
 clear hb
 refine pl_norm (a':=?_) ?_ ?_
 rotate_left
 ·first|(show Act.put _ (some 31) _ = _;simp only [Act.put,sA,sZ,sS,i64_w,i32_w];rfl)|with_reducible rfl
 refine pl_val (N:=some 32) (v:=?_) (a':=?_) rfl (by rfl) ?_ ?_ ?_
 rotate_left
 ·go_simp
  with_reducible rfl
 rotate_left
 ·simp only [Act.put,sA,sZ,sS,i64_w,i32_w]
  rfl
 have HC:=ended_c (over:=over) hk HT.out h1.In
 rw [HQ.out.2.2.2.2.1,HQ.out.2.2.2.2.2] at HC
 refine pl_call Tryd.func27 (by kernel_rfl) rfl #[.agg (sv s p1),.bool over] (by rfl) rfl rfl (by (try simp only [List.map_toArray,List.map_cons,List.map_nil]);first|done|rfl) ?_
 refine (HC.out).mono ?_
 rintro e_ w10_ ⟨p9,rfl,h9,hb⟩
 refine ⟨_,rfl,?_⟩
 replace b3:=b3.keep hb
 replace hB:=keep_below hB hb
 replace hI:=hI.below hb
 replace HT:=Lib.hid (TabIs.below HT.out hb)
 replace b5:=b5.keep hb
 replace h7:=h7.below hb
 replace b7:=b7.keep hb
 clear hb
 refine pl_norm (a':=?_) ?_ ?_
 rotate_left
 ·first|(show Act.put _ (some 33) _ = _;simp only [Act.put,sA,sZ,sS,i64_w,i32_w];rfl)|with_reducible rfl
 clear HC h1
 refine pl_val (N:=some 29) (v:=?_) (a':=?_) rfl (by rfl) ?_ ?_ ?_
 rotate_left
 ·go_simp
  with_reducible rfl
 rotate_left
 ·simp only [Act.put,sA,sZ,sS,i64_w,i32_w]
  rfl
 refine pl_val (N:=some 34) (v:=?_) (a':=?_) rfl (by rfl) ?_ ?_ ?_
 rotate_left
 ·go_simp
  with_reducible rfl
 rotate_left
 ·simp only [Act.put,sA,sZ,sS,i64_w,i32_w]
  rfl
 refine pl_val (N:=some 35) (v:=?_) (a':=?_) rfl (by rfl) ?_ ?_ ?_
 rotate_left
 ·go_simp
  with_reducible rfl
 rotate_left
 ·simp only [Act.put,sA,sZ,sS,i64_w,i32_w]
  rfl
 refine pl_make (N:=some 9) (v:=.pointer (some ⟨(w10_).heap.size,0,none⟩)) (W':=(w10_).alloc (.cells #[.int .i64 0,.int .u64 0,.bool false,.int .u64 0,.int .i64 0,.bool false,.int .u32 0,.int .i64 0,.int .i64 0,.int .i64 0,.int .i64 0,.int .i64 0,.int .i64 0,.int .i64 0,.int .i64 0,.int .i64 0,.int .i64 0,.slice none 0 0,.slice none 0 0,.slice none 0 0] 33)) (a':=?_) rfl (by rfl) (by first|(go_simp;done)|(go_simp;rfl)) ?_ ?_
 rotate_left
 ·simp only [Act.put,sA,sZ,sS,i64_w,i32_w]
  rfl
 have n_:=new_row w10_ #[.int .i64 0,.int .u64 0,.bool false,.int .u64 0,.int .i64 0,.bool false,.int .u32 0,.int .i64 0,.int .i64 0,.int .i64 0,.int .i64 0,.int .i64 0,.int .i64 0,.int .i64 0,.int .i64 0,.int .i64 0,.int .i64 0,.slice none 0 0,.slice none 0 0,.slice none 0 0] (sv t9 p9) 33
 have b_ : Blk (w10_.alloc (.cells #[.int .i64 0,.int .u64 0,.bool false,.int .u64 0,.int .i64 0,.bool false,.int .u32 0,.int .i64 0,.int .i64 0,.int .i64 0,.int .i64 0,.int .i64 0,.int .i64 0,.int .i64 0,.int .i64 0,.int .i64 0,.int .i64 0,.slice none 0 0,.slice none 0 0,.slice none 0 0] 33)) w10_.heap.size 33 #[.int .i64 0,.int .u64 0,.bool false,.int .u64 0,.int .i64 0,.bool false,.int .u32 0,.int .i64 0,.int .i64 0,.int .i64 0,.int .i64 0,.int .i64 0,.int .i64 0,.int .i64 0,.int .i64 0,.int .i64 0,.int .i64 0,.slice none 0 0,.slice none 0 0,.slice none 0 0]:=Blk.new w10_ 33 _
 refine pl_skip (W':=_) rfl (by rfl) (store_row_run (g:=w10_.heap.size) 33 _ _ rfl rfl (cells:=(sv t9 p9)) rfl 33 (b_) (by first|kernel_rfl|rfl) rfl (sv_one _ _)) ?_
 clear b_
 obtain ⟨b9,hle⟩:=n_
 have Sb9:=Lib.hid (show w.heap.size ≤ w10_.heap.size from hB.size)
 replace b3:=b3.keep hle
 replace hB:=keep_below hB hle
 replace hI:=hI.below hle
 replace HT:=Lib.hid (TabIs.below HT.out hle)
 replace b5:=b5.keep hle
 replace h7:=h7.below hle
 replace b7:=b7.keep hle
 replace h9:=h9.below hle
 generalize (w10_.alloc (.cells #[.int .i64 0,.int .u64 0,.bool false,.int .u64 0,.int .i64 0,.bool false,.int .u32 0,.int .i64 0,.int .i64 0,.int .i64 0,.int .i64 0,.int .i64 0,.int .i64 0,.int .i64 0,.int .i64 0,.int .i64 0,.int .i64 0,.slice none 0 0,.slice none 0 0,.slice none 0 0] 33)).setRow w10_.heap.size (sv t9 p9) = w11_ at b3 hB hI HT b5 h7 b7 h9 b9 hle ⊢
 clear hle
 refine pl_val (N:=some 10) (v:=?_) (a':=?_) rfl (by rfl) ?_ ?_ ?_
 rotate_left
 ·go_simp
  with_reducible rfl
 rotate_left
 ·simp only [Act.put,sA,sZ,sS,i64_w,i32_w]
  rfl
 refine wpList_nil ?_
 have HC:=right_c hk hI
 go_upto_region 9 with fail
 refine wp_region_list ?_
 refine pl_val (N:=some 36) (v:=.agg (sv s p)) (a':=?_) rfl (by rfl) (load_row_run 33 _ rfl (w.heap.size) rfl 33 (sv s p) _ (b3) Tryd.underlying33 rfl (by first|kernel_rfl|rfl)) ?_ ?_
 rotate_left
 ·simp only [Act.put,sA,sZ,sS,i64_w,i32_w]
  rfl
 refine pl_call Tryd.func16 (by kernel_rfl) rfl #[.agg (sv s p)] (by rfl) rfl rfl (by (try simp only [List.map_toArray,List.map_cons,List.map_nil]);first|done|rfl) ?_
 refine (HC.out).mono ?_
 rintro e_ w12_ ⟨rfl,hb⟩
 refine ⟨_,rfl,?_⟩
 replace b3:=b3.keep hb
 replace hB:=keep_below hB hb
 replace hI:=hI.below hb
 replace HT:=Lib.hid (TabIs.below HT.out hb)
 replace b5:=b5.keep hb
 replace h7:=h7.below hb
 replace b7:=b7.keep hb
 replace h9:=h9.below hb
 replace b9:=b9.keep hb
 clear hb
 refine pl_norm (a':=?_) ?_ ?_
 rotate_left
 ·first|(show Act.put _ (some 37) _ = _;simp only [Act.put,sA,sZ,sS,i64_w,i32_w];rfl)|with_reducible rfl
 clear HC
 cases hm : mayB s
 case false =>
  have hrr : r = 310:=by rw [← HQ.out.2.1];unfold readyF;rw [if_pos hm]
  clear hm
  refine pl_val (N:=some 38) (v:=?_) (a':=?_) rfl (by rfl) ?_ ?_ ?_
  rotate_left
  ·go_simp
   with_reducible rfl
  rotate_left
  ·simp only [Act.put,sA,sZ,sS,i64_w,i32_w]
   rfl
  refine wpList_nil ?_
  obtain ⟨gq,gr,g7_,ge7,g9_,ge9⟩:=HQ.out
  have hrn : ¬ readyF s = 0:=by rw [gr,hrr];decide
  have o7:=turn_off (s':=grantedS s) (b:=grantedB s) hrn
  have o9:=turn_off (s':=endedS s over) (b:=endedB s over) hrn
  have de7 : (e7 == 310) = true:=beq_iff_eq.mpr (by rw [← ge7,o7.2,gr,hrr])
  have de9 : (e9 == 310) = true:=beq_iff_eq.mpr (by rw [← ge9,o9.2,gr,hrr])
  have dr : (r == 310) = true:=beq_iff_eq.mpr hrr
  have hz7 : sameB t7 z33 = true:=by rw [← g7_,o7.1];exact sameB_refl _
  have hz9 : sameB t9 z33 = true:=by rw [← g9_,o9.1];exact sameB_refl _
  have dq : (q1 == 0 && (q2 == 0 && (q3 == 0))) = true:=by
   have hq0 : wantsT s = (0,0,0):=by unfold wantsT;rw [if_neg hrn]
   rw [hq0] at gq
   injection gq with a1 a2
   injection a2 with a2 a3
   rw [← a1,← a2,← a3]
   rfl
  have HC:=none_c hl7 h7.In
  rw [hz7] at HC
  clear gq gr g7_ ge7 g9_ ge9 hrn o7 o9 hz7 hrr
  go_upto_region 14 with fail
  refine wp_region_list ?_
  refine pl_val (N:=some 44) (v:=.agg #[.int .i64 q1,.int .u32 q2,.int .i64 q3]) (a':=?_) rfl (by rfl) (load_row_run 41 _ rfl (w4_.heap.size) rfl 41 #[.int .i64 q1,.int .u32 q2,.int .i64 q3] _ (b5) Tryd.underlying41 rfl (by first|kernel_rfl|rfl)) ?_ ?_
  rotate_left
  ·simp only [Act.put,sA,sZ,sS,i64_w,i32_w]
   rfl
  refine pl_val (N:=some 45) (v:=.agg #[.int .i64 0,.int .u32 0,.int .i64 0]) (a':=?_) rfl (by rfl) (by first|rfl|(go_simp;done)|(go_simp;rfl)) ?_ ?_
  rotate_left
  ·simp only [Act.put,sA,sZ,sS,i64_w,i32_w]
   rfl
  refine pl_val (N:=some 46) (v:=?_) (a':=?_) rfl (by rfl) ?_ ?_ ?_
  rotate_left
  ·go_simp
   with_reducible rfl
  rotate_left
  ·simp only [Act.put,sA,sZ,sS,i64_w,i32_w]
   rfl
  refine pl_val (N:=some 47) (v:=?_) (a':=?_) rfl (by rfl) ?_ ?_ ?_
  rotate_left
  ·go_simp
   with_reducible rfl
  rotate_left
  ·simp only [Act.put,sA,sZ,sS,i64_w,i32_w]
   rfl
  refine pl_val (N:=some 48) (v:=.agg (sv t7 p7)) (a':=?_) rfl (by rfl) (load_row_run 33 _ rfl (w7_.heap.size) rfl 33 (sv t7 p7) _ (b7) Tryd.underlying33 rfl (by first|kernel_rfl|rfl)) ?_ ?_
  rotate_left
  ·simp only [Act.put,sA,sZ,sS,i64_w,i32_w]
   rfl
  refine pl_call Tryd.func12 (by kernel_rfl) rfl #[.agg (sv t7 p7)] (by rfl) rfl rfl (by (try simp only [List.map_toArray,List.map_cons,List.map_nil]);first|done|rfl) ?_
  refine (HC.out).mono ?_
  rintro e_ w13_ ⟨rfl,hb⟩
  refine ⟨_,rfl,?_⟩
  replace b3:=b3.keep hb
  replace hB:=keep_below hB hb
  replace hI:=hI.below hb
  replace HT:=Lib.hid (TabIs.below HT.out hb)
  replace b5:=b5.keep hb
  replace h7:=h7.below hb
  replace b7:=b7.keep hb
  replace h9:=h9.below hb
  replace b9:=b9.keep hb
  clear hb
  refine pl_norm (a':=?_) ?_ ?_
  rotate_left
  ·first|(show Act.put _ (some 49) _ = _;simp only [Act.put,sA,sZ,sS,i64_w,i32_w];rfl)|with_reducible rfl
  clear HC
  have HC:=none_c hl9 h9.In
  rw [hz9] at HC
  clear hz9
  refine pl_val (N:=some 50) (v:=?_) (a':=?_) rfl (by rfl) ?_ ?_ ?_
  rotate_left
  ·go_simp
   with_reducible rfl
  rotate_left
  ·simp only [Act.put,sA,sZ,sS,i64_w,i32_w]
   rfl
  refine pl_val (N:=some 51) (v:=?_) (a':=?_) rfl (by rfl) ?_ ?_ ?_
  rotate_left
  ·go_simp
   with_reducible rfl
  rotate_left
  ·simp only [Act.put,sA,sZ,sS,i64_w,i32_w]
   rfl
  refine pl_val (N:=some 52) (v:=.agg (sv t9 p9)) (a':=?_) rfl (by rfl) (load_row_run 33 _ rfl (w10_.heap.size) rfl 33 (sv t9 p9) _ (b9) Tryd.underlying33 rfl (by first|kernel_rfl|rfl)) ?_ ?_
  rotate_left
  ·simp only [Act.put,sA,sZ,sS,i64_w,i32_w]
   rfl
  refine pl_call Tryd.func12 (by kernel_rfl) rfl #[.agg (sv t9 p9)] (by rfl) rfl rfl (by (try simp only [List.map_toArray,List.map_cons,List.map_nil]);first|done|rfl) ?_
  refine (HC.out).mono ?_
  rintro e_ w14_ ⟨rfl,hb⟩
  refine ⟨_,rfl,?_⟩
  replace b3:=b3.keep hb
  replace hB:=keep_below hB hb
  replace hI:=hI.below hb
  replace HT:=Lib.hid (TabIs.below HT.out hb)
  replace b5:=b5.keep hb
  replace h7:=h7.below hb
  replace b7:=b7.keep hb
  replace h9:=h9.below hb
  replace b9:=b9.keep hb
  clear hb
  refine pl_norm (a':=?_) ?_ ?_
  rotate_left
  ·first|(show Act.put _ (some 53) _ = _;simp only [Act.put,sA,sZ,sS,i64_w,i32_w];rfl)|with_reducible rfl
  refine pl_val (N:=some 54) (v:=?_) (a':=?_) rfl (by rfl) ?_ ?_ ?_
  rotate_left
  ·go_simp
   with_reducible rfl
  rotate_left
  ·simp only [Act.put,sA,sZ,sS,i64_w,i32_w]
   rfl
  refine pl_val (N:=some 55) (v:=?_) (a':=?_) rfl (by rfl) ?_ ?_ ?_
  rotate_left
  ·go_simp
   with_reducible rfl
  rotate_left
  ·simp only [Act.put,sA,sZ,sS,i64_w,i32_w]
   rfl
  refine pl_val (N:=some 56) (v:=?_) (a':=?_) rfl (by rfl) ?_ ?_ ?_
  rotate_left
  ·go_simp
   with_reducible rfl
  rotate_left
  ·simp only [Act.put,sA,sZ,sS,i64_w,i32_w]
   rfl
  refine pl_val (N:=some 57) (v:=?_) (a':=?_) rfl (by rfl) ?_ ?_ ?_
  rotate_left
  ·go_simp
   with_reducible rfl
  rotate_left
  ·simp only [Act.put,sA,sZ,sS,i64_w,i32_w]
   rfl
  refine pl_val (N:=some 58) (v:=?_) (a':=?_) rfl (by rfl) ?_ ?_ ?_
  rotate_left
  ·go_simp
   with_reducible rfl
  rotate_left
  ·simp only [Act.put,sA,sZ,sS,i64_w,i32_w]
   rfl
  refine pl_val (N:=some 59) (v:=?_) (a':=?_) rfl (by rfl) ?_ ?_ ?_
  rotate_left
  ·go_simp
   with_reducible rfl
  rotate_left
  ·simp only [Act.put,sA,sZ,sS,i64_w,i32_w]
   rfl
  refine pl_val (N:=some 60) (v:=?_) (a':=?_) rfl (by rfl) ?_ ?_ ?_
  rotate_left
  ·go_simp
   with_reducible rfl
  rotate_left
  ·simp only [Act.put,sA,sZ,sS,i64_w,i32_w]
   rfl
  refine pl_val (N:=some 61) (v:=?_) (a':=?_) rfl (by rfl) ?_ ?_ ?_
  rotate_left
  ·go_simp
   with_reducible rfl
  rotate_left
  ·simp only [Act.put,sA,sZ,sS,i64_w,i32_w]
   rfl
  refine pl_val (N:=some 62) (v:=?_) (a':=?_) rfl (by rfl) ?_ ?_ ?_
  rotate_left
  ·go_simp
   with_reducible rfl
  rotate_left
  ·simp only [Act.put,sA,sZ,sS,i64_w,i32_w]
   rfl
  refine pl_val (N:=some 63) (v:=?_) (a':=?_) rfl (by rfl) ?_ ?_ ?_
  rotate_left
  ·go_simp
   with_reducible rfl
  rotate_left
  ·simp only [Act.put,sA,sZ,sS,i64_w,i32_w]
   rfl
  refine pl_val (N:=some 64) (v:=?_) (a':=?_) rfl (by rfl) ?_ ?_ ?_
  rotate_left
  ·go_simp
   with_reducible rfl
  rotate_left
  ·simp only [Act.put,sA,sZ,sS,i64_w,i32_w]
   rfl
  refine pl_val (N:=some 65) (v:=?_) (a':=?_) rfl (by rfl) ?_ ?_ ?_
  rotate_left
  ·go_simp
   with_reducible rfl
  rotate_left
  ·simp only [Act.put,sA,sZ,sS,i64_w,i32_w]
   rfl
  refine pl_val (N:=some 66) (v:=?_) (a':=?_) rfl (by rfl) ?_ ?_ ?_
  rotate_left
  ·go_simp
   with_reducible rfl
  rotate_left
  ·simp only [Act.put,sA,sZ,sS,i64_w,i32_w]
   rfl
  refine pl_val (N:=some 67) (v:=?_) (a':=?_) rfl (by rfl) ?_ ?_ ?_
  rotate_left
  ·go_simp
   with_reducible rfl
  rotate_left
  ·simp only [Act.put,sA,sZ,sS,i64_w,i32_w]
   rfl
  refine pl_val (N:=some 68) (v:=?_) (a':=?_) rfl (by rfl) ?_ ?_ ?_
  rotate_left
  ·go_simp
   with_reducible rfl
  rotate_left
  ·simp only [Act.put,sA,sZ,sS,i64_w,i32_w]
   rfl
  refine pl_val (N:=some 69) (v:=?_) (a':=?_) rfl (by rfl) ?_ ?_ ?_
  rotate_left
  ·go_simp
   with_reducible rfl
  rotate_left
  ·simp only [Act.put,sA,sZ,sS,i64_w,i32_w]
   rfl
  refine pl_val (N:=some 4) (v:=?_) (a':=?_) rfl (by rfl) ?_ ?_ ?_
  rotate_left
  ·go_simp
   with_reducible rfl
  rotate_left
  ·simp only [Act.put,sA,sZ,sS,i64_w,i32_w]
   rfl
  refine wpList_nil ?_
  go_wp2
  go_ret
  exact ⟨rfl,hB⟩
 have HM:=Lib.hid hm
 clear hm
 refine pl_val (N:=some 38) (v:=?_) (a':=?_) rfl (by rfl) ?_ ?_ ?_
 rotate_left
 ·go_simp
  with_reducible rfl
 rotate_left
 ·simp only [Act.put,sA,sZ,sS,i64_w,i32_w]
  rfl
 refine wpList_nil ?_
 have c0:=sc0 b3
 by_cases h3 : s.f0 = 3
 case neg =>
  have e3 : (s.f0 != 3) = true:=bne_iff_ne.mpr h3
  have hrr : r = 312:=by rw [← HQ.out.2.1];unfold readyF;rw [if_neg (by rw [HM.out];simp),if_neg h3]
  clear h3
  obtain ⟨gq,gr,g7_,ge7,g9_,ge9⟩:=HQ.out
  have hrn : ¬ readyF s = 0:=by rw [gr,hrr];decide
  have o7:=turn_off (s':=grantedS s) (b:=grantedB s) hrn
  have o9:=turn_off (s':=endedS s over) (b:=endedB s over) hrn
  have de7 : (e7 == 312) = true:=beq_iff_eq.mpr (by rw [← ge7,o7.2,gr,hrr])
  have de9 : (e9 == 312) = true:=beq_iff_eq.mpr (by rw [← ge9,o9.2,gr,hrr])
  have dr : (r == 312) = true:=beq_iff_eq.mpr hrr
  have hz7 : sameB t7 z33 = true:=by rw [← g7_,o7.1];exact sameB_refl _
  have hz9 : sameB t9 z33 = true:=by rw [← g9_,o9.1];exact sameB_refl _
  have dq : (q1 == 0 && (q2 == 0 && (q3 == 0))) = true:=by
   have hq0 : wantsT s = (0,0,0):=by unfold wantsT;rw [if_neg hrn]
   rw [hq0] at gq
   injection gq with a1 a2
   injection a2 with a2 a3
   rw [← a1,← a2,← a3]
   rfl
  have HC:=none_c hl7 h7.In
  rw [hz7] at HC
  clear gq gr g7_ ge7 g9_ ge9 hrn o7 o9 hz7 hrr
  go_upto_region 14 with fail
  refine wp_region_list ?_
  refine pl_val (N:=some 44) (v:=.agg #[.int .i64 q1,.int .u32 q2,.int .i64 q3]) (a':=?_) rfl (by rfl) (load_row_run 41 _ rfl (w4_.heap.size) rfl 41 #[.int .i64 q1,.int .u32 q2,.int .i64 q3] _ (b5) Tryd.underlying41 rfl (by first|kernel_rfl|rfl)) ?_ ?_
  rotate_left
  ·simp only [Act.put,sA,sZ,sS,i64_w,i32_w]
   rfl
  refine pl_val (N:=some 45) (v:=.agg #[.int .i64 0,.int .u32 0,.int .i64 0]) (a':=?_) rfl (by rfl) (by first|rfl|(go_simp;done)|(go_simp;rfl)) ?_ ?_
  rotate_left
  ·simp only [Act.put,sA,sZ,sS,i64_w,i32_w]
   rfl
  refine pl_val (N:=some 46) (v:=?_) (a':=?_) rfl (by rfl) ?_ ?_ ?_
  rotate_left
  ·go_simp
   with_reducible rfl
  rotate_left
  ·simp only [Act.put,sA,sZ,sS,i64_w,i32_w]
   rfl
  refine pl_val (N:=some 47) (v:=?_) (a':=?_) rfl (by rfl) ?_ ?_ ?_
  rotate_left
  ·go_simp
   with_reducible rfl
  rotate_left
  ·simp only [Act.put,sA,sZ,sS,i64_w,i32_w]
   rfl
  refine pl_val (N:=some 48) (v:=.agg (sv t7 p7)) (a':=?_) rfl (by rfl) (load_row_run 33 _ rfl (w7_.heap.size) rfl 33 (sv t7 p7) _ (b7) Tryd.underlying33 rfl (by first|kernel_rfl|rfl)) ?_ ?_
  rotate_left
  ·simp only [Act.put,sA,sZ,sS,i64_w,i32_w]
   rfl
  refine pl_call Tryd.func12 (by kernel_rfl) rfl #[.agg (sv t7 p7)] (by rfl) rfl rfl (by (try simp only [List.map_toArray,List.map_cons,List.map_nil]);first|done|rfl) ?_
  refine (HC.out).mono ?_
  rintro e_ w13_ ⟨rfl,hb⟩
  refine ⟨_,rfl,?_⟩
  replace b3:=b3.keep hb
  replace hB:=keep_below hB hb
  replace hI:=hI.below hb
  replace HT:=Lib.hid (TabIs.below HT.out hb)
  replace b5:=b5.keep hb
  replace h7:=h7.below hb
  replace b7:=b7.keep hb
  replace h9:=h9.below hb
  replace b9:=b9.keep hb
  clear hb
  refine pl_norm (a':=?_) ?_ ?_
  rotate_left
  ·first|(show Act.put _ (some 49) _ = _;simp only [Act.put,sA,sZ,sS,i64_w,i32_w];rfl)|with_reducible rfl
  clear HC
  have HC:=none_c hl9 h9.In
  rw [hz9] at HC
  clear hz9
  refine pl_val (N:=some 50) (v:=?_) (a':=?_) rfl (by rfl) ?_ ?_ ?_
  rotate_left
  ·go_simp
   with_reducible rfl
  rotate_left
  ·simp only [Act.put,sA,sZ,sS,i64_w,i32_w]
   rfl
  refine pl_val (N:=some 51) (v:=?_) (a':=?_) rfl (by rfl) ?_ ?_ ?_
  rotate_left
  ·go_simp
   with_reducible rfl
  rotate_left
  ·simp only [Act.put,sA,sZ,sS,i64_w,i32_w]
   rfl
  refine pl_val (N:=some 52) (v:=.agg (sv t9 p9)) (a':=?_) rfl (by rfl) (load_row_run 33 _ rfl (w10_.heap.size) rfl 33 (sv t9 p9) _ (b9) Tryd.underlying33 rfl (by first|kernel_rfl|rfl)) ?_ ?_
  rotate_left
  ·simp only [Act.put,sA,sZ,sS,i64_w,i32_w]
   rfl
  refine pl_call Tryd.func12 (by kernel_rfl) rfl #[.agg (sv t9 p9)] (by rfl) rfl rfl (by (try simp only [List.map_toArray,List.map_cons,List.map_nil]);first|done|rfl) ?_
  refine (HC.out).mono ?_
  rintro e_ w14_ ⟨rfl,hb⟩
  refine ⟨_,rfl,?_⟩
  replace b3:=b3.keep hb
  replace hB:=keep_below hB hb
  replace hI:=hI.below hb
  replace HT:=Lib.hid (TabIs.below HT.out hb)
  replace b5:=b5.keep hb
  replace h7:=h7.below hb
  replace b7:=b7.keep hb
  replace h9:=h9.below hb
  replace b9:=b9.keep hb
  clear hb
  refine pl_norm (a':=?_) ?_ ?_
  rotate_left
  ·first|(show Act.put _ (some 53) _ = _;simp only [Act.put,sA,sZ,sS,i64_w,i32_w];rfl)|with_reducible rfl
  refine pl_val (N:=some 54) (v:=?_) (a':=?_) rfl (by rfl) ?_ ?_ ?_
  rotate_left
  ·go_simp
   with_reducible rfl
  rotate_left
  ·simp only [Act.put,sA,sZ,sS,i64_w,i32_w]
   rfl
  refine pl_val (N:=some 55) (v:=?_) (a':=?_) rfl (by rfl) ?_ ?_ ?_
  rotate_left
  ·go_simp
   with_reducible rfl
  rotate_left
  ·simp only [Act.put,sA,sZ,sS,i64_w,i32_w]
   rfl
  refine pl_val (N:=some 56) (v:=?_) (a':=?_) rfl (by rfl) ?_ ?_ ?_
  rotate_left
  ·go_simp
   with_reducible rfl
  rotate_left
  ·simp only [Act.put,sA,sZ,sS,i64_w,i32_w]
   rfl
  refine pl_val (N:=some 57) (v:=?_) (a':=?_) rfl (by rfl) ?_ ?_ ?_
  rotate_left
  ·go_simp
   with_reducible rfl
  rotate_left
  ·simp only [Act.put,sA,sZ,sS,i64_w,i32_w]
   rfl
  refine pl_val (N:=some 58) (v:=?_) (a':=?_) rfl (by rfl) ?_ ?_ ?_
  rotate_left
  ·go_simp
   with_reducible rfl
  rotate_left
  ·simp only [Act.put,sA,sZ,sS,i64_w,i32_w]
   rfl
  refine pl_val (N:=some 59) (v:=?_) (a':=?_) rfl (by rfl) ?_ ?_ ?_
  rotate_left
  ·go_simp
   with_reducible rfl
  rotate_left
  ·simp only [Act.put,sA,sZ,sS,i64_w,i32_w]
   rfl
  refine pl_val (N:=some 60) (v:=?_) (a':=?_) rfl (by rfl) ?_ ?_ ?_
  rotate_left
  ·go_simp
   with_reducible rfl
  rotate_left
  ·simp only [Act.put,sA,sZ,sS,i64_w,i32_w]
   rfl
  refine pl_val (N:=some 61) (v:=?_) (a':=?_) rfl (by rfl) ?_ ?_ ?_
  rotate_left
  ·go_simp
   with_reducible rfl
  rotate_left
  ·simp only [Act.put,sA,sZ,sS,i64_w,i32_w]
   rfl
  refine pl_val (N:=some 62) (v:=?_) (a':=?_) rfl (by rfl) ?_ ?_ ?_
  rotate_left
  ·go_simp
   with_reducible rfl
  rotate_left
  ·simp only [Act.put,sA,sZ,sS,i64_w,i32_w]
   rfl
  refine pl_val (N:=some 63) (v:=?_) (a':=?_) rfl (by rfl) ?_ ?_ ?_
  rotate_left
  ·go_simp
   with_reducible rfl
  rotate_left
  ·simp only [Act.put,sA,sZ,sS,i64_w,i32_w]
   rfl
  refine pl_val (N:=some 64) (v:=?_) (a':=?_) rfl (by rfl) ?_ ?_ ?_
  rotate_left
  ·go_simp
   with_reducible rfl
  rotate_left
  ·simp only [Act.put,sA,sZ,sS,i64_w,i32_w]
   rfl
  refine pl_val (N:=some 65) (v:=?_) (a':=?_) rfl (by rfl) ?_ ?_ ?_
  rotate_left
  ·go_simp
   with_reducible rfl
  rotate_left
  ·simp only [Act.put,sA,sZ,sS,i64_w,i32_w]
   rfl
  refine pl_val (N:=some 66) (v:=?_) (a':=?_) rfl (by rfl) ?_ ?_ ?_
  rotate_left
  ·go_simp
   with_reducible rfl
  rotate_left
  ·simp only [Act.put,sA,sZ,sS,i64_w,i32_w]
   rfl
  refine pl_val (N:=some 67) (v:=?_) (a':=?_) rfl (by rfl) ?_ ?_ ?_
  rotate_left
  ·go_simp
   with_reducible rfl
  rotate_left
  ·simp only [Act.put,sA,sZ,sS,i64_w,i32_w]
   rfl
  refine pl_val (N:=some 68) (v:=?_) (a':=?_) rfl (by rfl) ?_ ?_ ?_
  rotate_left
  ·go_simp
   with_reducible rfl
  rotate_left
  ·simp only [Act.put,sA,sZ,sS,i64_w,i32_w]
   rfl
  refine pl_val (N:=some 69) (v:=?_) (a':=?_) rfl (by rfl) ?_ ?_ ?_
  rotate_left
  ·go_simp
   with_reducible rfl
  rotate_left
  ·simp only [Act.put,sA,sZ,sS,i64_w,i32_w]
   rfl
  refine pl_val (N:=some 4) (v:=?_) (a':=?_) rfl (by rfl) ?_ ?_ ?_
  rotate_left
  ·go_simp
   with_reducible rfl
  rotate_left
  ·simp only [Act.put,sA,sZ,sS,i64_w,i32_w]
   rfl
  refine wpList_nil ?_
  go_wp2
  go_ret
  exact ⟨rfl,hB⟩
 have e3 : (s.f0 != 3) = false:=by simp [h3]
 have H3:=Lib.hid h3
 have hrr : r = 0:=by rw [← HQ.out.2.1];unfold readyF;rw [if_neg (by rw [HM.out];simp),if_pos h3]
 subst hrr
 have hw : wantT s = (q1,q2,q3):=by rw [← HQ.out.1];unfold wantsT;rw [if_pos HQ.out.2.1]
 have Hw:=Lib.hid hw
 have HC:=rwant_c hI (rwant_need HM.out h3)
 rw [rwant_may HM.out h3,hw] at HC
 clear h3 hw
 go_upto_region 15 with fail
 refine wp_region_list ?_
 refine pl_val (N:=some 70) (v:=.agg (sv s p)) (a':=?_) rfl (by rfl) (load_row_run 33 _ rfl (w.heap.size) rfl 33 (sv s p) _ (b3) Tryd.underlying33 rfl (by first|kernel_rfl|rfl)) ?_ ?_
 rotate_left
 ·simp only [Act.put,sA,sZ,sS,i64_w,i32_w]
  rfl
 refine pl_call Tryd.func22 (by kernel_rfl) rfl #[.agg (sv s p)] (by rfl) rfl rfl (by (try simp only [List.map_toArray,List.map_cons,List.map_nil]);first|done|rfl) ?_
 refine (HC.out).mono ?_
 rintro e_ w13_ ⟨rfl,hb⟩
 refine ⟨_,rfl,?_⟩
 replace b3:=b3.keep hb
 replace hB:=keep_below hB hb
 replace hI:=hI.below hb
 replace HT:=Lib.hid (TabIs.below HT.out hb)
 replace b5:=b5.keep hb
 replace h7:=h7.below hb
 replace b7:=b7.keep hb
 replace h9:=h9.below hb
 replace b9:=b9.keep hb
 clear hb
 refine pl_norm (a':=?_) ?_ ?_
 rotate_left
 ·first|(show Act.put _ (some 71) _ = _;simp only [Act.put,sA,sZ,sS,i64_w,i32_w];rfl)|with_reducible rfl
 clear HC c0
 refine pl_make (N:=some 12) (v:=.pointer (some ⟨(w13_).heap.size,0,none⟩)) (W':=(w13_).alloc (.cells #[.int .i64 0,.int .u32 0,.int .i64 0] 41)) (a':=?_) rfl (by rfl) (by first|(go_simp;done)|(go_simp;rfl)) ?_ ?_
 rotate_left
 ·simp only [Act.put,sA,sZ,sS,i64_w,i32_w]
  rfl
 have n_:=new_row w13_ #[.int .i64 0,.int .u32 0,.int .i64 0] #[.int .i64 q1,.int .u32 q2,.int .i64 q3] 41
 have b_ : Blk (w13_.alloc (.cells #[.int .i64 0,.int .u32 0,.int .i64 0] 41)) w13_.heap.size 41 #[.int .i64 0,.int .u32 0,.int .i64 0]:=Blk.new w13_ 41 _
 refine pl_skip (W':=_) rfl (by rfl) (store_row_run (g:=w13_.heap.size) 41 _ _ rfl rfl (cells:=#[.int .i64 q1,.int .u32 q2,.int .i64 q3]) rfl 41 (b_) (by first|kernel_rfl|rfl) rfl (by simp [Value.oneCell'])) ?_
 clear b_
 obtain ⟨b12,hle⟩:=n_
 have Sb12:=Lib.hid (show w.heap.size ≤ w13_.heap.size from hB.size)
 replace b3:=b3.keep hle
 replace hB:=keep_below hB hle
 replace hI:=hI.below hle
 replace HT:=Lib.hid (TabIs.below HT.out hle)
 replace b5:=b5.keep hle
 replace h7:=h7.below hle
 replace b7:=b7.keep hle
 replace h9:=h9.below hle
 replace b9:=b9.keep hle
 generalize (w13_.alloc (.cells #[.int .i64 0,.int .u32 0,.int .i64 0] 41)).setRow w13_.heap.size #[.int .i64 q1,.int .u32 q2,.int .i64 q3] = w14_ at b3 hB hI HT b5 h7 b7 h9 b9 b12 hle ⊢
 clear hle
 refine wpList_nil ?_
 have dz : ((0 : Int) != 0) = false:=by simp
 go_upto_region 16 with fail
 refine wp_region_list ?_
 refine pl_val (N:=some 72) (v:=?_) (a':=?_) rfl (by rfl) ?_ ?_ ?_
 rotate_left
 ·go_simp
  with_reducible rfl
 rotate_left
 ·simp only [Act.put,sA,sZ,sS,i64_w,i32_w]
  rfl
 refine pl_val (N:=some 73) (v:=?_) (a':=?_) rfl (by rfl) ?_ ?_ ?_
 rotate_left
 ·go_simp
  with_reducible rfl
 rotate_left
 ·simp only [Act.put,sA,sZ,sS,i64_w,i32_w]
  rfl
 refine pl_val (N:=some 74) (v:=?_) (a':=?_) rfl (by rfl) ?_ ?_ ?_
 rotate_left
 ·go_simp
  with_reducible rfl
 rotate_left
 ·simp only [Act.put,sA,sZ,sS,i64_w,i32_w]
  rfl
 refine pl_val (N:=some 75) (v:=.agg #[.int .i64 q1,.int .u32 q2,.int .i64 q3]) (a':=?_) rfl (by rfl) (load_row_run 41 _ rfl (w4_.heap.size) rfl 41 #[.int .i64 q1,.int .u32 q2,.int .i64 q3] _ (b5) Tryd.underlying41 rfl (by first|kernel_rfl|rfl)) ?_ ?_
 rotate_left
 ·simp only [Act.put,sA,sZ,sS,i64_w,i32_w]
  rfl
 refine pl_val (N:=some 76) (v:=.agg #[.int .i64 q1,.int .u32 q2,.int .i64 q3]) (a':=?_) rfl (by rfl) (load_row_run 41 _ rfl (w13_.heap.size) rfl 41 #[.int .i64 q1,.int .u32 q2,.int .i64 q3] _ (b12) Tryd.underlying41 rfl (by first|kernel_rfl|rfl)) ?_ ?_
 rotate_left
 ·simp only [Act.put,sA,sZ,sS,i64_w,i32_w]
  rfl
 refine pl_val (N:=some 77) (v:=?_) (a':=?_) rfl (by rfl) ?_ ?_ ?_
 rotate_left
 ·go_simp
  with_reducible rfl
 rotate_left
 ·simp only [Act.put,sA,sZ,sS,i64_w,i32_w]
  rfl
 refine pl_val (N:=some 78) (v:=?_) (a':=?_) rfl (by rfl) ?_ ?_ ?_
 rotate_left
 ·go_simp
  with_reducible rfl
 rotate_left
 ·simp only [Act.put,sA,sZ,sS,i64_w,i32_w]
  rfl
 refine wpList_nil ?_
 have k0:=b12.cell 0
 simp at k0
 by_cases h2 : q1 = 2
 case neg =>
  have x2 : (q1 != 2) = true:=bne_iff_ne.mpr h2
  have x2' : (q1 == 2) = false:=beq_eq_false_iff_ne.mpr h2
  have H2:=Lib.hid h2
  have og:=turn_no (s':=grantedS s) (b:=grantedB s) HQ.out.2.1 (by unfold grantedB;rw [Hw.out];exact x2')
  have de7 : (e7 != 2) = false:=by rw [← HQ.out.2.2.2.1,og.2];rfl
  have hz7 : sameB t7 z33 = true:=by rw [← HQ.out.2.2.1,og.1];exact sameB_refl _
  clear og h2
  go_upto_region 18 with fail
  refine start_ (n:=28) (S:=(fun w' => Below w14_.heap.size w14_ w')) (ds:=[]) #[ff,ff,ff,ff,ff,ff,ff,ff,ff,ff,ff,ff,ff,ff,ff,ff,ff,ff,ff,ff,ff,ff,ff,ff,ff,ff,ff,ff] (by kernel_rfl) rfl rfl (Below.drew (Below.refl _ _)) (fun hHeld => ?_)
  refine with_tabW wnq.tab18 wnq.bits18 (fun HT_ HW_ => ?_)
  have hX:=hHeld
  refine pure_ (i:=0) (N:=some 79) (v:=?_) (a':=?_) #[tt,ff,ff,ff,ff,ff,ff,ff,ff,ff,ff,ff,ff,ff,ff,ff,ff,ff,ff,ff,ff,ff,ff,ff,ff,ff,ff,ff] rfl rfl (any_of HT_.out (by kernel_rfl)) (fun _ _ _ h => h) (Or.inl ⟨by rfl,?_⟩) ?_ ?_
  rotate_left
  ·intro w'
   go_simp
   with_reducible rfl
  rotate_left
  ·simp only [Act.put,sA,sZ,sS,i64_w,i32_w]
   rfl
  refine take_ (i:=1) (N:=some 80) (v:=?_) (a':=?_) #[tt,tt,ff,ff,ff,ff,ff,ff,ff,ff,ff,ff,ff,ff,ff,ff,ff,ff,ff,ff,ff,ff,ff,ff,ff,ff,ff,ff] rfl rfl (take_ofW HT_.out HW_.out (by kernel_rfl)) (fun _ _ _ h => h) (Or.inl ⟨by rfl,?_⟩) hHeld ?_ ?_
  rotate_left
  ·rintro w' s0
   have m0:=keep_cell s0 k0
   go_simp
   with_reducible rfl
  rotate_left
  ·simp only [Act.put,sA,sZ,sS,i64_w,i32_w]
   rfl
  refine pure_ (i:=2) (N:=some 81) (v:=?_) (a':=?_) #[tt,tt,tt,ff,ff,ff,ff,ff,ff,ff,ff,ff,ff,ff,ff,ff,ff,ff,ff,ff,ff,ff,ff,ff,ff,ff,ff,ff] rfl rfl (any_of HT_.out (by kernel_rfl)) (fun _ _ _ h => h) (Or.inl ⟨by rfl,?_⟩) ?_ ?_
  rotate_left
  ·intro w'
   go_simp
   with_reducible rfl
  rotate_left
  ·simp only [Act.put,sA,sZ,sS,i64_w,i32_w]
   rfl
  refine pure_ (i:=3) (N:=some 82) (v:=?_) (a':=?_) #[tt,tt,tt,tt,ff,ff,ff,ff,ff,ff,ff,ff,ff,ff,ff,ff,ff,ff,ff,ff,ff,ff,ff,ff,ff,ff,ff,ff] rfl rfl (any_of HT_.out (by kernel_rfl)) (fun _ _ _ h => h) (Or.inl ⟨by rfl,?_⟩) ?_ ?_
  rotate_left
  ·intro w'
   go_simp
   with_reducible rfl
  rotate_left
  ·simp only [Act.put,sA,sZ,sS,i64_w,i32_w]
   rfl
  refine pure_ (i:=4) (N:=some 83) (v:=?_) (a':=?_) #[tt,tt,tt,tt,tt,ff,ff,ff,ff,ff,ff,ff,ff,ff,ff,ff,ff,ff,ff,ff,ff,ff,ff,ff,ff,ff,ff,ff] rfl rfl (any_of HT_.out (by kernel_rfl)) (fun _ _ _ h => h) (Or.inl ⟨by rfl,?_⟩) ?_ ?_
  rotate_left
  ·intro w'
   go_simp
   with_reducible rfl
  rotate_left
  ·simp only [Act.put,sA,sZ,sS,i64_w,i32_w]
   rfl
  refine pure_ (i:=5) (N:=some 84) (v:=?_) (a':=?_) #[tt,tt,tt,tt,tt,tt,ff,ff,ff,ff,ff,ff,ff,ff,ff,ff,ff,ff,ff,ff,ff,ff,ff,ff,ff,ff,ff,ff] rfl rfl (any_of HT_.out (by kernel_rfl)) (fun _ _ _ h => h) (Or.inl ⟨by rfl,?_⟩) ?_ ?_
  rotate_left
  ·intro w'
   go_simp
   with_reducible rfl
  rotate_left
  ·simp only [Act.put,sA,sZ,sS,i64_w,i32_w]
   rfl
  refine pure_ (i:=6) (N:=some 85) (v:=?_) (a':=?_) #[tt,tt,tt,tt,tt,tt,tt,ff,ff,ff,ff,ff,ff,ff,ff,ff,ff,ff,ff,ff,ff,ff,ff,ff,ff,ff,ff,ff] rfl rfl (any_of HT_.out (by kernel_rfl)) (fun _ _ _ h => h) (Or.inl ⟨by rfl,?_⟩) ?_ ?_
  rotate_left
  ·intro w'
   go_simp
   with_reducible rfl
  rotate_left
  ·simp only [Act.put,sA,sZ,sS,i64_w,i32_w]
   rfl
  refine take_ (i:=7) (N:=some 86) (v:=.agg (sv t7 p7)) (a':=?_) #[tt,tt,tt,tt,tt,tt,tt,tt,ff,ff,ff,ff,ff,ff,ff,ff,ff,ff,ff,ff,ff,ff,ff,ff,ff,ff,ff,ff] rfl rfl (take_ofW HT_.out HW_.out (by kernel_rfl)) (fun _ _ _ h => h) (Or.inl ⟨by rfl,?_⟩) hHeld ?_ ?_
  ·rintro w' s0
   exact load_row_run _ _ rfl (w7_.heap.size) rfl 33 (sv t7 p7) _ (b7.keep s0) Tryd.underlying33 rfl (by first|kernel_rfl|rfl)
  rotate_left
  ·simp only [Act.put,sA,sZ,sS]
   rfl
  have HC:=none_c hl7 (h7.below hX).In
  rw [hz7] at HC
  clear hz7
  refine one_ (i:=8) (N:=some 87) #[tt,tt,tt,tt,tt,tt,tt,tt,tt,ff,ff,ff,ff,ff,ff,ff,ff,ff,ff,ff,ff,ff,ff,ff,ff,ff,ff,ff] rfl rfl (one_of HT_.out (by kernel_rfl)) (by decide) (fun K hK => ?_)
  refine goes_ Tryd.func12 (by kernel_rfl) rfl #[.agg (sv t7 p7)] (by rfl) rfl rfl (by (try simp only [List.map_toArray,List.map_cons,List.map_nil]);first|done|rfl) ?_
  refine (HC.out).mono ?_
  rintro e_ w9 ⟨rfl,hb9⟩
  refine ⟨_,rfl,?_⟩
  replace hX:=keep_below hX hb9
  clear hb9
  refine hK.out _ _ hX (fun hHeld => ?_)
  clear hK K
  refine norm_ (a':=?_) ?_ ?_
  rotate_left
  ·first|(show Act.put _ (some 87) _ = _;simp only [Act.put,sA,sZ,sS,i64_w,i32_w];rfl)|with_reducible rfl
  clear HC
  refine pure_ (i:=9) (N:=some 88) (v:=?_) (a':=?_) #[tt,tt,tt,tt,tt,tt,tt,tt,tt,tt,ff,ff,ff,ff,ff,ff,ff,ff,ff,ff,ff,ff,ff,ff,ff,ff,ff,ff] rfl rfl (any_of HT_.out (by kernel_rfl)) (fun _ _ _ h => h) (Or.inl ⟨by rfl,?_⟩) ?_ ?_
  rotate_left
  ·intro w'
   go_simp
   with_reducible rfl
  rotate_left
  ·simp only [Act.put,sA,sZ,sS,i64_w,i32_w]
   rfl
  refine pure_ (i:=10) (N:=some 89) (v:=?_) (a':=?_) #[tt,tt,tt,tt,tt,tt,tt,tt,tt,tt,tt,ff,ff,ff,ff,ff,ff,ff,ff,ff,ff,ff,ff,ff,ff,ff,ff,ff] rfl rfl (any_of HT_.out (by kernel_rfl)) (fun _ _ _ h => h) (Or.inl ⟨by rfl,?_⟩) ?_ ?_
  rotate_left
  ·intro w'
   go_simp
   with_reducible rfl
  rotate_left
  ·simp only [Act.put,sA,sZ,sS,i64_w,i32_w]
   rfl
  refine pure_ (i:=11) (N:=some 90) (v:=?_) (a':=?_) #[tt,tt,tt,tt,tt,tt,tt,tt,tt,tt,tt,tt,ff,ff,ff,ff,ff,ff,ff,ff,ff,ff,ff,ff,ff,ff,ff,ff] rfl rfl (any_of HT_.out (by kernel_rfl)) (fun _ _ _ h => h) (Or.inl ⟨by rfl,?_⟩) ?_ ?_
  rotate_left
  ·intro w'
   go_simp
   with_reducible rfl
  rotate_left
  ·simp only [Act.put,sA,sZ,sS,i64_w,i32_w]
   rfl
  refine pure_ (i:=12) (N:=some 91) (v:=?_) (a':=?_) #[tt,tt,tt,tt,tt,tt,tt,tt,tt,tt,tt,tt,tt,ff,ff,ff,ff,ff,ff,ff,ff,ff,ff,ff,ff,ff,ff,ff] rfl rfl (any_of HT_.out (by kernel_rfl)) (fun _ _ _ h => h) (Or.inl ⟨by rfl,?_⟩) ?_ ?_
  rotate_left
  ·intro w'
   go_simp
   with_reducible rfl
  rotate_left
  ·simp only [Act.put,sA,sZ,sS,i64_w,i32_w]
   rfl
  refine pure_ (i:=13) (N:=some 92) (v:=?_) (a':=?_) #[tt,tt,tt,tt,tt,tt,tt,tt,tt,tt,tt,tt,tt,tt,ff,ff,ff,ff,ff,ff,ff,ff,ff,ff,ff,ff,ff,ff] rfl rfl (any_of HT_.out (by kernel_rfl)) (fun _ _ _ h => h) (Or.inl ⟨by rfl,?_⟩) ?_ ?_
  rotate_left
  ·intro w'
   go_simp
   with_reducible rfl
  rotate_left
  ·simp only [Act.put,sA,sZ,sS,i64_w,i32_w]
   rfl
  refine take_ (i:=14) (N:=some 93) (v:=?_) (a':=?_) #[tt,tt,tt,tt,tt,tt,tt,tt,tt,tt,tt,tt,tt,tt,tt,ff,ff,ff,ff,ff,ff,ff,ff,ff,ff,ff,ff,ff] rfl rfl (take_ofW HT_.out HW_.out (by kernel_rfl)) (fun _ _ _ h => h) (Or.inl ⟨by rfl,?_⟩) hHeld ?_ ?_
  rotate_left
  ·rintro w' s0
   have m0:=keep_cell s0 k0
   go_simp
   with_reducible rfl
  rotate_left
  ·simp only [Act.put,sA,sZ,sS,i64_w,i32_w]
   rfl
  refine pure_ (i:=15) (N:=some 94) (v:=?_) (a':=?_) #[tt,tt,tt,tt,tt,tt,tt,tt,tt,tt,tt,tt,tt,tt,tt,tt,ff,ff,ff,ff,ff,ff,ff,ff,ff,ff,ff,ff] rfl rfl (any_of HT_.out (by kernel_rfl)) (fun _ _ _ h => h) (Or.inl ⟨by rfl,?_⟩) ?_ ?_
  rotate_left
  ·intro w'
   go_simp
   with_reducible rfl
  rotate_left
  ·simp only [Act.put,sA,sZ,sS,i64_w,i32_w]
   rfl
  refine pure_ (i:=16) (N:=some 95) (v:=?_) (a':=?_) #[tt,tt,tt,tt,tt,tt,tt,tt,tt,tt,tt,tt,tt,tt,tt,tt,tt,ff,ff,ff,ff,ff,ff,ff,ff,ff,ff,ff] rfl rfl (any_of HT_.out (by kernel_rfl)) (fun _ _ _ h => h) (Or.inl ⟨by rfl,?_⟩) ?_ ?_
  rotate_left
  ·intro w'
   go_simp
   with_reducible rfl
  rotate_left
  ·simp only [Act.put,sA,sZ,sS,i64_w,i32_w]
   rfl
  refine pure_ (i:=17) (N:=some 96) (v:=undef) (a':=?_) #[tt,tt,tt,tt,tt,tt,tt,tt,tt,tt,tt,tt,tt,tt,tt,tt,tt,tt,ff,ff,ff,ff,ff,ff,ff,ff,ff,ff] rfl rfl (any_of HT_.out (by kernel_rfl)) (fun _ _ _ h => h) (Or.inr ⟨by rfl,rfl⟩) ?_ ?_
  rotate_left
  ·simp only [Act.put,sA,sZ,sS]
   rfl
  refine pure_ (i:=18) (N:=some 97) (v:=undef) (a':=?_) #[tt,tt,tt,tt,tt,tt,tt,tt,tt,tt,tt,tt,tt,tt,tt,tt,tt,tt,tt,ff,ff,ff,ff,ff,ff,ff,ff,ff] rfl rfl (any_of HT_.out (by kernel_rfl)) (fun _ _ _ h => h) (Or.inr ⟨by rfl,rfl⟩) ?_ ?_
  rotate_left
  ·simp only [Act.put,sA,sZ,sS]
   rfl
  refine pure_ (i:=19) (N:=some 98) (v:=undef) (a':=?_) #[tt,tt,tt,tt,tt,tt,tt,tt,tt,tt,tt,tt,tt,tt,tt,tt,tt,tt,tt,tt,ff,ff,ff,ff,ff,ff,ff,ff] rfl rfl (any_of HT_.out (by kernel_rfl)) (fun _ _ _ h => h) (Or.inr ⟨by rfl,rfl⟩) ?_ ?_
  rotate_left
  ·simp only [Act.put,sA,sZ,sS]
   rfl
  refine pure_ (i:=20) (N:=some 99) (v:=undef) (a':=?_) #[tt,tt,tt,tt,tt,tt,tt,tt,tt,tt,tt,tt,tt,tt,tt,tt,tt,tt,tt,tt,tt,ff,ff,ff,ff,ff,ff,ff] rfl rfl (any_of HT_.out (by kernel_rfl)) (fun _ _ _ h => h) (Or.inr ⟨by rfl,rfl⟩) ?_ ?_
  rotate_left
  ·simp only [Act.put,sA,sZ,sS]
   rfl
  refine pure_ (i:=21) (N:=some 100) (v:=undef) (a':=?_) #[tt,tt,tt,tt,tt,tt,tt,tt,tt,tt,tt,tt,tt,tt,tt,tt,tt,tt,tt,tt,tt,tt,ff,ff,ff,ff,ff,ff] rfl rfl (any_of HT_.out (by kernel_rfl)) (fun _ _ _ h => h) (Or.inr ⟨by rfl,rfl⟩) ?_ ?_
  rotate_left
  ·simp only [Act.put,sA,sZ,sS]
   rfl
  refine pure_ (i:=22) (N:=some 101) (v:=undef) (a':=?_) #[tt,tt,tt,tt,tt,tt,tt,tt,tt,tt,tt,tt,tt,tt,tt,tt,tt,tt,tt,tt,tt,tt,tt,ff,ff,ff,ff,ff] rfl rfl (any_of HT_.out (by kernel_rfl)) (fun _ _ _ h => h) (Or.inr ⟨by rfl,rfl⟩) ?_ ?_
  rotate_left
  ·simp only [Act.put,sA,sZ,sS]
   rfl
  refine pure_ (i:=23) (N:=some 102) (v:=undef) (a':=?_) #[tt,tt,tt,tt,tt,tt,tt,tt,tt,tt,tt,tt,tt,tt,tt,tt,tt,tt,tt,tt,tt,tt,tt,tt,ff,ff,ff,ff] rfl rfl (any_of HT_.out (by kernel_rfl)) (fun _ _ _ h => h) (Or.inr ⟨by rfl,rfl⟩) ?_ ?_
  rotate_left
  ·simp only [Act.put,sA,sZ,sS]
   rfl
  refine pure_ (i:=24) (N:=some 103) (v:=undef) (a':=?_) #[tt,tt,tt,tt,tt,tt,tt,tt,tt,tt,tt,tt,tt,tt,tt,tt,tt,tt,tt,tt,tt,tt,tt,tt,tt,ff,ff,ff] rfl rfl (any_of HT_.out (by kernel_rfl)) (fun _ _ _ h => h) (Or.inr ⟨by rfl,rfl⟩) ?_ ?_
  rotate_left
  ·simp only [Act.put,sA,sZ,sS]
   rfl
  refine pure_ (i:=25) (N:=some 104) (v:=undef) (a':=?_) #[tt,tt,tt,tt,tt,tt,tt,tt,tt,tt,tt,tt,tt,tt,tt,tt,tt,tt,tt,tt,tt,tt,tt,tt,tt,tt,ff,ff] rfl rfl (any_of HT_.out (by kernel_rfl)) (fun _ _ _ h => h) (Or.inr ⟨by rfl,rfl⟩) ?_ ?_
  rotate_left
  ·simp only [Act.put,sA,sZ,sS]
   rfl
  refine pure_ (i:=26) (N:=some 105) (v:=?_) (a':=?_) #[tt,tt,tt,tt,tt,tt,tt,tt,tt,tt,tt,tt,tt,tt,tt,tt,tt,tt,tt,tt,tt,tt,tt,tt,tt,tt,tt,ff] rfl rfl (any_of HT_.out (by kernel_rfl)) (fun _ _ _ h => h) (Or.inl ⟨by rfl,?_⟩) ?_ ?_
  rotate_left
  ·intro w'
   go_simp
   with_reducible rfl
  rotate_left
  ·simp only [Act.put,sA,sZ,sS,i64_w,i32_w]
   rfl
  refine pure_ (i:=27) (N:=some 106) (v:=?_) (a':=?_) #[tt,tt,tt,tt,tt,tt,tt,tt,tt,tt,tt,tt,tt,tt,tt,tt,tt,tt,tt,tt,tt,tt,tt,tt,tt,tt,tt,tt] rfl rfl (any_of HT_.out (by kernel_rfl)) (fun _ _ _ h => h) (Or.inl ⟨by rfl,?_⟩) ?_ ?_
  rotate_left
  ·intro w'
   go_simp
   with_reducible rfl
  rotate_left
  ·simp only [Act.put,sA,sZ,sS,i64_w,i32_w]
   rfl
  refine done_ (done_of HT_.out (by kernel_rfl)) ?_
  clear x2 x2' de7
  replace b3:=b3.keep hX
  replace hB:=keep_below hB hX
  replace hI:=hI.below hX
  replace HT:=Lib.hid (TabIs.below HT.out hX)
  replace b5:=b5.keep hX
  replace h7:=h7.below hX
  replace b7:=b7.keep hX
  replace h9:=h9.below hX
  replace b9:=b9.keep hX
  replace b12:=b12.keep hX
  clear hX hHeld k0
  have k0:=b12.cell 0
  simp at k0
  cases over
  case true =>
   have oe:=turn_yes (s':=endedS s true) (b:=endedB s true) HQ.out.2.1 (by simp [endedB])
   have de9 : (e9 == 0) = true:=beq_iff_eq.mpr (by rw [← HQ.out.2.2.2.2.2,oe.2])
   have hs9 : sameB t9 wS = true:=by rw [← HQ.out.2.2.2.2.1,oe.1];exact sameB_refl _
   have HC:=rsame_c (t:=wS) (q:=p0) hl9 h9.In (In.zero _)
   rw [hs9] at HC
   clear hs9 oe
   go_upto_region 21 with fail
   refine wp_region_list ?_
   refine pl_val (N:=some 109) (v:=?_) (a':=?_) rfl (by rfl) ?_ ?_ ?_
   rotate_left
   ·go_simp
    with_reducible rfl
   rotate_left
   ·simp only [Act.put,sA,sZ,sS,i64_w,i32_w]
    rfl
   refine pl_val (N:=some 110) (v:=?_) (a':=?_) rfl (by rfl) ?_ ?_ ?_
   rotate_left
   ·go_simp
    with_reducible rfl
   rotate_left
   ·simp only [Act.put,sA,sZ,sS,i64_w,i32_w]
    rfl
   refine pl_val (N:=some 111) (v:=?_) (a':=?_) rfl (by rfl) ?_ ?_ ?_
   rotate_left
   ·go_simp
    with_reducible rfl
   rotate_left
   ·simp only [Act.put,sA,sZ,sS,i64_w,i32_w]
    rfl
   refine pl_val (N:=some 112) (v:=.agg (sv t9 p9)) (a':=?_) rfl (by rfl) (load_row_run 33 _ rfl (w10_.heap.size) rfl 33 (sv t9 p9) _ (b9) Tryd.underlying33 rfl (by first|kernel_rfl|rfl)) ?_ ?_
   rotate_left
   ·simp only [Act.put,sA,sZ,sS,i64_w,i32_w]
    rfl
   refine pl_val (N:=some 113) (v:=.agg (sv wS p0)) (a':=?_) rfl (by rfl) (by first|rfl|(go_simp;done)|(go_simp;rfl)) ?_ ?_
   rotate_left
   ·simp only [Act.put,sA,sZ,sS,i64_w,i32_w]
    rfl
   refine pl_call Tryd.func15 (by kernel_rfl) rfl #[.agg (sv t9 p9),.agg (sv wS p0)] (by rfl) rfl rfl (by (try simp only [List.map_toArray,List.map_cons,List.map_nil]);first|done|rfl) ?_
   refine (HC.out).mono ?_
   rintro e_ w15_ ⟨rfl,hb⟩
   refine ⟨_,rfl,?_⟩
   replace b3:=b3.keep hb
   replace hB:=keep_below hB hb
   replace hI:=hI.below hb
   replace HT:=Lib.hid (TabIs.below HT.out hb)
   replace b5:=b5.keep hb
   replace h7:=h7.below hb
   replace b7:=b7.keep hb
   replace h9:=h9.below hb
   replace b9:=b9.keep hb
   replace b12:=b12.keep hb
   clear hb
   refine pl_norm (a':=?_) ?_ ?_
   rotate_left
   ·first|(show Act.put _ (some 114) _ = _;simp only [Act.put,sA,sZ,sS,i64_w,i32_w];rfl)|with_reducible rfl
   refine pl_val (N:=some 115) (v:=?_) (a':=?_) rfl (by rfl) ?_ ?_ ?_
   rotate_left
   ·go_simp
    with_reducible rfl
   rotate_left
   ·simp only [Act.put,sA,sZ,sS,i64_w,i32_w]
    rfl
   refine pl_val (N:=some 4) (v:=?_) (a':=?_) rfl (by rfl) ?_ ?_ ?_
   rotate_left
   ·go_simp
    with_reducible rfl
   rotate_left
   ·simp only [Act.put,sA,sZ,sS,i64_w,i32_w]
    rfl
   refine wpList_nil ?_
   go_wp2
   go_ret
   exact ⟨rfl,hB⟩
  have d2 : (q1 == 2) = false:=beq_eq_false_iff_ne.mpr H2.out
  by_cases h1 : q1 = 1
  case pos =>
   have d1 : (q1 == 1) = true:=beq_iff_eq.mpr h1
   have H1:=Lib.hid h1
   clear h1
   have oe:=turn_no (s':=endedS s false) (b:=endedB s false) HQ.out.2.1 (by unfold endedB;rw [Hw.out];simp [H1.out])
   have de9 : (e9 == 2) = true:=beq_iff_eq.mpr (by rw [← HQ.out.2.2.2.2.2,oe.2])
   have hz9 : sameB t9 z33 = true:=by rw [← HQ.out.2.2.2.2.1,oe.1];exact sameB_refl _
   have HC:=none_c hl9 h9.In
   rw [hz9] at HC
   clear hz9 oe
   go_upto_region 23 with fail
   refine wp_region_list ?_
   refine pl_val (N:=some 135) (v:=?_) (a':=?_) rfl (by rfl) ?_ ?_ ?_
   rotate_left
   ·go_simp
    with_reducible rfl
   rotate_left
   ·simp only [Act.put,sA,sZ,sS,i64_w,i32_w]
    rfl
   refine pl_val (N:=some 136) (v:=?_) (a':=?_) rfl (by rfl) ?_ ?_ ?_
   rotate_left
   ·go_simp
    with_reducible rfl
   rotate_left
   ·simp only [Act.put,sA,sZ,sS,i64_w,i32_w]
    rfl
   refine pl_val (N:=some 137) (v:=?_) (a':=?_) rfl (by rfl) ?_ ?_ ?_
   rotate_left
   ·go_simp
    with_reducible rfl
   rotate_left
   ·simp only [Act.put,sA,sZ,sS,i64_w,i32_w]
    rfl
   refine pl_val (N:=some 138) (v:=.agg (sv t9 p9)) (a':=?_) rfl (by rfl) (load_row_run 33 _ rfl (w10_.heap.size) rfl 33 (sv t9 p9) _ (b9) Tryd.underlying33 rfl (by first|kernel_rfl|rfl)) ?_ ?_
   rotate_left
   ·simp only [Act.put,sA,sZ,sS,i64_w,i32_w]
    rfl
   refine pl_call Tryd.func12 (by kernel_rfl) rfl #[.agg (sv t9 p9)] (by rfl) rfl rfl (by (try simp only [List.map_toArray,List.map_cons,List.map_nil]);first|done|rfl) ?_
   refine (HC.out).mono ?_
   rintro e_ w15_ ⟨rfl,hb⟩
   refine ⟨_,rfl,?_⟩
   replace b3:=b3.keep hb
   replace hB:=keep_below hB hb
   replace hI:=hI.below hb
   replace HT:=Lib.hid (TabIs.below HT.out hb)
   replace b5:=b5.keep hb
   replace h7:=h7.below hb
   replace b7:=b7.keep hb
   replace h9:=h9.below hb
   replace b9:=b9.keep hb
   replace b12:=b12.keep hb
   clear hb
   refine pl_norm (a':=?_) ?_ ?_
   rotate_left
   ·first|(show Act.put _ (some 139) _ = _;simp only [Act.put,sA,sZ,sS,i64_w,i32_w];rfl)|with_reducible rfl
   refine pl_val (N:=some 140) (v:=?_) (a':=?_) rfl (by rfl) ?_ ?_ ?_
   rotate_left
   ·go_simp
    with_reducible rfl
   rotate_left
   ·simp only [Act.put,sA,sZ,sS,i64_w,i32_w]
    rfl
   refine pl_val (N:=some 4) (v:=?_) (a':=?_) rfl (by rfl) ?_ ?_ ?_
   rotate_left
   ·go_simp
    with_reducible rfl
   rotate_left
   ·simp only [Act.put,sA,sZ,sS,i64_w,i32_w]
    rfl
   refine wpList_nil ?_
   go_wp2
   go_ret
   exact ⟨rfl,hB⟩
  have d1 : (q1 == 1) = false:=beq_eq_false_iff_ne.mpr h1
  have H1:=Lib.hid h1
  clear h1
  by_cases h5 : q1 = 5
  case pos =>
   have d5 : (q1 == 5) = true:=beq_iff_eq.mpr h5
   have H5:=Lib.hid h5
   clear h5
   have oe:=turn_no (s':=endedS s false) (b:=endedB s false) HQ.out.2.1 (by unfold endedB;rw [Hw.out];simp [H5.out])
   have de9 : (e9 == 2) = true:=beq_iff_eq.mpr (by rw [← HQ.out.2.2.2.2.2,oe.2])
   have hz9 : sameB t9 z33 = true:=by rw [← HQ.out.2.2.2.2.1,oe.1];exact sameB_refl _
   have HC:=none_c hl9 h9.In
   rw [hz9] at HC
   clear hz9 oe
   go_upto_region 23 with fail
   refine wp_region_list ?_
   refine pl_val (N:=some 135) (v:=?_) (a':=?_) rfl (by rfl) ?_ ?_ ?_
   rotate_left
   ·go_simp
    with_reducible rfl
   rotate_left
   ·simp only [Act.put,sA,sZ,sS,i64_w,i32_w]
    rfl
   refine pl_val (N:=some 136) (v:=?_) (a':=?_) rfl (by rfl) ?_ ?_ ?_
   rotate_left
   ·go_simp
    with_reducible rfl
   rotate_left
   ·simp only [Act.put,sA,sZ,sS,i64_w,i32_w]
    rfl
   refine pl_val (N:=some 137) (v:=?_) (a':=?_) rfl (by rfl) ?_ ?_ ?_
   rotate_left
   ·go_simp
    with_reducible rfl
   rotate_left
   ·simp only [Act.put,sA,sZ,sS,i64_w,i32_w]
    rfl
   refine pl_val (N:=some 138) (v:=.agg (sv t9 p9)) (a':=?_) rfl (by rfl) (load_row_run 33 _ rfl (w10_.heap.size) rfl 33 (sv t9 p9) _ (b9) Tryd.underlying33 rfl (by first|kernel_rfl|rfl)) ?_ ?_
   rotate_left
   ·simp only [Act.put,sA,sZ,sS,i64_w,i32_w]
    rfl
   refine pl_call Tryd.func12 (by kernel_rfl) rfl #[.agg (sv t9 p9)] (by rfl) rfl rfl (by (try simp only [List.map_toArray,List.map_cons,List.map_nil]);first|done|rfl) ?_
   refine (HC.out).mono ?_
   rintro e_ w15_ ⟨rfl,hb⟩
   refine ⟨_,rfl,?_⟩
   replace b3:=b3.keep hb
   replace hB:=keep_below hB hb
   replace hI:=hI.below hb
   replace HT:=Lib.hid (TabIs.below HT.out hb)
   replace b5:=b5.keep hb
   replace h7:=h7.below hb
   replace b7:=b7.keep hb
   replace h9:=h9.below hb
   replace b9:=b9.keep hb
   replace b12:=b12.keep hb
   clear hb
   refine pl_norm (a':=?_) ?_ ?_
   rotate_left
   ·first|(show Act.put _ (some 139) _ = _;simp only [Act.put,sA,sZ,sS,i64_w,i32_w];rfl)|with_reducible rfl
   refine pl_val (N:=some 140) (v:=?_) (a':=?_) rfl (by rfl) ?_ ?_ ?_
   rotate_left
   ·go_simp
    with_reducible rfl
   rotate_left
   ·simp only [Act.put,sA,sZ,sS,i64_w,i32_w]
    rfl
   refine pl_val (N:=some 4) (v:=?_) (a':=?_) rfl (by rfl) ?_ ?_ ?_
   rotate_left
   ·go_simp
    with_reducible rfl
   rotate_left
   ·simp only [Act.put,sA,sZ,sS,i64_w,i32_w]
    rfl
   refine wpList_nil ?_
   go_wp2
   go_ret
   exact ⟨rfl,hB⟩
  have d5 : (q1 == 5) = false:=beq_eq_false_iff_ne.mpr h5
  have H5:=Lib.hid h5
  clear h5
  by_cases h6 : q1 = 6
  case pos =>
   have d6 : (q1 == 6) = true:=beq_iff_eq.mpr h6
   have H6:=Lib.hid h6
   clear h6
   have oe:=turn_no (s':=endedS s false) (b:=endedB s false) HQ.out.2.1 (by unfold endedB;rw [Hw.out];simp [H6.out])
   have de9 : (e9 == 2) = true:=beq_iff_eq.mpr (by rw [← HQ.out.2.2.2.2.2,oe.2])
   have hz9 : sameB t9 z33 = true:=by rw [← HQ.out.2.2.2.2.1,oe.1];exact sameB_refl _
   have HC:=none_c hl9 h9.In
   rw [hz9] at HC
   clear hz9 oe
   go_upto_region 23 with fail
   refine wp_region_list ?_
   refine pl_val (N:=some 135) (v:=?_) (a':=?_) rfl (by rfl) ?_ ?_ ?_
   rotate_left
   ·go_simp
    with_reducible rfl
   rotate_left
   ·simp only [Act.put,sA,sZ,sS,i64_w,i32_w]
    rfl
   refine pl_val (N:=some 136) (v:=?_) (a':=?_) rfl (by rfl) ?_ ?_ ?_
   rotate_left
   ·go_simp
    with_reducible rfl
   rotate_left
   ·simp only [Act.put,sA,sZ,sS,i64_w,i32_w]
    rfl
   refine pl_val (N:=some 137) (v:=?_) (a':=?_) rfl (by rfl) ?_ ?_ ?_
   rotate_left
   ·go_simp
    with_reducible rfl
   rotate_left
   ·simp only [Act.put,sA,sZ,sS,i64_w,i32_w]
    rfl
   refine pl_val (N:=some 138) (v:=.agg (sv t9 p9)) (a':=?_) rfl (by rfl) (load_row_run 33 _ rfl (w10_.heap.size) rfl 33 (sv t9 p9) _ (b9) Tryd.underlying33 rfl (by first|kernel_rfl|rfl)) ?_ ?_
   rotate_left
   ·simp only [Act.put,sA,sZ,sS,i64_w,i32_w]
    rfl
   refine pl_call Tryd.func12 (by kernel_rfl) rfl #[.agg (sv t9 p9)] (by rfl) rfl rfl (by (try simp only [List.map_toArray,List.map_cons,List.map_nil]);first|done|rfl) ?_
   refine (HC.out).mono ?_
   rintro e_ w15_ ⟨rfl,hb⟩
   refine ⟨_,rfl,?_⟩
   replace b3:=b3.keep hb
   replace hB:=keep_below hB hb
   replace hI:=hI.below hb
   replace HT:=Lib.hid (TabIs.below HT.out hb)
   replace b5:=b5.keep hb
   replace h7:=h7.below hb
   replace b7:=b7.keep hb
   replace h9:=h9.below hb
   replace b9:=b9.keep hb
   replace b12:=b12.keep hb
   clear hb
   refine pl_norm (a':=?_) ?_ ?_
   rotate_left
   ·first|(show Act.put _ (some 139) _ = _;simp only [Act.put,sA,sZ,sS,i64_w,i32_w];rfl)|with_reducible rfl
   refine pl_val (N:=some 140) (v:=?_) (a':=?_) rfl (by rfl) ?_ ?_ ?_
   rotate_left
   ·go_simp
    with_reducible rfl
   rotate_left
   ·simp only [Act.put,sA,sZ,sS,i64_w,i32_w]
    rfl
   refine pl_val (N:=some 4) (v:=?_) (a':=?_) rfl (by rfl) ?_ ?_ ?_
   rotate_left
   ·go_simp
    with_reducible rfl
   rotate_left
   ·simp only [Act.put,sA,sZ,sS,i64_w,i32_w]
    rfl
   refine wpList_nil ?_
   go_wp2
   go_ret
   exact ⟨rfl,hB⟩
  have d6 : (q1 == 6) = false:=beq_eq_false_iff_ne.mpr h6
  have H6:=Lib.hid h6
  clear h6
  have oe:=turn_yes (s':=endedS s false) (b:=endedB s false) HQ.out.2.1 (by unfold endedB;rw [Hw.out];simp [H1.out,H2.out,H5.out,H6.out])
  have de9 : (e9 == 0) = true:=beq_iff_eq.mpr (by rw [← HQ.out.2.2.2.2.2,oe.2])
  have hs9 : sameB t9 (endedS s false) = true:=by rw [← HQ.out.2.2.2.2.1,oe.1];exact sameB_refl _
  have HC:=rsame_c (t:=endedS s false) (q:=p0) hl9 h9.In (In.zero _)
  rw [hs9] at HC
  clear hs9 oe
  have c1:=sc1 b3
  have c2:=sc2 b3
  have c3:=sc3 b3
  go_upto_region 24 with fail
  refine wp_region_list ?_
  refine pl_val (N:=some 141) (v:=?_) (a':=?_) rfl (by rfl) ?_ ?_ ?_
  rotate_left
  ·go_simp
   with_reducible rfl
  rotate_left
  ·simp only [Act.put,sA,sZ,sS,i64_w,i32_w]
   rfl
  refine pl_val (N:=some 142) (v:=?_) (a':=?_) rfl (by rfl) ?_ ?_ ?_
  rotate_left
  ·go_simp
   with_reducible rfl
  rotate_left
  ·simp only [Act.put,sA,sZ,sS,i64_w,i32_w]
   rfl
  refine pl_val (N:=some 143) (v:=?_) (a':=?_) rfl (by rfl) ?_ ?_ ?_
  rotate_left
  ·go_simp
   with_reducible rfl
  rotate_left
  ·simp only [Act.put,sA,sZ,sS,i64_w,i32_w]
   rfl
  refine pl_val (N:=some 144) (v:=.agg (sv t9 p9)) (a':=?_) rfl (by rfl) (load_row_run 33 _ rfl (w10_.heap.size) rfl 33 (sv t9 p9) _ (b9) Tryd.underlying33 rfl (by first|kernel_rfl|rfl)) ?_ ?_
  rotate_left
  ·simp only [Act.put,sA,sZ,sS,i64_w,i32_w]
   rfl
  refine pl_val (N:=some 145) (v:=?_) (a':=?_) rfl (by rfl) ?_ ?_ ?_
  rotate_left
  ·go_simp
   with_reducible rfl
  rotate_left
  ·simp only [Act.put,sA,sZ,sS,i64_w,i32_w]
   rfl
  refine pl_val (N:=some 146) (v:=?_) (a':=?_) rfl (by rfl) ?_ ?_ ?_
  rotate_left
  ·go_simp
   with_reducible rfl
  rotate_left
  ·simp only [Act.put,sA,sZ,sS,i64_w,i32_w]
   rfl
  refine pl_val (N:=some 147) (v:=?_) (a':=?_) rfl (by rfl) ?_ ?_ ?_
  rotate_left
  ·go_simp
   with_reducible rfl
  rotate_left
  ·simp only [Act.put,sA,sZ,sS,i64_w,i32_w]
   rfl
  refine pl_val (N:=some 148) (v:=?_) (a':=?_) rfl (by rfl) ?_ ?_ ?_
  rotate_left
  ·go_simp
   with_reducible rfl
  rotate_left
  ·simp only [Act.put,sA,sZ,sS,i64_w,i32_w]
   rfl
  refine pl_val (N:=some 149) (v:=?_) (a':=?_) rfl (by rfl) ?_ ?_ ?_
  rotate_left
  ·go_simp
   with_reducible rfl
  rotate_left
  ·simp only [Act.put,sA,sZ,sS,i64_w,i32_w]
   rfl
  refine pl_val (N:=some 150) (v:=?_) (a':=?_) rfl (by rfl) ?_ ?_ ?_
  rotate_left
  ·go_simp
   with_reducible rfl
  rotate_left
  ·simp only [Act.put,sA,sZ,sS,i64_w,i32_w]
   rfl
  refine pl_val (N:=some 151) (v:=.agg (sv (endedS s false) p0)) (a':=?_) rfl (by rfl) (by first|rfl|(go_simp;done)|(go_simp;rfl)) ?_ ?_
  rotate_left
  ·simp only [Act.put,sA,sZ,sS,i64_w,i32_w]
   rfl
  refine pl_call Tryd.func15 (by kernel_rfl) rfl #[.agg (sv t9 p9),.agg (sv (endedS s false) p0)] (by rfl) rfl rfl (by (try simp only [List.map_toArray,List.map_cons,List.map_nil]);first|done|rfl) ?_
  refine (HC.out).mono ?_
  rintro e_ w15_ ⟨rfl,hb⟩
  refine ⟨_,rfl,?_⟩
  replace b3:=b3.keep hb
  replace hB:=keep_below hB hb
  replace hI:=hI.below hb
  replace HT:=Lib.hid (TabIs.below HT.out hb)
  replace b5:=b5.keep hb
  replace h7:=h7.below hb
  replace b7:=b7.keep hb
  replace h9:=h9.below hb
  replace b9:=b9.keep hb
  replace b12:=b12.keep hb
  clear hb
  refine pl_norm (a':=?_) ?_ ?_
  rotate_left
  ·first|(show Act.put _ (some 152) _ = _;simp only [Act.put,sA,sZ,sS,i64_w,i32_w];rfl)|with_reducible rfl
  refine pl_val (N:=some 153) (v:=?_) (a':=?_) rfl (by rfl) ?_ ?_ ?_
  rotate_left
  ·go_simp
   with_reducible rfl
  rotate_left
  ·simp only [Act.put,sA,sZ,sS,i64_w,i32_w]
   rfl
  refine pl_val (N:=some 4) (v:=?_) (a':=?_) rfl (by rfl) ?_ ?_ ?_
  rotate_left
  ·go_simp
   with_reducible rfl
  rotate_left
  ·simp only [Act.put,sA,sZ,sS,i64_w,i32_w]
   rfl
  refine wpList_nil ?_
  go_wp2
  go_ret
  exact ⟨rfl,hB⟩
 have x2 : (q1 != 2) = false:=by simp [h2]
 have x2' : (q1 == 2) = true:=beq_iff_eq.mpr h2
 have H2:=Lib.hid h2
 have og:=turn_yes (s':=grantedS s) (b:=grantedB s) HQ.out.2.1 (by unfold grantedB;rw [Hw.out];exact x2')
 have de7 : (e7 != 0) = false:=by rw [← HQ.out.2.2.2.1,og.2];rfl
 have hgm:=granted_may HM.out H3.out (by rw [Hw.out];exact h2)
 have hs7 : sameB t7 (rgrantedS s) = true:=by rw [← HQ.out.2.2.1,og.1,hgm.1];exact sameB_refl _
 have HN:=Lib.hid hgm.2
 clear og h2 hgm
 go_upto_region 18 with fail
 refine start_ (n:=28) (S:=(fun w' => Below w14_.heap.size w14_ w')) (ds:=[]) #[ff,ff,ff,ff,ff,ff,ff,ff,ff,ff,ff,ff,ff,ff,ff,ff,ff,ff,ff,ff,ff,ff,ff,ff,ff,ff,ff,ff] (by kernel_rfl) rfl rfl (Below.drew (Below.refl _ _)) (fun hHeld => ?_)
 refine with_tabW wnq.tab18 wnq.bits18 (fun HT_ HW_ => ?_)
 have hX:=hHeld
 refine pure_ (i:=0) (N:=some 79) (v:=?_) (a':=?_) #[tt,ff,ff,ff,ff,ff,ff,ff,ff,ff,ff,ff,ff,ff,ff,ff,ff,ff,ff,ff,ff,ff,ff,ff,ff,ff,ff,ff] rfl rfl (any_of HT_.out (by kernel_rfl)) (fun _ _ _ h => h) (Or.inl ⟨by rfl,?_⟩) ?_ ?_
 rotate_left
 ·intro w'
  go_simp
  with_reducible rfl
 rotate_left
 ·simp only [Act.put,sA,sZ,sS,i64_w,i32_w]
  rfl
 refine take_ (i:=1) (N:=some 80) (v:=?_) (a':=?_) #[tt,tt,ff,ff,ff,ff,ff,ff,ff,ff,ff,ff,ff,ff,ff,ff,ff,ff,ff,ff,ff,ff,ff,ff,ff,ff,ff,ff] rfl rfl (take_ofW HT_.out HW_.out (by kernel_rfl)) (fun _ _ _ h => h) (Or.inl ⟨by rfl,?_⟩) hHeld ?_ ?_
 rotate_left
 ·rintro w' s0
  have m0:=keep_cell s0 k0
  go_simp
  with_reducible rfl
 rotate_left
 ·simp only [Act.put,sA,sZ,sS,i64_w,i32_w]
  rfl
 refine pure_ (i:=2) (N:=some 81) (v:=?_) (a':=?_) #[tt,tt,tt,ff,ff,ff,ff,ff,ff,ff,ff,ff,ff,ff,ff,ff,ff,ff,ff,ff,ff,ff,ff,ff,ff,ff,ff,ff] rfl rfl (any_of HT_.out (by kernel_rfl)) (fun _ _ _ h => h) (Or.inl ⟨by rfl,?_⟩) ?_ ?_
 rotate_left
 ·intro w'
  go_simp
  with_reducible rfl
 rotate_left
 ·simp only [Act.put,sA,sZ,sS,i64_w,i32_w]
  rfl
 refine pure_ (i:=3) (N:=some 82) (v:=?_) (a':=?_) #[tt,tt,tt,tt,ff,ff,ff,ff,ff,ff,ff,ff,ff,ff,ff,ff,ff,ff,ff,ff,ff,ff,ff,ff,ff,ff,ff,ff] rfl rfl (any_of HT_.out (by kernel_rfl)) (fun _ _ _ h => h) (Or.inl ⟨by rfl,?_⟩) ?_ ?_
 rotate_left
 ·intro w'
  go_simp
  with_reducible rfl
 rotate_left
 ·simp only [Act.put,sA,sZ,sS,i64_w,i32_w]
  rfl
 refine pure_ (i:=4) (N:=some 83) (v:=undef) (a':=?_) #[tt,tt,tt,tt,tt,ff,ff,ff,ff,ff,ff,ff,ff,ff,ff,ff,ff,ff,ff,ff,ff,ff,ff,ff,ff,ff,ff,ff] rfl rfl (any_of HT_.out (by kernel_rfl)) (fun _ _ _ h => h) (Or.inr ⟨by rfl,rfl⟩) ?_ ?_
 rotate_left
 ·simp only [Act.put,sA,sZ,sS]
  rfl
 refine pure_ (i:=5) (N:=some 84) (v:=undef) (a':=?_) #[tt,tt,tt,tt,tt,tt,ff,ff,ff,ff,ff,ff,ff,ff,ff,ff,ff,ff,ff,ff,ff,ff,ff,ff,ff,ff,ff,ff] rfl rfl (any_of HT_.out (by kernel_rfl)) (fun _ _ _ h => h) (Or.inr ⟨by rfl,rfl⟩) ?_ ?_
 rotate_left
 ·simp only [Act.put,sA,sZ,sS]
  rfl
 refine pure_ (i:=6) (N:=some 85) (v:=undef) (a':=?_) #[tt,tt,tt,tt,tt,tt,tt,ff,ff,ff,ff,ff,ff,ff,ff,ff,ff,ff,ff,ff,ff,ff,ff,ff,ff,ff,ff,ff] rfl rfl (any_of HT_.out (by kernel_rfl)) (fun _ _ _ h => h) (Or.inr ⟨by rfl,rfl⟩) ?_ ?_
 rotate_left
 ·simp only [Act.put,sA,sZ,sS]
  rfl
 refine pure_ (i:=7) (N:=some 86) (v:=undef) (a':=?_) #[tt,tt,tt,tt,tt,tt,tt,tt,ff,ff,ff,ff,ff,ff,ff,ff,ff,ff,ff,ff,ff,ff,ff,ff,ff,ff,ff,ff] rfl rfl (any_of HT_.out (by kernel_rfl)) (fun _ _ _ h => h) (Or.inr ⟨by rfl,rfl⟩) ?_ ?_
 rotate_left
 ·simp only [Act.put,sA,sZ,sS]
  rfl
 refine pure_ (i:=8) (N:=some 87) (v:=undef) (a':=?_) #[tt,tt,tt,tt,tt,tt,tt,tt,tt,ff,ff,ff,ff,ff,ff,ff,ff,ff,ff,ff,ff,ff,ff,ff,ff,ff,ff,ff] rfl rfl (any_of HT_.out (by kernel_rfl)) (fun _ _ _ h => h) (Or.inr ⟨by rfl,rfl⟩) ?_ ?_
 rotate_left
 ·simp only [Act.put,sA,sZ,sS]
  rfl
 refine pure_ (i:=9) (N:=some 88) (v:=undef) (a':=?_) #[tt,tt,tt,tt,tt,tt,tt,tt,tt,tt,ff,ff,ff,ff,ff,ff,ff,ff,ff,ff,ff,ff,ff,ff,ff,ff,ff,ff] rfl rfl (any_of HT_.out (by kernel_rfl)) (fun _ _ _ h => h) (Or.inr ⟨by rfl,rfl⟩) ?_ ?_
 rotate_left
 ·simp only [Act.put,sA,sZ,sS]
  rfl
 refine pure_ (i:=10) (N:=some 89) (v:=undef) (a':=?_) #[tt,tt,tt,tt,tt,tt,tt,tt,tt,tt,tt,ff,ff,ff,ff,ff,ff,ff,ff,ff,ff,ff,ff,ff,ff,ff,ff,ff] rfl rfl (any_of HT_.out (by kernel_rfl)) (fun _ _ _ h => h) (Or.inr ⟨by rfl,rfl⟩) ?_ ?_
 rotate_left
 ·simp only [Act.put,sA,sZ,sS]
  rfl
 refine pure_ (i:=11) (N:=some 90) (v:=?_) (a':=?_) #[tt,tt,tt,tt,tt,tt,tt,tt,tt,tt,tt,tt,ff,ff,ff,ff,ff,ff,ff,ff,ff,ff,ff,ff,ff,ff,ff,ff] rfl rfl (any_of HT_.out (by kernel_rfl)) (fun _ _ _ h => h) (Or.inl ⟨by rfl,?_⟩) ?_ ?_
 rotate_left
 ·intro w'
  go_simp
  with_reducible rfl
 rotate_left
 ·simp only [Act.put,sA,sZ,sS,i64_w,i32_w]
  rfl
 refine pure_ (i:=12) (N:=some 91) (v:=?_) (a':=?_) #[tt,tt,tt,tt,tt,tt,tt,tt,tt,tt,tt,tt,tt,ff,ff,ff,ff,ff,ff,ff,ff,ff,ff,ff,ff,ff,ff,ff] rfl rfl (any_of HT_.out (by kernel_rfl)) (fun _ _ _ h => h) (Or.inl ⟨by rfl,?_⟩) ?_ ?_
 rotate_left
 ·intro w'
  go_simp
  with_reducible rfl
 rotate_left
 ·simp only [Act.put,sA,sZ,sS,i64_w,i32_w]
  rfl
 refine pure_ (i:=13) (N:=some 92) (v:=?_) (a':=?_) #[tt,tt,tt,tt,tt,tt,tt,tt,tt,tt,tt,tt,tt,tt,ff,ff,ff,ff,ff,ff,ff,ff,ff,ff,ff,ff,ff,ff] rfl rfl (any_of HT_.out (by kernel_rfl)) (fun _ _ _ h => h) (Or.inl ⟨by rfl,?_⟩) ?_ ?_
 rotate_left
 ·intro w'
  go_simp
  with_reducible rfl
 rotate_left
 ·simp only [Act.put,sA,sZ,sS,i64_w,i32_w]
  rfl
 refine take_ (i:=14) (N:=some 93) (v:=?_) (a':=?_) #[tt,tt,tt,tt,tt,tt,tt,tt,tt,tt,tt,tt,tt,tt,tt,ff,ff,ff,ff,ff,ff,ff,ff,ff,ff,ff,ff,ff] rfl rfl (take_ofW HT_.out HW_.out (by kernel_rfl)) (fun _ _ _ h => h) (Or.inl ⟨by rfl,?_⟩) hHeld ?_ ?_
 rotate_left
 ·rintro w' s0
  have m0:=keep_cell s0 k0
  go_simp
  with_reducible rfl
 rotate_left
 ·simp only [Act.put,sA,sZ,sS,i64_w,i32_w]
  rfl
 refine pure_ (i:=15) (N:=some 94) (v:=?_) (a':=?_) #[tt,tt,tt,tt,tt,tt,tt,tt,tt,tt,tt,tt,tt,tt,tt,tt,ff,ff,ff,ff,ff,ff,ff,ff,ff,ff,ff,ff] rfl rfl (any_of HT_.out (by kernel_rfl)) (fun _ _ _ h => h) (Or.inl ⟨by rfl,?_⟩) ?_ ?_
 rotate_left
 ·intro w'
  go_simp
  with_reducible rfl
 rotate_left
 ·simp only [Act.put,sA,sZ,sS,i64_w,i32_w]
  rfl
 refine pure_ (i:=16) (N:=some 95) (v:=?_) (a':=?_) #[tt,tt,tt,tt,tt,tt,tt,tt,tt,tt,tt,tt,tt,tt,tt,tt,tt,ff,ff,ff,ff,ff,ff,ff,ff,ff,ff,ff] rfl rfl (any_of HT_.out (by kernel_rfl)) (fun _ _ _ h => h) (Or.inl ⟨by rfl,?_⟩) ?_ ?_
 rotate_left
 ·intro w'
  go_simp
  with_reducible rfl
 rotate_left
 ·simp only [Act.put,sA,sZ,sS,i64_w,i32_w]
  rfl
 refine pure_ (i:=17) (N:=some 96) (v:=?_) (a':=?_) #[tt,tt,tt,tt,tt,tt,tt,tt,tt,tt,tt,tt,tt,tt,tt,tt,tt,tt,ff,ff,ff,ff,ff,ff,ff,ff,ff,ff] rfl rfl (any_of HT_.out (by kernel_rfl)) (fun _ _ _ h => h) (Or.inl ⟨by rfl,?_⟩) ?_ ?_
 rotate_left
 ·intro w'
  go_simp
  with_reducible rfl
 rotate_left
 ·simp only [Act.put,sA,sZ,sS,i64_w,i32_w]
  rfl
 refine pure_ (i:=18) (N:=some 97) (v:=?_) (a':=?_) #[tt,tt,tt,tt,tt,tt,tt,tt,tt,tt,tt,tt,tt,tt,tt,tt,tt,tt,tt,ff,ff,ff,ff,ff,ff,ff,ff,ff] rfl rfl (any_of HT_.out (by kernel_rfl)) (fun _ _ _ h => h) (Or.inl ⟨by rfl,?_⟩) ?_ ?_
 rotate_left
 ·intro w'
  go_simp
  with_reducible rfl
 rotate_left
 ·simp only [Act.put,sA,sZ,sS,i64_w,i32_w]
  rfl
 refine pure_ (i:=19) (N:=some 98) (v:=?_) (a':=?_) #[tt,tt,tt,tt,tt,tt,tt,tt,tt,tt,tt,tt,tt,tt,tt,tt,tt,tt,tt,tt,ff,ff,ff,ff,ff,ff,ff,ff] rfl rfl (any_of HT_.out (by kernel_rfl)) (fun _ _ _ h => h) (Or.inl ⟨by rfl,?_⟩) ?_ ?_
 rotate_left
 ·intro w'
  go_simp
  with_reducible rfl
 rotate_left
 ·simp only [Act.put,sA,sZ,sS,i64_w,i32_w]
  rfl
 refine take_ (i:=20) (N:=some 99) (v:=.agg (sv t7 p7)) (a':=?_) #[tt,tt,tt,tt,tt,tt,tt,tt,tt,tt,tt,tt,tt,tt,tt,tt,tt,tt,tt,tt,tt,ff,ff,ff,ff,ff,ff,ff] rfl rfl (take_ofW HT_.out HW_.out (by kernel_rfl)) (fun _ _ _ h => h) (Or.inl ⟨by rfl,?_⟩) hHeld ?_ ?_
 ·rintro w' s0
  exact load_row_run _ _ rfl (w7_.heap.size) rfl 33 (sv t7 p7) _ (b7.keep s0) Tryd.underlying33 rfl (by first|kernel_rfl|rfl)
 rotate_left
 ·simp only [Act.put,sA,sZ,sS]
  rfl
 refine take_ (i:=21) (N:=some 100) (v:=.agg (sv s p)) (a':=?_) #[tt,tt,tt,tt,tt,tt,tt,tt,tt,tt,tt,tt,tt,tt,tt,tt,tt,tt,tt,tt,tt,tt,ff,ff,ff,ff,ff,ff] rfl rfl (take_ofW HT_.out HW_.out (by kernel_rfl)) (fun _ _ _ h => h) (Or.inl ⟨by rfl,?_⟩) hHeld ?_ ?_
 ·rintro w' s0
  exact load_row_run _ _ rfl (w.heap.size) rfl 33 (sv s p) _ (b3.keep s0) Tryd.underlying33 rfl (by first|kernel_rfl|rfl)
 rotate_left
 ·simp only [Act.put,sA,sZ,sS]
  rfl
 refine one_ (i:=22) (N:=some 101) #[tt,tt,tt,tt,tt,tt,tt,tt,tt,tt,tt,tt,tt,tt,tt,tt,tt,tt,tt,tt,tt,tt,tt,ff,ff,ff,ff,ff] rfl rfl (one_of HT_.out (by kernel_rfl)) (by decide) (fun K hK => ?_)
 refine goes_ Tryd.func28 (by kernel_rfl) rfl #[.agg (sv s p)] (by rfl) rfl rfl (by (try simp only [List.map_toArray,List.map_cons,List.map_nil]);first|done|rfl) ?_
 refine ((rgranted_c (hI.below hX) HN.out).out).mono ?_
 rintro e_ w9 ⟨p10,rfl,h10,hb9⟩
 refine ⟨_,rfl,?_⟩
 replace hX:=keep_below hX hb9
 clear hb9
 refine hK.out _ _ hX (fun hHeld => ?_)
 clear hK K
 refine norm_ (a':=?_) ?_ ?_
 rotate_left
 ·first|(show Act.put _ (some 101) _ = _;simp only [Act.put,sA,sZ,sS,i64_w,i32_w];rfl)|with_reducible rfl
 have HC:=rsame_c hl7 (h7.below hX).In h10
 rw [hs7] at HC
 clear hs7
 refine one_ (i:=23) (N:=some 102) #[tt,tt,tt,tt,tt,tt,tt,tt,tt,tt,tt,tt,tt,tt,tt,tt,tt,tt,tt,tt,tt,tt,tt,tt,ff,ff,ff,ff] rfl rfl (one_of HT_.out (by kernel_rfl)) (by decide) (fun K hK => ?_)
 refine goes_ Tryd.func15 (by kernel_rfl) rfl #[.agg (sv t7 p7),.agg (sv (rgrantedS s) p10)] (by rfl) rfl rfl (by (try simp only [List.map_toArray,List.map_cons,List.map_nil]);first|done|rfl) ?_
 refine (HC.out).mono ?_
 rintro e_ w9 ⟨rfl,hb9⟩
 refine ⟨_,rfl,?_⟩
 replace hX:=keep_below hX hb9
 clear hb9
 refine hK.out _ _ hX (fun hHeld => ?_)
 clear hK K
 refine norm_ (a':=?_) ?_ ?_
 rotate_left
 ·first|(show Act.put _ (some 102) _ = _;simp only [Act.put,sA,sZ,sS,i64_w,i32_w];rfl)|with_reducible rfl
 clear HC h10
 refine pure_ (i:=24) (N:=some 103) (v:=?_) (a':=?_) #[tt,tt,tt,tt,tt,tt,tt,tt,tt,tt,tt,tt,tt,tt,tt,tt,tt,tt,tt,tt,tt,tt,tt,tt,tt,ff,ff,ff] rfl rfl (any_of HT_.out (by kernel_rfl)) (fun _ _ _ h => h) (Or.inl ⟨by rfl,?_⟩) ?_ ?_
 rotate_left
 ·intro w'
  go_simp
  with_reducible rfl
 rotate_left
 ·simp only [Act.put,sA,sZ,sS,i64_w,i32_w]
  rfl
 refine pure_ (i:=25) (N:=some 104) (v:=?_) (a':=?_) #[tt,tt,tt,tt,tt,tt,tt,tt,tt,tt,tt,tt,tt,tt,tt,tt,tt,tt,tt,tt,tt,tt,tt,tt,tt,tt,ff,ff] rfl rfl (any_of HT_.out (by kernel_rfl)) (fun _ _ _ h => h) (Or.inl ⟨by rfl,?_⟩) ?_ ?_
 rotate_left
 ·intro w'
  go_simp
  with_reducible rfl
 rotate_left
 ·simp only [Act.put,sA,sZ,sS,i64_w,i32_w]
  rfl
 refine pure_ (i:=26) (N:=some 105) (v:=?_) (a':=?_) #[tt,tt,tt,tt,tt,tt,tt,tt,tt,tt,tt,tt,tt,tt,tt,tt,tt,tt,tt,tt,tt,tt,tt,tt,tt,tt,tt,ff] rfl rfl (any_of HT_.out (by kernel_rfl)) (fun _ _ _ h => h) (Or.inl ⟨by rfl,?_⟩) ?_ ?_
 rotate_left
 ·intro w'
  go_simp
  with_reducible rfl
 rotate_left
 ·simp only [Act.put,sA,sZ,sS,i64_w,i32_w]
  rfl
 refine pure_ (i:=27) (N:=some 106) (v:=?_) (a':=?_) #[tt,tt,tt,tt,tt,tt,tt,tt,tt,tt,tt,tt,tt,tt,tt,tt,tt,tt,tt,tt,tt,tt,tt,tt,tt,tt,tt,tt] rfl rfl (any_of HT_.out (by kernel_rfl)) (fun _ _ _ h => h) (Or.inl ⟨by rfl,?_⟩) ?_ ?_
 rotate_left
 ·intro w'
  go_simp
  with_reducible rfl
 rotate_left
 ·simp only [Act.put,sA,sZ,sS,i64_w,i32_w]
  rfl
 refine done_ (done_of HT_.out (by kernel_rfl)) ?_
 clear x2 x2' de7
 replace b3:=b3.keep hX
 replace hB:=keep_below hB hX
 replace hI:=hI.below hX
 replace HT:=Lib.hid (TabIs.below HT.out hX)
 replace b5:=b5.keep hX
 replace h7:=h7.below hX
 replace b7:=b7.keep hX
 replace h9:=h9.below hX
 replace b9:=b9.keep hX
 replace b12:=b12.keep hX
 clear hX hHeld k0
 have k0:=b12.cell 0
 simp at k0
 cases over
 case true =>
  have oe:=turn_yes (s':=endedS s true) (b:=endedB s true) HQ.out.2.1 (by simp [endedB])
  have de9 : (e9 == 0) = true:=beq_iff_eq.mpr (by rw [← HQ.out.2.2.2.2.2,oe.2])
  have hs9 : sameB t9 wS = true:=by rw [← HQ.out.2.2.2.2.1,oe.1];exact sameB_refl _
  have HC:=rsame_c (t:=wS) (q:=p0) hl9 h9.In (In.zero _)
  rw [hs9] at HC
  clear hs9 oe
  go_upto_region 21 with fail
  refine wp_region_list ?_
  refine pl_val (N:=some 109) (v:=?_) (a':=?_) rfl (by rfl) ?_ ?_ ?_
  rotate_left
  ·go_simp
   with_reducible rfl
  rotate_left
  ·simp only [Act.put,sA,sZ,sS,i64_w,i32_w]
   rfl
  refine pl_val (N:=some 110) (v:=?_) (a':=?_) rfl (by rfl) ?_ ?_ ?_
  rotate_left
  ·go_simp
   with_reducible rfl
  rotate_left
  ·simp only [Act.put,sA,sZ,sS,i64_w,i32_w]
   rfl
  refine pl_val (N:=some 111) (v:=?_) (a':=?_) rfl (by rfl) ?_ ?_ ?_
  rotate_left
  ·go_simp
   with_reducible rfl
  rotate_left
  ·simp only [Act.put,sA,sZ,sS,i64_w,i32_w]
   rfl
  refine pl_val (N:=some 112) (v:=.agg (sv t9 p9)) (a':=?_) rfl (by rfl) (load_row_run 33 _ rfl (w10_.heap.size) rfl 33 (sv t9 p9) _ (b9) Tryd.underlying33 rfl (by first|kernel_rfl|rfl)) ?_ ?_
  rotate_left
  ·simp only [Act.put,sA,sZ,sS,i64_w,i32_w]
   rfl
  refine pl_val (N:=some 113) (v:=.agg (sv wS p0)) (a':=?_) rfl (by rfl) (by first|rfl|(go_simp;done)|(go_simp;rfl)) ?_ ?_
  rotate_left
  ·simp only [Act.put,sA,sZ,sS,i64_w,i32_w]
   rfl
  refine pl_call Tryd.func15 (by kernel_rfl) rfl #[.agg (sv t9 p9),.agg (sv wS p0)] (by rfl) rfl rfl (by (try simp only [List.map_toArray,List.map_cons,List.map_nil]);first|done|rfl) ?_
  refine (HC.out).mono ?_
  rintro e_ w15_ ⟨rfl,hb⟩
  refine ⟨_,rfl,?_⟩
  replace b3:=b3.keep hb
  replace hB:=keep_below hB hb
  replace hI:=hI.below hb
  replace HT:=Lib.hid (TabIs.below HT.out hb)
  replace b5:=b5.keep hb
  replace h7:=h7.below hb
  replace b7:=b7.keep hb
  replace h9:=h9.below hb
  replace b9:=b9.keep hb
  replace b12:=b12.keep hb
  clear hb
  refine pl_norm (a':=?_) ?_ ?_
  rotate_left
  ·first|(show Act.put _ (some 114) _ = _;simp only [Act.put,sA,sZ,sS,i64_w,i32_w];rfl)|with_reducible rfl
  refine pl_val (N:=some 115) (v:=?_) (a':=?_) rfl (by rfl) ?_ ?_ ?_
  rotate_left
  ·go_simp
   with_reducible rfl
  rotate_left
  ·simp only [Act.put,sA,sZ,sS,i64_w,i32_w]
   rfl
  refine pl_val (N:=some 4) (v:=?_) (a':=?_) rfl (by rfl) ?_ ?_ ?_
  rotate_left
  ·go_simp
   with_reducible rfl
  rotate_left
  ·simp only [Act.put,sA,sZ,sS,i64_w,i32_w]
   rfl
  refine wpList_nil ?_
  go_wp2
  go_ret
  exact ⟨rfl,hB⟩
 have d1 : (q1 == 1) = false:=by simp [H2.out]
 have d2 : (q1 == 2) = true:=by simp [H2.out]
 have oe:=turn_no (s':=endedS s false) (b:=endedB s false) HQ.out.2.1 (by unfold endedB;rw [Hw.out];simp [H2.out])
 have de9 : (e9 == 2) = true:=beq_iff_eq.mpr (by rw [← HQ.out.2.2.2.2.2,oe.2])
 have hz9 : sameB t9 z33 = true:=by rw [← HQ.out.2.2.2.2.1,oe.1];exact sameB_refl _
 have HC:=none_c hl9 h9.In
 rw [hz9] at HC
 clear hz9 oe
 go_upto_region 23 with fail
 refine wp_region_list ?_
 refine pl_val (N:=some 135) (v:=?_) (a':=?_) rfl (by rfl) ?_ ?_ ?_
 rotate_left
 ·go_simp
  with_reducible rfl
 rotate_left
 ·simp only [Act.put,sA,sZ,sS,i64_w,i32_w]
  rfl
 refine pl_val (N:=some 136) (v:=?_) (a':=?_) rfl (by rfl) ?_ ?_ ?_
 rotate_left
 ·go_simp
  with_reducible rfl
 rotate_left
 ·simp only [Act.put,sA,sZ,sS,i64_w,i32_w]
  rfl
 refine pl_val (N:=some 137) (v:=?_) (a':=?_) rfl (by rfl) ?_ ?_ ?_
 rotate_left
 ·go_simp
  with_reducible rfl
 rotate_left
 ·simp only [Act.put,sA,sZ,sS,i64_w,i32_w]
  rfl
 refine pl_val (N:=some 138) (v:=.agg (sv t9 p9)) (a':=?_) rfl (by rfl) (load_row_run 33 _ rfl (w10_.heap.size) rfl 33 (sv t9 p9) _ (b9) Tryd.underlying33 rfl (by first|kernel_rfl|rfl)) ?_ ?_
 rotate_left
 ·simp only [Act.put,sA,sZ,sS,i64_w,i32_w]
  rfl
 refine pl_call Tryd.func12 (by kernel_rfl) rfl #[.agg (sv t9 p9)] (by rfl) rfl rfl (by (try simp only [List.map_toArray,List.map_cons,List.map_nil]);first|done|rfl) ?_
 refine (HC.out).mono ?_
 rintro e_ w15_ ⟨rfl,hb⟩
 refine ⟨_,rfl,?_⟩
 replace b3:=b3.keep hb
 replace hB:=keep_below hB hb
 replace hI:=hI.below hb
 replace HT:=Lib.hid (TabIs.below HT.out hb)
 replace b5:=b5.keep hb
 replace h7:=h7.below hb
 replace b7:=b7.keep hb
 replace h9:=h9.below hb
 replace b9:=b9.keep hb
 replace b12:=b12.keep hb
 clear hb
 refine pl_norm (a':=?_) ?_ ?_
 rotate_left
 ·first|(show Act.put _ (some 139) _ = _;simp only [Act.put,sA,sZ,sS,i64_w,i32_w];rfl)|with_reducible rfl
 refine pl_val (N:=some 140) (v:=?_) (a':=?_) rfl (by rfl) ?_ ?_ ?_
 rotate_left
 ·go_simp
  with_reducible rfl
 rotate_left
 ·simp only [Act.put,sA,sZ,sS,i64_w,i32_w]
  rfl
 refine pl_val (N:=some 4) (v:=?_) (a':=?_) rfl (by rfl) ?_ ?_ ?_
 rotate_left
 ·go_simp
  with_reducible rfl
 rotate_left
 ·simp only [Act.put,sA,sZ,sS,i64_w,i32_w]
  rfl
 refine wpList_nil ?_
 go_wp2
 go_ret
 exact ⟨rfl,hB⟩
end Go.Proofs.YtiamkgoajkfofaaDoor.S
