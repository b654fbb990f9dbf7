/- What the row of this claim reaches. No condition. -/
import Derived.Laws.BytesArg
import Derived.WalkKit
import Derived.Test.YthlhmijgbjcloaaGX4
set_option linter.unusedVariables false
set_option linter.unusedSimpArgs false
section
namespace Go.Proofs.Ythlhmijgbjcloaa.A
open Go.RowKit Go.Proofs.YthlhmijgbjcloaaW.PrintWords Go.Proofs.YthlhmijgbjcloaaW.PrintLast Go.Proofs.YthlhmijgbjcloaaW.PrintMore
attribute [local go_sem] max2_int min2_int max_two min_two max_three min_three max_four min_four   -- for this text's walks alone
def gazetteerref09_Order.f (a0_0 : Int) (a0_1 : Int) (a1_0 : Int) (a1_1 : Int) (a2_0 : Int) (a2_1 : Int) (a3_0 : Int) (a3_1 : Int) : Option (Int) := (gazetteerref07_Cmp.f a0_0 a0_1 a2_0 a2_1).bind fun t298 => (if t298 = 0 then ((gazetteerref07_Cmp.f a1_0 a1_1 a3_0 a3_1).bind fun t299 => (some t299)) else (some t298))
set_option maxHeartbeats 8000000 in
set_option maxRecDepth 100000 in
theorem gazetteerref09_Order.calls (a0_0 : Int) (a0_1 : Int) (a1_0 : Int) (a1_1 : Int) (a2_0 : Int) (a2_1 : Int) (a3_0 : Int) (a3_1 : Int) (r : Int) (w : World) (h : gazetteerref09_Order.f a0_0 a0_1 a1_0 a1_1 a2_0 a2_1 a3_0 a3_1 = some r) :
  Calls Try.prog 61 #[.agg #[.int .u64 a0_0,.int .u64 a0_1],.agg #[.int .u64 a1_0,.int .u64 a1_1],.agg #[.int .u64 a2_0,.int .u64 a2_1],.agg #[.int .u64 a3_0,.int .u64 a3_1]] w fun e w' => e = .returned (.int .i64 r)∧Below w.heap.size w w':=by
 have hu25:=Try.underlying25
 have HB:=Ak (Below.refl w.heap.size w)
 have H : ((gazetteerref07_Cmp.f a0_0 a0_1 a2_0 a2_1).bind fun t298 => (if t298 = 0 then ((gazetteerref07_Cmp.f a1_0 a1_1 a3_0 a3_1).bind fun t299 => (some t299)) else (some t298))) = some r:=h
 clear h
 replace H:=Option.bind_eq_some_iff.mp H
 obtain ⟨t298,A50,H⟩:=H
 replace H : (if t298 = 0 then ((gazetteerref07_Cmp.f a1_0 a1_1 a3_0 a3_1).bind fun t299 => (some t299)) else (some t298)) = some r:=H
 have A5:=Ak A50
 clear A50
 by_cases c6 : t298 = 0
 ·rw [if_pos c6] at H
  have c6b0 : (t298 == 0) = true:=beq_iff_eq.mpr c6
  have c6b1 : (t298 != 0) = false:=bne_eq_false_iff_eq.mpr c6
  clear c6
  replace H:=Option.bind_eq_some_iff.mp H
  obtain ⟨t299,A70,H⟩:=H
  replace H : (some t299) = some r:=H
  have A7:=Ak A70
  clear A70
  obtain rfl:=Option.some.inj H
  go_enter Try.func61,Try.ntmps61
  go_wp2_with (first|((with_reducible refine gate_dst (N:=4) rfl ?_);refine box_event ?hg (N:=4) ?hd (cs:=#[.int .u64 a0_0,.int .u64 a0_1]) (t:=25) ?hr ?_;(case hd => rfl);(case hg => rfl);(case hr => first|(go_simp;done)|(go_simp;rfl));intro gb294 hg w8 hbox hb;have n0_:=Kh HB hb;have n1_:=Ak (hbox);have n2_:=Kz hg HB;have n3_:=Kz hg HB;clear HB;have HB:=n0_;have BK294:=n1_;have GW294:=n2_;have GE294:=n3_;clear n0_ n1_ n2_ n3_;clear hb hbox hg)|((with_reducible refine gate_dst (N:=5) rfl ?_);refine box_event ?hg (N:=5) ?hd (cs:=#[.int .u64 a1_0,.int .u64 a1_1]) (t:=25) ?hr ?_;(case hd => rfl);(case hg => rfl);(case hr => first|(go_simp;done)|(go_simp;rfl));intro gb295 hg w9 hbox hb;have n0_:=Kb BK294 hb;have n1_:=Kh HB hb;have n2_:=Ak (hbox);have n3_:=Kz hg HB;have n4_:=Kz hg HB;have n5_:=Kl hg BK294;have n6_:=Km hg BK294;clear BK294 HB;have BK294:=n0_;have HB:=n1_;have BK295:=n2_;have GW295:=n3_;have GE295:=n4_;have NB294_295:=n5_;have NB295_294:=n6_;clear n0_ n1_ n2_ n3_ n4_ n5_ n6_;clear hb hbox hg)|((with_reducible refine gate_dst (N:=6) rfl ?_);refine box_event ?hg (N:=6) ?hd (cs:=#[.int .u64 a2_0,.int .u64 a2_1]) (t:=25) ?hr ?_;(case hd => rfl);(case hg => rfl);(case hr => first|(go_simp;done)|(go_simp;rfl));intro gb296 hg w10 hbox hb;have n0_:=Kb BK294 hb;have n1_:=Kb BK295 hb;have n2_:=Kh HB hb;have n3_:=Ak (hbox);have n4_:=Kz hg HB;have n5_:=Kz hg HB;have n6_:=Kl hg BK294;have n7_:=Km hg BK294;have n8_:=Kl hg BK295;have n9_:=Km hg BK295;clear BK294 BK295 HB;have BK294:=n0_;have BK295:=n1_;have HB:=n2_;have BK296:=n3_;have GW296:=n4_;have GE296:=n5_;have NB294_296:=n6_;have NB296_294:=n7_;have NB295_296:=n8_;have NB296_295:=n9_;clear n0_ n1_ n2_ n3_ n4_ n5_ n6_ n7_ n8_ n9_;clear hb hbox hg)|((with_reducible refine gate_dst (N:=7) rfl ?_);refine box_event ?hg (N:=7) ?hd (cs:=#[.int .u64 a3_0,.int .u64 a3_1]) (t:=25) ?hr ?_;(case hd => rfl);(case hg => rfl);(case hr => first|(go_simp;done)|(go_simp;rfl));intro gb297 hg w11 hbox hb;have n0_:=Kb BK294 hb;have n1_:=Kb BK295 hb;have n2_:=Kb BK296 hb;have n3_:=Kh HB hb;have n4_:=Ak (hbox);have n5_:=Kz hg HB;have n6_:=Kz hg HB;have n7_:=Kl hg BK294;have n8_:=Km hg BK294;have n9_:=Kl hg BK295;have n10_:=Km hg BK295;have n11_:=Kl hg BK296;have n12_:=Km hg BK296;clear BK294 BK295 BK296 HB;have BK294:=n0_;have BK295:=n1_;have BK296:=n2_;have HB:=n3_;have BK297:=n4_;have GW297:=n5_;have GE297:=n6_;have NB294_297:=n7_;have NB297_294:=n8_;have NB295_297:=n9_;have NB297_295:=n10_;have NB296_297:=n11_;have NB297_296:=n12_;clear n0_ n1_ n2_ n3_ n4_ n5_ n6_ n7_ n8_ n9_ n10_ n11_ n12_;clear hb hbox hg;have hnb12:=NB294_295.out;have hnc12:=NB295_294.out;have hnb13:=NB294_296.out;have hnc13:=NB296_294.out;have hnb14:=NB294_297.out;have hnc14:=NB297_294.out;have hcz15_0 : w11.cell? ⟨gb294,0,none⟩ = some (.int .u64 a0_0):=(kC BK294.out 0).trans rfl;have hcz15_1 : w11.cell? ⟨gb294,1,none⟩ = some (.int .u64 a0_1):=(kC BK294.out 1).trans rfl;have hfz15_0:=blk_frozen BK294.out 0;have hfz15_1:=blk_frozen BK294.out 1;have hnb16:=NB296_295.out;have hnc16:=NB295_296.out;have hnb17:=NB296_297.out;have hnc17:=NB297_296.out;have hcz18_0 : w11.cell? ⟨gb296,0,none⟩ = some (.int .u64 a2_0):=(kC BK296.out 0).trans rfl;have hcz18_1 : w11.cell? ⟨gb296,1,none⟩ = some (.int .u64 a2_1):=(kC BK296.out 1).trans rfl;have hfz18_0:=blk_frozen BK296.out 0;have hfz18_1:=blk_frozen BK296.out 1)|((with_reducible refine gate_callee (f:=31) rfl ?_);refine goesL_ (some 12) rfl rfl Try.func31 (by kernel_rfl) rfl #[.agg #[.int .u64 a0_0,.int .u64 a0_1],.agg #[.int .u64 a2_0,.int .u64 a2_1]] rfl (by (try simp only [List.map_toArray,List.map_cons,List.map_nil]);first|done|rfl|(simp only [List.length_drop,List.length_take];rfl)) ?_;(with_reducible refine (gazetteerref07_Cmp.calls a0_0 a0_1 a2_0 a2_1 t298 _ A5.out).mono ?_);rintro e w19 ⟨rfl,hb⟩;refine ⟨_,rfl,?_⟩;have n0_:=Kb BK294 hb;have n1_:=Kb BK295 hb;have n2_:=Kb BK296 hb;have n3_:=Kb BK297 hb;have n4_:=Kh HB hb;clear BK294 BK295 BK296 BK297 HB;have BK294:=n0_;have BK295:=n1_;have BK296:=n2_;have BK297:=n3_;have HB:=n4_;clear n0_ n1_ n2_ n3_ n4_;(try clear hb);(try clear hb2);(try clear hk);(try clear hi);have hnb20:=NB295_297.out;have hnc20:=NB297_295.out;have hcz21_0 : w19.cell? ⟨gb295,0,none⟩ = some (.int .u64 a1_0):=(kC BK295.out 0).trans rfl;have hcz21_1 : w19.cell? ⟨gb295,1,none⟩ = some (.int .u64 a1_1):=(kC BK295.out 1).trans rfl;have hfz21_0:=blk_frozen BK295.out 0;have hfz21_1:=blk_frozen BK295.out 1;have hcz22_0 : w19.cell? ⟨gb297,0,none⟩ = some (.int .u64 a3_0):=(kC BK297.out 0).trans rfl;have hcz22_1 : w19.cell? ⟨gb297,1,none⟩ = some (.int .u64 a3_1):=(kC BK297.out 1).trans rfl;have hfz22_0:=blk_frozen BK297.out 0;have hfz22_1:=blk_frozen BK297.out 1)|((with_reducible refine gate_callee (f:=31) rfl ?_);refine goesL_ (some 18) rfl rfl Try.func31 (by kernel_rfl) rfl #[.agg #[.int .u64 a1_0,.int .u64 a1_1],.agg #[.int .u64 a3_0,.int .u64 a3_1]] rfl (by (try simp only [List.map_toArray,List.map_cons,List.map_nil]);first|done|rfl|(simp only [List.length_drop,List.length_take];rfl)) ?_;(with_reducible refine (gazetteerref07_Cmp.calls a1_0 a1_1 a3_0 a3_1 t299 _ A7.out).mono ?_);rintro e w23 ⟨rfl,hb⟩;refine ⟨_,rfl,?_⟩;have n0_:=Kb BK294 hb;have n1_:=Kb BK295 hb;have n2_:=Kb BK296 hb;have n3_:=Kb BK297 hb;have n4_:=Kh HB hb;clear BK294 BK295 BK296 BK297 HB;have BK294:=n0_;have BK295:=n1_;have BK296:=n2_;have BK297:=n3_;have HB:=n4_;clear n0_ n1_ n2_ n3_ n4_;(try clear hb);(try clear hb2);(try clear hk);(try clear hi)))
  go_ret
  exact ⟨by first|rfl|(simp [errW_none,errW_some] <;> rfl)|(simp [*,errW_none,errW_some] <;> rfl),by repeat (first|(with_reducible first|exact HB.out|apply bA|apply bN|apply bD|refine bS ?_ GE294.out|refine bS ?_ GE295.out|refine bS ?_ GE296.out|refine bS ?_ GE297.out)|exact HB.out)⟩
 ·rw [if_neg c6] at H
  have c6b0 : (t298 == 0) = false:=beq_eq_false_iff_ne.mpr c6
  have c6b1 : (t298 != 0) = true:=bne_iff_ne.mpr c6
  obtain rfl:=Option.some.inj H
  go_enter Try.func61,Try.ntmps61
  go_wp2_with (first|((with_reducible refine gate_dst (N:=4) rfl ?_);refine box_event ?hg (N:=4) ?hd (cs:=#[.int .u64 a0_0,.int .u64 a0_1]) (t:=25) ?hr ?_;(case hd => rfl);(case hg => rfl);(case hr => first|(go_simp;done)|(go_simp;rfl));intro gb294 hg w24 hbox hb;have n0_:=Kh HB hb;have n1_:=Ak (hbox);have n2_:=Kz hg HB;have n3_:=Kz hg HB;clear HB;have HB:=n0_;have BK294:=n1_;have GW294:=n2_;have GE294:=n3_;clear n0_ n1_ n2_ n3_;clear hb hbox hg)|((with_reducible refine gate_dst (N:=5) rfl ?_);refine box_event ?hg (N:=5) ?hd (cs:=#[.int .u64 a1_0,.int .u64 a1_1]) (t:=25) ?hr ?_;(case hd => rfl);(case hg => rfl);(case hr => first|(go_simp;done)|(go_simp;rfl));intro gb295 hg w25 hbox hb;have n0_:=Kb BK294 hb;have n1_:=Kh HB hb;have n2_:=Ak (hbox);have n3_:=Kz hg HB;have n4_:=Kz hg HB;have n5_:=Kl hg BK294;have n6_:=Km hg BK294;clear BK294 HB;have BK294:=n0_;have HB:=n1_;have BK295:=n2_;have GW295:=n3_;have GE295:=n4_;have NB294_295:=n5_;have NB295_294:=n6_;clear n0_ n1_ n2_ n3_ n4_ n5_ n6_;clear hb hbox hg)|((with_reducible refine gate_dst (N:=6) rfl ?_);refine box_event ?hg (N:=6) ?hd (cs:=#[.int .u64 a2_0,.int .u64 a2_1]) (t:=25) ?hr ?_;(case hd => rfl);(case hg => rfl);(case hr => first|(go_simp;done)|(go_simp;rfl));intro gb296 hg w26 hbox hb;have n0_:=Kb BK294 hb;have n1_:=Kb BK295 hb;have n2_:=Kh HB hb;have n3_:=Ak (hbox);have n4_:=Kz hg HB;have n5_:=Kz hg HB;have n6_:=Kl hg BK294;have n7_:=Km hg BK294;have n8_:=Kl hg BK295;have n9_:=Km hg BK295;clear BK294 BK295 HB;have BK294:=n0_;have BK295:=n1_;have HB:=n2_;have BK296:=n3_;have GW296:=n4_;have GE296:=n5_;have NB294_296:=n6_;have NB296_294:=n7_;have NB295_296:=n8_;have NB296_295:=n9_;clear n0_ n1_ n2_ n3_ n4_ n5_ n6_ n7_ n8_ n9_;clear hb hbox hg)|((with_reducible refine gate_dst (N:=7) rfl ?_);refine box_event ?hg (N:=7) ?hd (cs:=#[.int .u64 a3_0,.int .u64 a3_1]) (t:=25) ?hr ?_;(case hd => rfl);(case hg => rfl);(case hr => first|(go_simp;done)|(go_simp;rfl));intro gb297 hg w27 hbox hb;have n0_:=Kb BK294 hb;have n1_:=Kb BK295 hb;have n2_:=Kb BK296 hb;have n3_:=Kh HB hb;have n4_:=Ak (hbox);have n5_:=Kz hg HB;have n6_:=Kz hg HB;have n7_:=Kl hg BK294;have n8_:=Km hg BK294;have n9_:=Kl hg BK295;have n10_:=Km hg BK295;have n11_:=Kl hg BK296;have n12_:=Km hg BK296;clear BK294 BK295 BK296 HB;have BK294:=n0_;have BK295:=n1_;have BK296:=n2_;have HB:=n3_;have BK297:=n4_;have GW297:=n5_;have GE297:=n6_;have NB294_297:=n7_;have NB297_294:=n8_;have NB295_297:=n9_;have NB297_295:=n10_;have NB296_297:=n11_;have NB297_296:=n12_;clear n0_ n1_ n2_ n3_ n4_ n5_ n6_ n7_ n8_ n9_ n10_ n11_ n12_;clear hb hbox hg;have hnb28:=NB294_295.out;have hnc28:=NB295_294.out;have hnb29:=NB294_296.out;have hnc29:=NB296_294.out;have hnb30:=NB294_297.out;have hnc30:=NB297_294.out;have hcz31_0 : w27.cell? ⟨gb294,0,none⟩ = some (.int .u64 a0_0):=(kC BK294.out 0).trans rfl;have hcz31_1 : w27.cell? ⟨gb294,1,none⟩ = some (.int .u64 a0_1):=(kC BK294.out 1).trans rfl;have hfz31_0:=blk_frozen BK294.out 0;have hfz31_1:=blk_frozen BK294.out 1;have hnb32:=NB296_295.out;have hnc32:=NB295_296.out;have hnb33:=NB296_297.out;have hnc33:=NB297_296.out;have hcz34_0 : w27.cell? ⟨gb296,0,none⟩ = some (.int .u64 a2_0):=(kC BK296.out 0).trans rfl;have hcz34_1 : w27.cell? ⟨gb296,1,none⟩ = some (.int .u64 a2_1):=(kC BK296.out 1).trans rfl;have hfz34_0:=blk_frozen BK296.out 0;have hfz34_1:=blk_frozen BK296.out 1)|((with_reducible refine gate_callee (f:=31) rfl ?_);refine goesL_ (some 12) rfl rfl Try.func31 (by kernel_rfl) rfl #[.agg #[.int .u64 a0_0,.int .u64 a0_1],.agg #[.int .u64 a2_0,.int .u64 a2_1]] rfl (by (try simp only [List.map_toArray,List.map_cons,List.map_nil]);first|done|rfl|(simp only [List.length_drop,List.length_take];rfl)) ?_;(with_reducible refine (gazetteerref07_Cmp.calls a0_0 a0_1 a2_0 a2_1 t298 _ A5.out).mono ?_);rintro e w35 ⟨rfl,hb⟩;refine ⟨_,rfl,?_⟩;have n0_:=Kb BK294 hb;have n1_:=Kb BK295 hb;have n2_:=Kb BK296 hb;have n3_:=Kb BK297 hb;have n4_:=Kh HB hb;clear BK294 BK295 BK296 BK297 HB;have BK294:=n0_;have BK295:=n1_;have BK296:=n2_;have BK297:=n3_;have HB:=n4_;clear n0_ n1_ n2_ n3_ n4_;(try clear hb);(try clear hb2);(try clear hk);(try clear hi)))
  go_ret
  exact ⟨by first|rfl|(simp [errW_none,errW_some] <;> rfl)|(simp [*,errW_none,errW_some] <;> rfl),by repeat (first|(with_reducible first|exact HB.out|apply bA|apply bN|apply bD|refine bS ?_ GE294.out|refine bS ?_ GE295.out|refine bS ?_ GE296.out|refine bS ?_ GE297.out)|exact HB.out)⟩
def gazetteerref09_Less.j0 : Nat → Bool → Int → Int → Int → Int → Int → Int → Int → Int → Int → Int → Int → Int → Option (Bool)
  | 0, _, _, _, _, _, _, _, _, _, _, _, _, _ => none
  | k + 1, x23, x301000, x301001, x301002, x301003, x302000, x302001, x302002, x302003, x303000, x303001, x303002, x303003 => if x23 = true then (some false) else ((gazetteerref09_Grows.f k x301000 x301001 x301002 x301003 x303000 x303001 x303002 x303003).bind fun bt306 => ((gazetteerref09_Grows.f k x302000 x302001 x302002 x302003 x303000 x303001 x303002 x303003).bind fun bt312 => ((gazetteerref09_Order.f bt306.1 bt306.2.1 bt306.2.2.1 bt306.2.2.2 bt312.1 bt312.2.1 bt312.2.2.1 bt312.2.2.2).bind fun t318 => (some (decide (t318 < 0))))))
def gazetteerref09_Less.f (k : Nat) (a0_0 : Int) (a0_1 : Int) (a0_2 : Int) (a0_3 : Int) (a1_0 : Int) (a1_1 : Int) (a1_2 : Int) (a1_3 : Int) (a2_0 : Int) (a2_1 : Int) (a2_2 : Int) (a2_3 : Int) : Option (Bool) := (gazetteerref09_Box.f a0_0 a0_1 a0_2 a0_3).bind fun t303 => (if t303 = true then ((gazetteerref09_Box.f a1_0 a1_1 a1_2 a1_3).bind fun t304 => (if t304 = true then ((gazetteerref09_Box.f a2_0 a2_1 a2_2 a2_3).bind fun t305 => (gazetteerref09_Less.j0 k (!t305) a0_0 a0_1 a0_2 a0_3 a1_0 a1_1 a1_2 a1_3 a2_0 a2_1 a2_2 a2_3)) else (gazetteerref09_Less.j0 k true a0_0 a0_1 a0_2 a0_3 a1_0 a1_1 a1_2 a1_3 a2_0 a2_1 a2_2 a2_3))) else (gazetteerref09_Less.j0 k true a0_0 a0_1 a0_2 a0_3 a1_0 a1_1 a1_2 a1_3 a2_0 a2_1 a2_2 a2_3))
set_option maxHeartbeats 8000000 in
set_option maxRecDepth 100000 in
theorem gazetteerref09_Less.calls (k : Nat) (a0_0 : Int) (a0_1 : Int) (a0_2 : Int) (a0_3 : Int) (a1_0 : Int) (a1_1 : Int) (a1_2 : Int) (a1_3 : Int) (a2_0 : Int) (a2_1 : Int) (a2_2 : Int) (a2_3 : Int) (r : Bool) (w : World) (h : gazetteerref09_Less.f k a0_0 a0_1 a0_2 a0_3 a1_0 a1_1 a1_2 a1_3 a2_0 a2_1 a2_2 a2_3 = some r) :
  Calls Try.prog 39 #[.agg #[.int .i64 a0_0,.int .i64 a0_1,.int .i64 a0_2,.int .i64 a0_3],.agg #[.int .i64 a1_0,.int .i64 a1_1,.int .i64 a1_2,.int .i64 a1_3],.agg #[.int .i64 a2_0,.int .i64 a2_1,.int .i64 a2_2,.int .i64 a2_3]] w fun e w' => e = .returned (.bool r)∧Below w.heap.size w w':=by
 have hu35:=Try.underlying35
 have hu25:=Try.underlying25
 have HB:=Ak (Below.refl w.heap.size w)
 have H : ((gazetteerref09_Box.f a0_0 a0_1 a0_2 a0_3).bind fun t303 => (if t303 = true then ((gazetteerref09_Box.f a1_0 a1_1 a1_2 a1_3).bind fun t304 => (if t304 = true then ((gazetteerref09_Box.f a2_0 a2_1 a2_2 a2_3).bind fun t305 => (gazetteerref09_Less.j0 k (!t305) a0_0 a0_1 a0_2 a0_3 a1_0 a1_1 a1_2 a1_3 a2_0 a2_1 a2_2 a2_3)) else (gazetteerref09_Less.j0 k true a0_0 a0_1 a0_2 a0_3 a1_0 a1_1 a1_2 a1_3 a2_0 a2_1 a2_2 a2_3))) else (gazetteerref09_Less.j0 k true a0_0 a0_1 a0_2 a0_3 a1_0 a1_1 a1_2 a1_3 a2_0 a2_1 a2_2 a2_3))) = some r:=h
 clear h
 have HC4:=Ak H
 clear H
 go_enter Try.func39,Try.ntmps39
 go_upto_region 1 with (first|((with_reducible refine gate_dst (N:=3) rfl ?_);refine box_event ?hg (N:=3) ?hd (cs:=#[.int .i64 a0_0,.int .i64 a0_1,.int .i64 a0_2,.int .i64 a0_3]) (t:=35) ?hr ?_;(case hd => rfl);(case hg => rfl);(case hr => first|(go_simp;done)|(go_simp;rfl));intro gb300 hg w5 hbox hb;have n0_:=Kh HB hb;have n1_:=Ak (hbox);have n2_:=Kz hg HB;have n3_:=Kz hg HB;clear HB;have HB:=n0_;have BK300:=n1_;have GW300:=n2_;have GE300:=n3_;clear n0_ n1_ n2_ n3_;clear hb hbox hg)|((with_reducible refine gate_dst (N:=4) rfl ?_);refine box_event ?hg (N:=4) ?hd (cs:=#[.int .i64 a1_0,.int .i64 a1_1,.int .i64 a1_2,.int .i64 a1_3]) (t:=35) ?hr ?_;(case hd => rfl);(case hg => rfl);(case hr => first|(go_simp;done)|(go_simp;rfl));intro gb301 hg w6 hbox hb;have n0_:=Kb BK300 hb;have n1_:=Kh HB hb;have n2_:=Ak (hbox);have n3_:=Kz hg HB;have n4_:=Kz hg HB;have n5_:=Kl hg BK300;have n6_:=Km hg BK300;clear BK300 HB;have BK300:=n0_;have HB:=n1_;have BK301:=n2_;have GW301:=n3_;have GE301:=n4_;have NB300_301:=n5_;have NB301_300:=n6_;clear n0_ n1_ n2_ n3_ n4_ n5_ n6_;clear hb hbox hg)|((with_reducible refine gate_dst (N:=5) rfl ?_);refine box_event ?hg (N:=5) ?hd (cs:=#[.int .i64 a2_0,.int .i64 a2_1,.int .i64 a2_2,.int .i64 a2_3]) (t:=35) ?hr ?_;(case hd => rfl);(case hg => rfl);(case hr => first|(go_simp;done)|(go_simp;rfl));intro gb302 hg w7 hbox hb;have n0_:=Kb BK300 hb;have n1_:=Kb BK301 hb;have n2_:=Kh HB hb;have n3_:=Ak (hbox);have n4_:=Kz hg HB;have n5_:=Kz hg HB;have n6_:=Kl hg BK300;have n7_:=Km hg BK300;have n8_:=Kl hg BK301;have n9_:=Km hg BK301;clear BK300 BK301 HB;have BK300:=n0_;have BK301:=n1_;have HB:=n2_;have BK302:=n3_;have GW302:=n4_;have GE302:=n5_;have NB300_302:=n6_;have NB302_300:=n7_;have NB301_302:=n8_;have NB302_301:=n9_;clear n0_ n1_ n2_ n3_ n4_ n5_ n6_ n7_ n8_ n9_;clear hb hbox hg))
 (try simp only [Act.put,sA,sZ,sS])
 go_cut [23] (fun v23 wc => ∃ (kq : Nat) (x23_3 : Bool),v23 = .bool x23_3∧Aside0 (gazetteerref09_Less.j0 kq x23_3 a0_0 a0_1 a0_2 a0_3 a1_0 a1_1 a1_2 a1_3 a2_0 a2_1 a2_2 a2_3 = some r)∧Aside0 (kq ≤ k)∧Aside0 (wc.heap[gb300]? = some (.cells #[.int .i64 a0_0,.int .i64 a0_1,.int .i64 a0_2,.int .i64 a0_3] 35 (0,0)))∧Aside0 (wc.heap[gb301]? = some (.cells #[.int .i64 a1_0,.int .i64 a1_1,.int .i64 a1_2,.int .i64 a1_3] 35 (0,0)))∧Aside0 (wc.heap[gb302]? = some (.cells #[.int .i64 a2_0,.int .i64 a2_1,.int .i64 a2_2,.int .i64 a2_3] 35 (0,0)))∧Aside0 (Below w.heap.size w wc))
 case first =>
  have H:=HC4.out
  clear HC4
  replace H:=Option.bind_eq_some_iff.mp H
  obtain ⟨t303,A80,H⟩:=H
  replace H : (if t303 = true then ((gazetteerref09_Box.f a1_0 a1_1 a1_2 a1_3).bind fun t304 => (if t304 = true then ((gazetteerref09_Box.f a2_0 a2_1 a2_2 a2_3).bind fun t305 => (gazetteerref09_Less.j0 k (!t305) a0_0 a0_1 a0_2 a0_3 a1_0 a1_1 a1_2 a1_3 a2_0 a2_1 a2_2 a2_3)) else (gazetteerref09_Less.j0 k true a0_0 a0_1 a0_2 a0_3 a1_0 a1_1 a1_2 a1_3 a2_0 a2_1 a2_2 a2_3))) else (gazetteerref09_Less.j0 k true a0_0 a0_1 a0_2 a0_3 a1_0 a1_1 a1_2 a1_3 a2_0 a2_1 a2_2 a2_3)) = some r:=H
  have A8:=Ak A80
  clear A80
  by_cases c9 : t303 = true
  ·subst c9
   have H1 : ((gazetteerref09_Box.f a1_0 a1_1 a1_2 a1_3).bind fun t304 => (if t304 = true then ((gazetteerref09_Box.f a2_0 a2_1 a2_2 a2_3).bind fun t305 => (gazetteerref09_Less.j0 k (!t305) a0_0 a0_1 a0_2 a0_3 a1_0 a1_1 a1_2 a1_3 a2_0 a2_1 a2_2 a2_3)) else (gazetteerref09_Less.j0 k true a0_0 a0_1 a0_2 a0_3 a1_0 a1_1 a1_2 a1_3 a2_0 a2_1 a2_2 a2_3))) = some r:=by rw [if_pos rfl] at H;exact H
   clear H
   have H:=H1
   clear H1
   replace H:=Option.bind_eq_some_iff.mp H
   obtain ⟨t304,A100,H⟩:=H
   replace H : (if t304 = true then ((gazetteerref09_Box.f a2_0 a2_1 a2_2 a2_3).bind fun t305 => (gazetteerref09_Less.j0 k (!t305) a0_0 a0_1 a0_2 a0_3 a1_0 a1_1 a1_2 a1_3 a2_0 a2_1 a2_2 a2_3)) else (gazetteerref09_Less.j0 k true a0_0 a0_1 a0_2 a0_3 a1_0 a1_1 a1_2 a1_3 a2_0 a2_1 a2_2 a2_3)) = some r:=H
   have A10:=Ak A100
   clear A100
   by_cases c11 : t304 = true
   ·subst c11
    have H1 : ((gazetteerref09_Box.f a2_0 a2_1 a2_2 a2_3).bind fun t305 => (gazetteerref09_Less.j0 k (!t305) a0_0 a0_1 a0_2 a0_3 a1_0 a1_1 a1_2 a1_3 a2_0 a2_1 a2_2 a2_3)) = some r:=by rw [if_pos rfl] at H;exact H
    clear H
    have H:=H1
    clear H1
    replace H:=Option.bind_eq_some_iff.mp H
    obtain ⟨t305,A120,H⟩:=H
    replace H : (gazetteerref09_Less.j0 k (!t305) a0_0 a0_1 a0_2 a0_3 a1_0 a1_1 a1_2 a1_3 a2_0 a2_1 a2_2 a2_3) = some r:=H
    have A12:=Ak A120
    clear A120
    have H':=Ak H
    clear H
    have hnb13:=NB300_301.out
    have hnc13:=NB301_300.out
    have hnb14:=NB300_302.out
    have hnc14:=NB302_300.out
    have hcz15_0 : w7.cell? ⟨gb300,0,none⟩ = some (.int .i64 a0_0):=(kC BK300.out 0).trans rfl
    have hcz15_1 : w7.cell? ⟨gb300,1,none⟩ = some (.int .i64 a0_1):=(kC BK300.out 1).trans rfl
    have hcz15_2 : w7.cell? ⟨gb300,2,none⟩ = some (.int .i64 a0_2):=(kC BK300.out 2).trans rfl
    have hcz15_3 : w7.cell? ⟨gb300,3,none⟩ = some (.int .i64 a0_3):=(kC BK300.out 3).trans rfl
    have hfz15_0:=blk_frozen BK300.out 0
    have hfz15_1:=blk_frozen BK300.out 1
    have hfz15_2:=blk_frozen BK300.out 2
    have hfz15_3:=blk_frozen BK300.out 3
    go_wp2_with (first|((with_reducible refine gate_callee (f:=59) rfl ?_);refine goesL_ (some 12) rfl rfl Try.func59 (by kernel_rfl) rfl #[.agg #[.int .i64 a0_0,.int .i64 a0_1,.int .i64 a0_2,.int .i64 a0_3]] rfl (by (try simp only [List.map_toArray,List.map_cons,List.map_nil]);first|done|rfl|(simp only [List.length_drop,List.length_take];rfl)) ?_;(with_reducible refine (gazetteerref09_Box.calls a0_0 a0_1 a0_2 a0_3 true _ A8.out).mono ?_);rintro e w16 ⟨rfl,hb⟩;refine ⟨_,rfl,?_⟩;have n0_:=Kb BK300 hb;have n1_:=Kb BK301 hb;have n2_:=Kb BK302 hb;have n3_:=Kh HB hb;clear BK300 BK301 BK302 HB;have BK300:=n0_;have BK301:=n1_;have BK302:=n2_;have HB:=n3_;clear n0_ n1_ n2_ n3_;(try clear hb);(try clear hb2);(try clear hk);(try clear hi);have hnb17:=NB301_302.out;have hnc17:=NB302_301.out;have hcz18_0 : w16.cell? ⟨gb301,0,none⟩ = some (.int .i64 a1_0):=(kC BK301.out 0).trans rfl;have hcz18_1 : w16.cell? ⟨gb301,1,none⟩ = some (.int .i64 a1_1):=(kC BK301.out 1).trans rfl;have hcz18_2 : w16.cell? ⟨gb301,2,none⟩ = some (.int .i64 a1_2):=(kC BK301.out 2).trans rfl;have hcz18_3 : w16.cell? ⟨gb301,3,none⟩ = some (.int .i64 a1_3):=(kC BK301.out 3).trans rfl;have hfz18_0:=blk_frozen BK301.out 0;have hfz18_1:=blk_frozen BK301.out 1;have hfz18_2:=blk_frozen BK301.out 2;have hfz18_3:=blk_frozen BK301.out 3)|(go_at_call 59;(with_reducible refine (gazetteerref09_Box.calls a1_0 a1_1 a1_2 a1_3 true _ A10.out).mono ?_);rintro e w19 ⟨rfl,hb⟩;have n0_:=Kb BK300 hb;have n1_:=Kb BK301 hb;have n2_:=Kb BK302 hb;have n3_:=Kh HB hb;clear BK300 BK301 BK302 HB;have BK300:=n0_;have BK301:=n1_;have BK302:=n2_;have HB:=n3_;clear n0_ n1_ n2_ n3_;(try clear hb);(try clear hb2);(try clear hk);(try clear hi);have hcz20_0 : w19.cell? ⟨gb302,0,none⟩ = some (.int .i64 a2_0):=(kC BK302.out 0).trans rfl;have hcz20_1 : w19.cell? ⟨gb302,1,none⟩ = some (.int .i64 a2_1):=(kC BK302.out 1).trans rfl;have hcz20_2 : w19.cell? ⟨gb302,2,none⟩ = some (.int .i64 a2_2):=(kC BK302.out 2).trans rfl;have hcz20_3 : w19.cell? ⟨gb302,3,none⟩ = some (.int .i64 a2_3):=(kC BK302.out 3).trans rfl;have hfz20_0:=blk_frozen BK302.out 0;have hfz20_1:=blk_frozen BK302.out 1;have hfz20_2:=blk_frozen BK302.out 2;have hfz20_3:=blk_frozen BK302.out 3)|(go_at_call 59;(with_reducible refine (gazetteerref09_Box.calls a2_0 a2_1 a2_2 a2_3 t305 _ A12.out).mono ?_);rintro e w21 ⟨rfl,hb⟩;have n0_:=Kb BK300 hb;have n1_:=Kb BK301 hb;have n2_:=Kb BK302 hb;have n3_:=Kh HB hb;clear BK300 BK301 BK302 HB;have BK300:=n0_;have BK301:=n1_;have BK302:=n2_;have HB:=n3_;clear n0_ n1_ n2_ n3_;(try clear hb);(try clear hb2);(try clear hk);(try clear hi)))
    go_meet
    case rel => exact ⟨_,(!t305),(by first|rfl|(simp;done)|(simp [*];done)),H',⟨by first|omega|exact Nat.le_refl _⟩,⟨by (with_reducible repeat (first|refine kN ?_ _|refine kD ?_|refine kA ?_ _));exact BK300.out⟩,⟨by (with_reducible repeat (first|refine kN ?_ _|refine kD ?_|refine kA ?_ _));exact BK301.out⟩,⟨by (with_reducible repeat (first|refine kN ?_ _|refine kD ?_|refine kA ?_ _));exact BK302.out⟩,⟨by repeat (first|(with_reducible first|exact HB.out|apply bA|apply bN|apply bD|refine bS ?_ GE300.out|refine bS ?_ GE301.out|refine bS ?_ GE302.out)|exact HB.out)⟩⟩
   ·replace c11:=Bool.eq_false_iff.mpr c11
    subst c11
    have H1 : (gazetteerref09_Less.j0 k true a0_0 a0_1 a0_2 a0_3 a1_0 a1_1 a1_2 a1_3 a2_0 a2_1 a2_2 a2_3) = some r:=by rw [if_neg (show ¬ (false = true) by decide)] at H;exact H
    clear H
    have H:=H1
    clear H1
    have H':=Ak H
    clear H
    have hnb22:=NB300_301.out
    have hnc22:=NB301_300.out
    have hnb23:=NB300_302.out
    have hnc23:=NB302_300.out
    have hcz24_0 : w7.cell? ⟨gb300,0,none⟩ = some (.int .i64 a0_0):=(kC BK300.out 0).trans rfl
    have hcz24_1 : w7.cell? ⟨gb300,1,none⟩ = some (.int .i64 a0_1):=(kC BK300.out 1).trans rfl
    have hcz24_2 : w7.cell? ⟨gb300,2,none⟩ = some (.int .i64 a0_2):=(kC BK300.out 2).trans rfl
    have hcz24_3 : w7.cell? ⟨gb300,3,none⟩ = some (.int .i64 a0_3):=(kC BK300.out 3).trans rfl
    have hfz24_0:=blk_frozen BK300.out 0
    have hfz24_1:=blk_frozen BK300.out 1
    have hfz24_2:=blk_frozen BK300.out 2
    have hfz24_3:=blk_frozen BK300.out 3
    go_wp2_with (first|((with_reducible refine gate_callee (f:=59) rfl ?_);refine goesL_ (some 12) rfl rfl Try.func59 (by kernel_rfl) rfl #[.agg #[.int .i64 a0_0,.int .i64 a0_1,.int .i64 a0_2,.int .i64 a0_3]] rfl (by (try simp only [List.map_toArray,List.map_cons,List.map_nil]);first|done|rfl|(simp only [List.length_drop,List.length_take];rfl)) ?_;(with_reducible refine (gazetteerref09_Box.calls a0_0 a0_1 a0_2 a0_3 true _ A8.out).mono ?_);rintro e w25 ⟨rfl,hb⟩;refine ⟨_,rfl,?_⟩;have n0_:=Kb BK300 hb;have n1_:=Kb BK301 hb;have n2_:=Kb BK302 hb;have n3_:=Kh HB hb;clear BK300 BK301 BK302 HB;have BK300:=n0_;have BK301:=n1_;have BK302:=n2_;have HB:=n3_;clear n0_ n1_ n2_ n3_;(try clear hb);(try clear hb2);(try clear hk);(try clear hi);have hnb26:=NB301_302.out;have hnc26:=NB302_301.out;have hcz27_0 : w25.cell? ⟨gb301,0,none⟩ = some (.int .i64 a1_0):=(kC BK301.out 0).trans rfl;have hcz27_1 : w25.cell? ⟨gb301,1,none⟩ = some (.int .i64 a1_1):=(kC BK301.out 1).trans rfl;have hcz27_2 : w25.cell? ⟨gb301,2,none⟩ = some (.int .i64 a1_2):=(kC BK301.out 2).trans rfl;have hcz27_3 : w25.cell? ⟨gb301,3,none⟩ = some (.int .i64 a1_3):=(kC BK301.out 3).trans rfl;have hfz27_0:=blk_frozen BK301.out 0;have hfz27_1:=blk_frozen BK301.out 1;have hfz27_2:=blk_frozen BK301.out 2;have hfz27_3:=blk_frozen BK301.out 3)|(go_at_call 59;(with_reducible refine (gazetteerref09_Box.calls a1_0 a1_1 a1_2 a1_3 false _ A10.out).mono ?_);rintro e w28 ⟨rfl,hb⟩;have n0_:=Kb BK300 hb;have n1_:=Kb BK301 hb;have n2_:=Kb BK302 hb;have n3_:=Kh HB hb;clear BK300 BK301 BK302 HB;have BK300:=n0_;have BK301:=n1_;have BK302:=n2_;have HB:=n3_;clear n0_ n1_ n2_ n3_;(try clear hb);(try clear hb2);(try clear hk);(try clear hi)))
    go_meet
    case rel => exact ⟨_,(true),(by first|rfl|(simp;done)|(simp [*];done)),H',⟨by first|omega|exact Nat.le_refl _⟩,⟨by (with_reducible repeat (first|refine kN ?_ _|refine kD ?_|refine kA ?_ _));exact BK300.out⟩,⟨by (with_reducible repeat (first|refine kN ?_ _|refine kD ?_|refine kA ?_ _));exact BK301.out⟩,⟨by (with_reducible repeat (first|refine kN ?_ _|refine kD ?_|refine kA ?_ _));exact BK302.out⟩,⟨by repeat (first|(with_reducible first|exact HB.out|apply bA|apply bN|apply bD|refine bS ?_ GE300.out|refine bS ?_ GE301.out|refine bS ?_ GE302.out)|exact HB.out)⟩⟩
  ·replace c9:=Bool.eq_false_iff.mpr c9
   subst c9
   have H1 : (gazetteerref09_Less.j0 k true a0_0 a0_1 a0_2 a0_3 a1_0 a1_1 a1_2 a1_3 a2_0 a2_1 a2_2 a2_3) = some r:=by rw [if_neg (show ¬ (false = true) by decide)] at H;exact H
   clear H
   have H:=H1
   clear H1
   have H':=Ak H
   clear H
   have hnb29:=NB300_301.out
   have hnc29:=NB301_300.out
   have hnb30:=NB300_302.out
   have hnc30:=NB302_300.out
   have hcz31_0 : w7.cell? ⟨gb300,0,none⟩ = some (.int .i64 a0_0):=(kC BK300.out 0).trans rfl
   have hcz31_1 : w7.cell? ⟨gb300,1,none⟩ = some (.int .i64 a0_1):=(kC BK300.out 1).trans rfl
   have hcz31_2 : w7.cell? ⟨gb300,2,none⟩ = some (.int .i64 a0_2):=(kC BK300.out 2).trans rfl
   have hcz31_3 : w7.cell? ⟨gb300,3,none⟩ = some (.int .i64 a0_3):=(kC BK300.out 3).trans rfl
   have hfz31_0:=blk_frozen BK300.out 0
   have hfz31_1:=blk_frozen BK300.out 1
   have hfz31_2:=blk_frozen BK300.out 2
   have hfz31_3:=blk_frozen BK300.out 3
   go_wp2_with (first|((with_reducible refine gate_callee (f:=59) rfl ?_);refine goesL_ (some 12) rfl rfl Try.func59 (by kernel_rfl) rfl #[.agg #[.int .i64 a0_0,.int .i64 a0_1,.int .i64 a0_2,.int .i64 a0_3]] rfl (by (try simp only [List.map_toArray,List.map_cons,List.map_nil]);first|done|rfl|(simp only [List.length_drop,List.length_take];rfl)) ?_;(with_reducible refine (gazetteerref09_Box.calls a0_0 a0_1 a0_2 a0_3 false _ A8.out).mono ?_);rintro e w32 ⟨rfl,hb⟩;refine ⟨_,rfl,?_⟩;have n0_:=Kb BK300 hb;have n1_:=Kb BK301 hb;have n2_:=Kb BK302 hb;have n3_:=Kh HB hb;clear BK300 BK301 BK302 HB;have BK300:=n0_;have BK301:=n1_;have BK302:=n2_;have HB:=n3_;clear n0_ n1_ n2_ n3_;(try clear hb);(try clear hb2);(try clear hk);(try clear hi)))
   go_meet
   case rel => exact ⟨_,(true),(by first|rfl|(simp;done)|(simp [*];done)),H',⟨by first|omega|exact Nat.le_refl _⟩,⟨by (with_reducible repeat (first|refine kN ?_ _|refine kD ?_|refine kA ?_ _));exact BK300.out⟩,⟨by (with_reducible repeat (first|refine kN ?_ _|refine kD ?_|refine kA ?_ _));exact BK301.out⟩,⟨by (with_reducible repeat (first|refine kN ?_ _|refine kD ?_|refine kA ?_ _));exact BK302.out⟩,⟨by repeat (first|(with_reducible first|exact HB.out|apply bA|apply bN|apply bD|refine bS ?_ GE300.out|refine bS ?_ GE301.out|refine bS ?_ GE302.out)|exact HB.out)⟩⟩
 case rest =>
  clear HC4
  try clear c1
  try clear c2
  try clear p2
  try clear c3
  try clear c5
  try clear c9
  try clear c11
  try clear c13
  try clear c14
  try clear c17
  try clear c22
  try clear c23
  try clear c26
  try clear c29
  try clear c30
  try clear hcz15_0
  try clear hcz15_1
  try clear hcz15_2
  try clear hcz15_3
  try clear hcz18_0
  try clear hcz18_1
  try clear hcz18_2
  try clear hcz18_3
  try clear hcz20_0
  try clear hcz20_1
  try clear hcz20_2
  try clear hcz20_3
  try clear hcz24_0
  try clear hcz24_1
  try clear hcz24_2
  try clear hcz24_3
  try clear hcz27_0
  try clear hcz27_1
  try clear hcz27_2
  try clear hcz27_3
  try clear hcz31_0
  try clear hcz31_1
  try clear hcz31_2
  try clear hcz31_3
  try clear hfz15_0
  try clear hfz15_1
  try clear hfz15_2
  try clear hfz15_3
  try clear hfz18_0
  try clear hfz18_1
  try clear hfz18_2
  try clear hfz18_3
  try clear hfz20_0
  try clear hfz20_1
  try clear hfz20_2
  try clear hfz20_3
  try clear hfz24_0
  try clear hfz24_1
  try clear hfz24_2
  try clear hfz24_3
  try clear hfz27_0
  try clear hfz27_1
  try clear hfz27_2
  try clear hfz27_3
  try clear hfz31_0
  try clear hfz31_1
  try clear hfz31_2
  try clear hfz31_3
  obtain ⟨kq,x23_3,rfl,HA,HJ3,BK300,BK301,BK302,HB⟩:=hcut
  cases kq with
  | zero => exact absurd HA.out (by simp [gazetteerref09_Less.j0])
  | succ kj3 =>
   have H:=HA.out
   clear HA
   simp only [gazetteerref09_Less.j0] at H
   by_cases c33 : x23_3 = true
   ·subst c33
    have H1 : (some false) = some r:=by rw [if_pos rfl] at H;exact H
    clear H
    have H:=H1
    clear H1
    obtain rfl:=Option.some.inj H
    go_wp2
    go_ret
    exact ⟨by first|rfl|(simp [errW_none,errW_some] <;> rfl)|(simp [*,errW_none,errW_some] <;> rfl),by repeat (first|(with_reducible first|exact HB.out|apply bA|apply bN|apply bD|refine bS ?_ GE300.out|refine bS ?_ GE301.out|refine bS ?_ GE302.out)|exact HB.out)⟩
   ·replace c33:=Bool.eq_false_iff.mpr c33
    subst c33
    have H1 : ((gazetteerref09_Grows.f kj3 a0_0 a0_1 a0_2 a0_3 a2_0 a2_1 a2_2 a2_3).bind fun bt306 => ((gazetteerref09_Grows.f kj3 a1_0 a1_1 a1_2 a1_3 a2_0 a2_1 a2_2 a2_3).bind fun bt312 => ((gazetteerref09_Order.f bt306.1 bt306.2.1 bt306.2.2.1 bt306.2.2.2 bt312.1 bt312.2.1 bt312.2.2.1 bt312.2.2.2).bind fun t318 => (some (decide (t318 < 0)))))) = some r:=by rw [if_neg (show ¬ (false = true) by decide)] at H;exact H
    clear H
    have H:=H1
    clear H1
    replace H:=Option.bind_eq_some_iff.mp H
    obtain ⟨⟨t306,t307,t308,t309⟩,A340,H⟩:=H
    replace H : ((gazetteerref09_Grows.f kj3 a1_0 a1_1 a1_2 a1_3 a2_0 a2_1 a2_2 a2_3).bind fun bt312 => ((gazetteerref09_Order.f t306 t307 t308 t309 bt312.1 bt312.2.1 bt312.2.2.1 bt312.2.2.2).bind fun t318 => (some (decide (t318 < 0))))) = some r:=H
    have A34:=Ak A340
    clear A340
    replace H:=Option.bind_eq_some_iff.mp H
    obtain ⟨⟨t312,t313,t314,t315⟩,A350,H⟩:=H
    replace H : ((gazetteerref09_Order.f t306 t307 t308 t309 t312 t313 t314 t315).bind fun t318 => (some (decide (t318 < 0)))) = some r:=H
    have A35:=Ak A350
    clear A350
    replace H:=Option.bind_eq_some_iff.mp H
    obtain ⟨t318,A360,H⟩:=H
    replace H : (some (decide (t318 < 0))) = some r:=H
    have A36:=Ak A360
    clear A360
    obtain rfl:=Option.some.inj H
    have hnb37:=NB300_301.out
    have hnc37:=NB301_300.out
    have hnb38:=NB300_302.out
    have hnc38:=NB302_300.out
    have hcz39_0 : wc.cell? ⟨gb300,0,none⟩ = some (.int .i64 a0_0):=(kC BK300.out 0).trans rfl
    have hcz39_1 : wc.cell? ⟨gb300,1,none⟩ = some (.int .i64 a0_1):=(kC BK300.out 1).trans rfl
    have hcz39_2 : wc.cell? ⟨gb300,2,none⟩ = some (.int .i64 a0_2):=(kC BK300.out 2).trans rfl
    have hcz39_3 : wc.cell? ⟨gb300,3,none⟩ = some (.int .i64 a0_3):=(kC BK300.out 3).trans rfl
    have hfz39_0:=blk_frozen BK300.out 0
    have hfz39_1:=blk_frozen BK300.out 1
    have hfz39_2:=blk_frozen BK300.out 2
    have hfz39_3:=blk_frozen BK300.out 3
    have hnb40:=NB302_301.out
    have hnc40:=NB301_302.out
    have hcz41_0 : wc.cell? ⟨gb302,0,none⟩ = some (.int .i64 a2_0):=(kC BK302.out 0).trans rfl
    have hcz41_1 : wc.cell? ⟨gb302,1,none⟩ = some (.int .i64 a2_1):=(kC BK302.out 1).trans rfl
    have hcz41_2 : wc.cell? ⟨gb302,2,none⟩ = some (.int .i64 a2_2):=(kC BK302.out 2).trans rfl
    have hcz41_3 : wc.cell? ⟨gb302,3,none⟩ = some (.int .i64 a2_3):=(kC BK302.out 3).trans rfl
    have hfz41_0:=blk_frozen BK302.out 0
    have hfz41_1:=blk_frozen BK302.out 1
    have hfz41_2:=blk_frozen BK302.out 2
    have hfz41_3:=blk_frozen BK302.out 3
    go_wp2_with (first|((with_reducible refine gate_callee (f:=37) rfl ?_);refine goesL_ (some 27) rfl rfl Try.func37 (by kernel_rfl) rfl #[.agg #[.int .i64 a0_0,.int .i64 a0_1,.int .i64 a0_2,.int .i64 a0_3],.agg #[.int .i64 a2_0,.int .i64 a2_1,.int .i64 a2_2,.int .i64 a2_3]] rfl (by (try simp only [List.map_toArray,List.map_cons,List.map_nil]);first|done|rfl|(simp only [List.length_drop,List.length_take];rfl)) ?_;(with_reducible refine (gazetteerref09_Grows.calls kj3 a0_0 a0_1 a0_2 a0_3 a2_0 a2_1 a2_2 a2_3 t306 t307 t308 t309 _ A34.out).mono ?_);rintro e w42 ⟨rfl,hb⟩;refine ⟨_,rfl,?_⟩;have n0_:=Kb BK300 hb;have n1_:=Kb BK301 hb;have n2_:=Kb BK302 hb;have n3_:=Ak (below_step (by repeat (first|(with_reducible first|exact HB.out|apply bA|apply bN|apply bD|refine bS ?_ GE300.out|refine bS ?_ GE301.out|refine bS ?_ GE302.out)|exact HB.out)) hb);clear BK300 BK301 BK302 HB;have BK300:=n0_;have BK301:=n1_;have BK302:=n2_;have HB:=n3_;clear n0_ n1_ n2_ n3_;(try clear hb);(try clear hb2);(try clear hk);(try clear hi))|((with_reducible refine gate_dst (N:=7) rfl ?_);refine box_event ?hg (N:=7) ?hd (cs:=#[.int .u64 0,.int .u64 0]) (t:=25) ?hr ?_;(case hd => rfl);(case hg => rfl);(case hr => first|(go_simp;done)|(go_simp;rfl));intro gb310 hg w43 hbox hb;have n0_:=Kb BK300 hb;have n1_:=Kb BK301 hb;have n2_:=Kb BK302 hb;have n3_:=Ak (below_step (by repeat (first|(with_reducible first|exact HB.out|apply bA|apply bN|apply bD|refine bS ?_ GE300.out|refine bS ?_ GE301.out|refine bS ?_ GE302.out)|exact HB.out)) hb);have n4_:=Ak (hbox);have n5_:=Kz hg HB;have n6_:=Kz hg HB;have n7_:=Kl hg BK300;have n8_:=Km hg BK300;have n9_:=Kl hg BK301;have n10_:=Km hg BK301;have n11_:=Kl hg BK302;have n12_:=Km hg BK302;clear BK300 BK301 BK302 HB;have BK300:=n0_;have BK301:=n1_;have BK302:=n2_;have HB:=n3_;have BK310:=n4_;have GW310:=n5_;have GE310:=n6_;have NB300_310:=n7_;have NB310_300:=n8_;have NB301_310:=n9_;have NB310_301:=n10_;have NB302_310:=n11_;have NB310_302:=n12_;clear n0_ n1_ n2_ n3_ n4_ n5_ n6_ n7_ n8_ n9_ n10_ n11_ n12_;clear hb hbox hg)|((with_reducible refine gate_dst (N:=8) rfl ?_);refine box_event ?hg (N:=8) ?hd (cs:=#[.int .u64 0,.int .u64 0]) (t:=25) ?hr ?_;(case hd => rfl);(case hg => rfl);(case hr => first|(go_simp;done)|(go_simp;rfl));intro gb311 hg w44 hbox hb;have n0_:=Kb BK300 hb;have n1_:=Kb BK301 hb;have n2_:=Kb BK302 hb;have n3_:=Kb BK310 hb;have n4_:=Ak (below_step (by repeat (first|(with_reducible first|exact HB.out|apply bA|apply bN|apply bD|refine bS ?_ GE300.out|refine bS ?_ GE301.out|refine bS ?_ GE302.out|refine bS ?_ GE310.out)|exact HB.out)) hb);have n5_:=Ak (hbox);have n6_:=Kz hg HB;have n7_:=Kz hg HB;have n8_:=Kl hg BK300;have n9_:=Km hg BK300;have n10_:=Kl hg BK301;have n11_:=Km hg BK301;have n12_:=Kl hg BK302;have n13_:=Km hg BK302;have n14_:=Kl hg BK310;have n15_:=Km hg BK310;clear BK300 BK301 BK302 BK310 HB;have BK300:=n0_;have BK301:=n1_;have BK302:=n2_;have BK310:=n3_;have HB:=n4_;have BK311:=n5_;have GW311:=n6_;have GE311:=n7_;have NB300_311:=n8_;have NB311_300:=n9_;have NB301_311:=n10_;have NB311_301:=n11_;have NB302_311:=n12_;have NB311_302:=n13_;have NB310_311:=n14_;have NB311_310:=n15_;clear n0_ n1_ n2_ n3_ n4_ n5_ n6_ n7_ n8_ n9_ n10_ n11_ n12_ n13_ n14_ n15_;clear hb hbox hg;have hnb45:=NB310_300.out;have hnc45:=NB300_310.out;have hnb46:=NB310_301.out;have hnc46:=NB301_310.out;have hnb47:=NB310_302.out;have hnc47:=NB302_310.out;have hnb48:=NB310_311.out;have hnc48:=NB311_310.out;have hcz49_0 : w44.cell? ⟨gb310,0,none⟩ = some (.int .u64 0):=(kC BK310.out 0).trans rfl;have hcz49_1 : w44.cell? ⟨gb310,1,none⟩ = some (.int .u64 0):=(kC BK310.out 1).trans rfl;have hfz49_0:=blk_frozen BK310.out 0;have hfz49_1:=blk_frozen BK310.out 1;have hnb50:=NB311_300.out;have hnc50:=NB300_311.out;have hnb51:=NB311_301.out;have hnc51:=NB301_311.out;have hnb52:=NB311_302.out;have hnc52:=NB302_311.out;have hcz53_0 : w44.cell? ⟨gb311,0,none⟩ = some (.int .u64 0):=(kC BK311.out 0).trans rfl;have hcz53_1 : w44.cell? ⟨gb311,1,none⟩ = some (.int .u64 0):=(kC BK311.out 1).trans rfl;have hfz53_0:=blk_frozen BK311.out 0;have hfz53_1:=blk_frozen BK311.out 1;have hcz54_0 : w44.cell? ⟨gb301,0,none⟩ = some (.int .i64 a1_0):=(kC BK301.out 0).trans rfl;have hcz54_1 : w44.cell? ⟨gb301,1,none⟩ = some (.int .i64 a1_1):=(kC BK301.out 1).trans rfl;have hcz54_2 : w44.cell? ⟨gb301,2,none⟩ = some (.int .i64 a1_2):=(kC BK301.out 2).trans rfl;have hcz54_3 : w44.cell? ⟨gb301,3,none⟩ = some (.int .i64 a1_3):=(kC BK301.out 3).trans rfl;have hfz54_0:=blk_frozen BK301.out 0;have hfz54_1:=blk_frozen BK301.out 1;have hfz54_2:=blk_frozen BK301.out 2;have hfz54_3:=blk_frozen BK301.out 3;have hcz55_0 : w44.cell? ⟨gb302,0,none⟩ = some (.int .i64 a2_0):=(kC BK302.out 0).trans rfl;have hcz55_1 : w44.cell? ⟨gb302,1,none⟩ = some (.int .i64 a2_1):=(kC BK302.out 1).trans rfl;have hcz55_2 : w44.cell? ⟨gb302,2,none⟩ = some (.int .i64 a2_2):=(kC BK302.out 2).trans rfl;have hcz55_3 : w44.cell? ⟨gb302,3,none⟩ = some (.int .i64 a2_3):=(kC BK302.out 3).trans rfl;have hfz55_0:=blk_frozen BK302.out 0;have hfz55_1:=blk_frozen BK302.out 1;have hfz55_2:=blk_frozen BK302.out 2;have hfz55_3:=blk_frozen BK302.out 3)|((with_reducible refine gate_callee (f:=37) rfl ?_);refine goesL_ (some 33) rfl rfl Try.func37 (by kernel_rfl) rfl #[.agg #[.int .i64 a1_0,.int .i64 a1_1,.int .i64 a1_2,.int .i64 a1_3],.agg #[.int .i64 a2_0,.int .i64 a2_1,.int .i64 a2_2,.int .i64 a2_3]] rfl (by (try simp only [List.map_toArray,List.map_cons,List.map_nil]);first|done|rfl|(simp only [List.length_drop,List.length_take];rfl)) ?_;(with_reducible refine (gazetteerref09_Grows.calls kj3 a1_0 a1_1 a1_2 a1_3 a2_0 a2_1 a2_2 a2_3 t312 t313 t314 t315 _ A35.out).mono ?_);rintro e w56 ⟨rfl,hb⟩;refine ⟨_,rfl,?_⟩;have n0_:=Ak (kB (g:=gb300) (o:=.cells #[.int .i64 a0_0,.int .i64 a0_1,.int .i64 a0_2,.int .i64 a0_3] 35 (0,0)) (by (with_reducible repeat (first|refine kN ?_ _|refine kD ?_|refine kA ?_ _));refine blk_far ?_ NB300_311.out _;(with_reducible repeat (first|refine kN ?_ _|refine kD ?_|refine kA ?_ _));refine blk_far ?_ NB300_311.out _;(with_reducible repeat (first|refine kN ?_ _|refine kD ?_|refine kA ?_ _));refine blk_far ?_ NB300_310.out _;(with_reducible repeat (first|refine kN ?_ _|refine kD ?_|refine kA ?_ _));refine blk_far ?_ NB300_310.out _;(with_reducible repeat (first|refine kN ?_ _|refine kD ?_|refine kA ?_ _));exact BK300.out) hb);have n1_:=Ak (kB (g:=gb301) (o:=.cells #[.int .i64 a1_0,.int .i64 a1_1,.int .i64 a1_2,.int .i64 a1_3] 35 (0,0)) (by (with_reducible repeat (first|refine kN ?_ _|refine kD ?_|refine kA ?_ _));refine blk_far ?_ NB301_311.out _;(with_reducible repeat (first|refine kN ?_ _|refine kD ?_|refine kA ?_ _));refine blk_far ?_ NB301_311.out _;(with_reducible repeat (first|refine kN ?_ _|refine kD ?_|refine kA ?_ _));refine blk_far ?_ NB301_310.out _;(with_reducible repeat (first|refine kN ?_ _|refine kD ?_|refine kA ?_ _));refine blk_far ?_ NB301_310.out _;(with_reducible repeat (first|refine kN ?_ _|refine kD ?_|refine kA ?_ _));exact BK301.out) hb);have n2_:=Ak (kB (g:=gb302) (o:=.cells #[.int .i64 a2_0,.int .i64 a2_1,.int .i64 a2_2,.int .i64 a2_3] 35 (0,0)) (by (with_reducible repeat (first|refine kN ?_ _|refine kD ?_|refine kA ?_ _));refine blk_far ?_ NB302_311.out _;(with_reducible repeat (first|refine kN ?_ _|refine kD ?_|refine kA ?_ _));refine blk_far ?_ NB302_311.out _;(with_reducible repeat (first|refine kN ?_ _|refine kD ?_|refine kA ?_ _));refine blk_far ?_ NB302_310.out _;(with_reducible repeat (first|refine kN ?_ _|refine kD ?_|refine kA ?_ _));refine blk_far ?_ NB302_310.out _;(with_reducible repeat (first|refine kN ?_ _|refine kD ?_|refine kA ?_ _));exact BK302.out) hb);have n3_:=Ak (kB (g:=gb310) (o:=.cells #[.int .u64 t306,.int .u64 t307] 25 (0,0)) (by (with_reducible repeat (first|refine kN ?_ _|refine kD ?_|refine kA ?_ _));refine blk_far ?_ NB310_311.out _;(with_reducible repeat (first|refine kN ?_ _|refine kD ?_|refine kA ?_ _));refine blk_far ?_ NB310_311.out _;(with_reducible repeat (first|refine kN ?_ _|refine kD ?_|refine kA ?_ _));refine blk_put (cs:=#[.int .u64 t306,.int .u64 0]) ?_ 1 _ rfl;(with_reducible repeat (first|refine kN ?_ _|refine kD ?_|refine kA ?_ _));refine blk_put (cs:=#[.int .u64 0,.int .u64 0]) ?_ 0 _ rfl;(with_reducible repeat (first|refine kN ?_ _|refine kD ?_|refine kA ?_ _));exact BK310.out) hb);have n4_:=Ak (kB (g:=gb311) (o:=.cells #[.int .u64 t308,.int .u64 t309] 25 (0,0)) (by (with_reducible repeat (first|refine kN ?_ _|refine kD ?_|refine kA ?_ _));refine blk_put (cs:=#[.int .u64 t308,.int .u64 0]) ?_ 1 _ rfl;(with_reducible repeat (first|refine kN ?_ _|refine kD ?_|refine kA ?_ _));refine blk_put (cs:=#[.int .u64 0,.int .u64 0]) ?_ 0 _ rfl;(with_reducible repeat (first|refine kN ?_ _|refine kD ?_|refine kA ?_ _));refine blk_far ?_ NB311_310.out _;(with_reducible repeat (first|refine kN ?_ _|refine kD ?_|refine kA ?_ _));refine blk_far ?_ NB311_310.out _;(with_reducible repeat (first|refine kN ?_ _|refine kD ?_|refine kA ?_ _));exact BK311.out) hb);have n5_:=Ak (below_step (by repeat (first|(with_reducible first|exact HB.out|apply bA|apply bN|apply bD|refine bS ?_ GE300.out|refine bS ?_ GE301.out|refine bS ?_ GE302.out|refine bS ?_ GE310.out|refine bS ?_ GE311.out)|exact HB.out)) hb);clear BK300 BK301 BK302 BK310 BK311 HB;have BK300:=n0_;have BK301:=n1_;have BK302:=n2_;have BK310:=n3_;have BK311:=n4_;have HB:=n5_;clear n0_ n1_ n2_ n3_ n4_ n5_;(try clear hb);(try clear hb2);(try clear hk);(try clear hi))|((with_reducible refine gate_dst (N:=9) rfl ?_);refine box_event ?hg (N:=9) ?hd (cs:=#[.int .u64 0,.int .u64 0]) (t:=25) ?hr ?_;(case hd => rfl);(case hg => rfl);(case hr => first|(go_simp;done)|(go_simp;rfl));intro gb316 hg w57 hbox hb;have n0_:=Kb BK300 hb;have n1_:=Kb BK301 hb;have n2_:=Kb BK302 hb;have n3_:=Kb BK310 hb;have n4_:=Kb BK311 hb;have n5_:=Ak (below_step (by repeat (first|(with_reducible first|exact HB.out|apply bA|apply bN|apply bD|refine bS ?_ GE300.out|refine bS ?_ GE301.out|refine bS ?_ GE302.out|refine bS ?_ GE310.out|refine bS ?_ GE311.out)|exact HB.out)) hb);have n6_:=Ak (hbox);have n7_:=Kz hg HB;have n8_:=Kz hg HB;have n9_:=Kl hg BK300;have n10_:=Km hg BK300;have n11_:=Kl hg BK301;have n12_:=Km hg BK301;have n13_:=Kl hg BK302;have n14_:=Km hg BK302;have n15_:=Kl hg BK310;have n16_:=Km hg BK310;have n17_:=Kl hg BK311;have n18_:=Km hg BK311;clear BK300 BK301 BK302 BK310 BK311 HB;have BK300:=n0_;have BK301:=n1_;have BK302:=n2_;have BK310:=n3_;have BK311:=n4_;have HB:=n5_;have BK316:=n6_;have GW316:=n7_;have GE316:=n8_;have NB300_316:=n9_;have NB316_300:=n10_;have NB301_316:=n11_;have NB316_301:=n12_;have NB302_316:=n13_;have NB316_302:=n14_;have NB310_316:=n15_;have NB316_310:=n16_;have NB311_316:=n17_;have NB316_311:=n18_;clear n0_ n1_ n2_ n3_ n4_ n5_ n6_ n7_ n8_ n9_ n10_ n11_ n12_ n13_ n14_ n15_ n16_ n17_ n18_;clear hb hbox hg)|((with_reducible refine gate_dst (N:=10) rfl ?_);refine box_event ?hg (N:=10) ?hd (cs:=#[.int .u64 0,.int .u64 0]) (t:=25) ?hr ?_;(case hd => rfl);(case hg => rfl);(case hr => first|(go_simp;done)|(go_simp;rfl));intro gb317 hg w58 hbox hb;have n0_:=Kb BK300 hb;have n1_:=Kb BK301 hb;have n2_:=Kb BK302 hb;have n3_:=Kb BK310 hb;have n4_:=Kb BK311 hb;have n5_:=Kb BK316 hb;have n6_:=Ak (below_step (by repeat (first|(with_reducible first|exact HB.out|apply bA|apply bN|apply bD|refine bS ?_ GE300.out|refine bS ?_ GE301.out|refine bS ?_ GE302.out|refine bS ?_ GE310.out|refine bS ?_ GE311.out|refine bS ?_ GE316.out)|exact HB.out)) hb);have n7_:=Ak (hbox);have n8_:=Kz hg HB;have n9_:=Kz hg HB;have n10_:=Kl hg BK300;have n11_:=Km hg BK300;have n12_:=Kl hg BK301;have n13_:=Km hg BK301;have n14_:=Kl hg BK302;have n15_:=Km hg BK302;have n16_:=Kl hg BK310;have n17_:=Km hg BK310;have n18_:=Kl hg BK311;have n19_:=Km hg BK311;have n20_:=Kl hg BK316;have n21_:=Km hg BK316;clear BK300 BK301 BK302 BK310 BK311 BK316 HB;have BK300:=n0_;have BK301:=n1_;have BK302:=n2_;have BK310:=n3_;have BK311:=n4_;have BK316:=n5_;have HB:=n6_;have BK317:=n7_;have GW317:=n8_;have GE317:=n9_;have NB300_317:=n10_;have NB317_300:=n11_;have NB301_317:=n12_;have NB317_301:=n13_;have NB302_317:=n14_;have NB317_302:=n15_;have NB310_317:=n16_;have NB317_310:=n17_;have NB311_317:=n18_;have NB317_311:=n19_;have NB316_317:=n20_;have NB317_316:=n21_;clear n0_ n1_ n2_ n3_ n4_ n5_ n6_ n7_ n8_ n9_ n10_ n11_ n12_ n13_ n14_ n15_ n16_ n17_ n18_ n19_ n20_ n21_;clear hb hbox hg;have hnb59:=NB316_300.out;have hnc59:=NB300_316.out;have hnb60:=NB316_301.out;have hnc60:=NB301_316.out;have hnb61:=NB316_302.out;have hnc61:=NB302_316.out;have hnb62:=NB316_310.out;have hnc62:=NB310_316.out;have hnb63:=NB316_311.out;have hnc63:=NB311_316.out;have hnb64:=NB316_317.out;have hnc64:=NB317_316.out;have hcz65_0 : w58.cell? ⟨gb316,0,none⟩ = some (.int .u64 0):=(kC BK316.out 0).trans rfl;have hcz65_1 : w58.cell? ⟨gb316,1,none⟩ = some (.int .u64 0):=(kC BK316.out 1).trans rfl;have hfz65_0:=blk_frozen BK316.out 0;have hfz65_1:=blk_frozen BK316.out 1;have hnb66:=NB317_300.out;have hnc66:=NB300_317.out;have hnb67:=NB317_301.out;have hnc67:=NB301_317.out;have hnb68:=NB317_302.out;have hnc68:=NB302_317.out;have hnb69:=NB317_310.out;have hnc69:=NB310_317.out;have hnb70:=NB317_311.out;have hnc70:=NB311_317.out;have hcz71_0 : w58.cell? ⟨gb317,0,none⟩ = some (.int .u64 0):=(kC BK317.out 0).trans rfl;have hcz71_1 : w58.cell? ⟨gb317,1,none⟩ = some (.int .u64 0):=(kC BK317.out 1).trans rfl;have hfz71_0:=blk_frozen BK317.out 0;have hfz71_1:=blk_frozen BK317.out 1;have hcz72_0 : w58.cell? ⟨gb310,0,none⟩ = some (.int .u64 t306):=(kC BK310.out 0).trans rfl;have hcz72_1 : w58.cell? ⟨gb310,1,none⟩ = some (.int .u64 t307):=(kC BK310.out 1).trans rfl;have hfz72_0:=blk_frozen BK310.out 0;have hfz72_1:=blk_frozen BK310.out 1;have hcz73_0 : w58.cell? ⟨gb311,0,none⟩ = some (.int .u64 t308):=(kC BK311.out 0).trans rfl;have hcz73_1 : w58.cell? ⟨gb311,1,none⟩ = some (.int .u64 t309):=(kC BK311.out 1).trans rfl;have hfz73_0:=blk_frozen BK311.out 0;have hfz73_1:=blk_frozen BK311.out 1)|((with_reducible refine gate_callee (f:=61) rfl ?_);refine goesL_ (some 40) rfl rfl Try.func61 (by kernel_rfl) rfl #[.agg #[.int .u64 t306,.int .u64 t307],.agg #[.int .u64 t308,.int .u64 t309],.agg #[.int .u64 t312,.int .u64 t313],.agg #[.int .u64 t314,.int .u64 t315]] rfl (by (try simp only [List.map_toArray,List.map_cons,List.map_nil]);first|done|rfl|(simp only [List.length_drop,List.length_take];rfl)) ?_;(with_reducible refine (gazetteerref09_Order.calls t306 t307 t308 t309 t312 t313 t314 t315 t318 _ A36.out).mono ?_);rintro e w74 ⟨rfl,hb⟩;refine ⟨_,rfl,?_⟩;have n0_:=Ak (kB (g:=gb300) (o:=.cells #[.int .i64 a0_0,.int .i64 a0_1,.int .i64 a0_2,.int .i64 a0_3] 35 (0,0)) (by (with_reducible repeat (first|refine kN ?_ _|refine kD ?_|refine kA ?_ _));refine blk_far ?_ NB300_317.out _;(with_reducible repeat (first|refine kN ?_ _|refine kD ?_|refine kA ?_ _));refine blk_far ?_ NB300_317.out _;(with_reducible repeat (first|refine kN ?_ _|refine kD ?_|refine kA ?_ _));refine blk_far ?_ NB300_316.out _;(with_reducible repeat (first|refine kN ?_ _|refine kD ?_|refine kA ?_ _));refine blk_far ?_ NB300_316.out _;(with_reducible repeat (first|refine kN ?_ _|refine kD ?_|refine kA ?_ _));exact BK300.out) hb);have n1_:=Ak (kB (g:=gb301) (o:=.cells #[.int .i64 a1_0,.int .i64 a1_1,.int .i64 a1_2,.int .i64 a1_3] 35 (0,0)) (by (with_reducible repeat (first|refine kN ?_ _|refine kD ?_|refine kA ?_ _));refine blk_far ?_ NB301_317.out _;(with_reducible repeat (first|refine kN ?_ _|refine kD ?_|refine kA ?_ _));refine blk_far ?_ NB301_317.out _;(with_reducible repeat (first|refine kN ?_ _|refine kD ?_|refine kA ?_ _));refine blk_far ?_ NB301_316.out _;(with_reducible repeat (first|refine kN ?_ _|refine kD ?_|refine kA ?_ _));refine blk_far ?_ NB301_316.out _;(with_reducible repeat (first|refine kN ?_ _|refine kD ?_|refine kA ?_ _));exact BK301.out) hb);have n2_:=Ak (kB (g:=gb302) (o:=.cells #[.int .i64 a2_0,.int .i64 a2_1,.int .i64 a2_2,.int .i64 a2_3] 35 (0,0)) (by (with_reducible repeat (first|refine kN ?_ _|refine kD ?_|refine kA ?_ _));refine blk_far ?_ NB302_317.out _;(with_reducible repeat (first|refine kN ?_ _|refine kD ?_|refine kA ?_ _));refine blk_far ?_ NB302_317.out _;(with_reducible repeat (first|refine kN ?_ _|refine kD ?_|refine kA ?_ _));refine blk_far ?_ NB302_316.out _;(with_reducible repeat (first|refine kN ?_ _|refine kD ?_|refine kA ?_ _));refine blk_far ?_ NB302_316.out _;(with_reducible repeat (first|refine kN ?_ _|refine kD ?_|refine kA ?_ _));exact BK302.out) hb);have n3_:=Ak (kB (g:=gb310) (o:=.cells #[.int .u64 t306,.int .u64 t307] 25 (0,0)) (by (with_reducible repeat (first|refine kN ?_ _|refine kD ?_|refine kA ?_ _));refine blk_far ?_ NB310_317.out _;(with_reducible repeat (first|refine kN ?_ _|refine kD ?_|refine kA ?_ _));refine blk_far ?_ NB310_317.out _;(with_reducible repeat (first|refine kN ?_ _|refine kD ?_|refine kA ?_ _));refine blk_far ?_ NB310_316.out _;(with_reducible repeat (first|refine kN ?_ _|refine kD ?_|refine kA ?_ _));refine blk_far ?_ NB310_316.out _;(with_reducible repeat (first|refine kN ?_ _|refine kD ?_|refine kA ?_ _));exact BK310.out) hb);have n4_:=Ak (kB (g:=gb311) (o:=.cells #[.int .u64 t308,.int .u64 t309] 25 (0,0)) (by (with_reducible repeat (first|refine kN ?_ _|refine kD ?_|refine kA ?_ _));refine blk_far ?_ NB311_317.out _;(with_reducible repeat (first|refine kN ?_ _|refine kD ?_|refine kA ?_ _));refine blk_far ?_ NB311_317.out _;(with_reducible repeat (first|refine kN ?_ _|refine kD ?_|refine kA ?_ _));refine blk_far ?_ NB311_316.out _;(with_reducible repeat (first|refine kN ?_ _|refine kD ?_|refine kA ?_ _));refine blk_far ?_ NB311_316.out _;(with_reducible repeat (first|refine kN ?_ _|refine kD ?_|refine kA ?_ _));exact BK311.out) hb);have n5_:=Ak (kB (g:=gb316) (o:=.cells #[.int .u64 t312,.int .u64 t313] 25 (0,0)) (by (with_reducible repeat (first|refine kN ?_ _|refine kD ?_|refine kA ?_ _));refine blk_far ?_ NB316_317.out _;(with_reducible repeat (first|refine kN ?_ _|refine kD ?_|refine kA ?_ _));refine blk_far ?_ NB316_317.out _;(with_reducible repeat (first|refine kN ?_ _|refine kD ?_|refine kA ?_ _));refine blk_put (cs:=#[.int .u64 t312,.int .u64 0]) ?_ 1 _ rfl;(with_reducible repeat (first|refine kN ?_ _|refine kD ?_|refine kA ?_ _));refine blk_put (cs:=#[.int .u64 0,.int .u64 0]) ?_ 0 _ rfl;(with_reducible repeat (first|refine kN ?_ _|refine kD ?_|refine kA ?_ _));exact BK316.out) hb);have n6_:=Ak (kB (g:=gb317) (o:=.cells #[.int .u64 t314,.int .u64 t315] 25 (0,0)) (by (with_reducible repeat (first|refine kN ?_ _|refine kD ?_|refine kA ?_ _));refine blk_put (cs:=#[.int .u64 t314,.int .u64 0]) ?_ 1 _ rfl;(with_reducible repeat (first|refine kN ?_ _|refine kD ?_|refine kA ?_ _));refine blk_put (cs:=#[.int .u64 0,.int .u64 0]) ?_ 0 _ rfl;(with_reducible repeat (first|refine kN ?_ _|refine kD ?_|refine kA ?_ _));refine blk_far ?_ NB317_316.out _;(with_reducible repeat (first|refine kN ?_ _|refine kD ?_|refine kA ?_ _));refine blk_far ?_ NB317_316.out _;(with_reducible repeat (first|refine kN ?_ _|refine kD ?_|refine kA ?_ _));exact BK317.out) hb);have n7_:=Ak (below_step (by repeat (first|(with_reducible first|exact HB.out|apply bA|apply bN|apply bD|refine bS ?_ GE300.out|refine bS ?_ GE301.out|refine bS ?_ GE302.out|refine bS ?_ GE310.out|refine bS ?_ GE311.out|refine bS ?_ GE316.out|refine bS ?_ GE317.out)|exact HB.out)) hb);clear BK300 BK301 BK302 BK310 BK311 BK316 BK317 HB;have BK300:=n0_;have BK301:=n1_;have BK302:=n2_;have BK310:=n3_;have BK311:=n4_;have BK316:=n5_;have BK317:=n6_;have HB:=n7_;clear n0_ n1_ n2_ n3_ n4_ n5_ n6_ n7_;(try clear hb);(try clear hb2);(try clear hk);(try clear hi)))
    go_ret
    exact ⟨by first|rfl|(simp [errW_none,errW_some] <;> rfl)|(simp [*,errW_none,errW_some] <;> rfl),by repeat (first|(with_reducible first|exact HB.out|apply bA|apply bN|apply bD|refine bS ?_ GE300.out|refine bS ?_ GE301.out|refine bS ?_ GE302.out|refine bS ?_ GE310.out|refine bS ?_ GE311.out|refine bS ?_ GE316.out|refine bS ?_ GE317.out)|exact HB.out)⟩
end Go.Proofs.Ythlhmijgbjcloaa.A
end
section
namespace Go.Proofs.Ythlhmijgbjcloaa.A
open Go.RowKit Go.Proofs.YthlhmijgbjcloaaW.PrintWords Go.Proofs.YthlhmijgbjcloaaW.PrintLast Go.Proofs.YthlhmijgbjcloaaW.PrintMore
attribute [local go_sem] max2_int min2_int max_two min_two max_three min_three max_four min_four   -- for this text's walks alone
attribute [local go_sem high] eqA25
def gazetteerlaw09_KeyGrows.f (k : Nat) (a0_0 : Int) (a0_1 : Int) (a0_2 : Int) (a0_3 : Int) (a1_0 : Int) (a1_1 : Int) (a1_2 : Int) (a1_3 : Int) (a2_0 : Int) (a2_1 : Int) (a2_2 : Int) (a2_3 : Int) : Option (Bool) := (gazetteerlaw09_wakes.f k).bind fun t322 => (if t322 = true then ((key_Grows.f a0_0 a0_1 a0_2 a0_3 a2_0 a2_1 a2_2 a2_3).bind fun bt323 => ((gazetteerref09_Grows.f k a0_0 a0_1 a0_2 a0_3 a2_0 a2_1 a2_2 a2_3).bind fun bt329 => (if (bt323.1 == bt329.1 && (bt323.2.1 == bt329.2.1)) = true then (if (bt323.2.2.1 == bt329.2.2.1 && (bt323.2.2.2 == bt329.2.2.2)) = true then ((key_Less.f a0_0 a0_1 a0_2 a0_3 a1_0 a1_1 a1_2 a1_3 a2_0 a2_1 a2_2 a2_3).bind fun t335 => ((gazetteerref09_Less.f k a0_0 a0_1 a0_2 a0_3 a1_0 a1_1 a1_2 a1_3 a2_0 a2_1 a2_2 a2_3).bind fun t336 => (some (t335 == t336)))) else (some false)) else (some false)))) else (some false))
def gazetteerlaw09_KeyGrows.T5 : Bool × List (List Nat × List Nat) := (true, [([], []), ([], []), ([0, 1], [0, 1]), ([2], [2]), ([3], [3]), ([3], [3]), ([4, 5, 3], [3, 4, 5]), ([3, 6], [3, 6]), ([7, 3], [7]), ([8], [8]), ([8], [8]), ([8], [8]), ([9, 10, 11, 8, 8], [8, 9, 10, 11]), ([8], [8]), ([8], [8]), ([8], [8]), ([13, 14, 15, 12, 8], [8, 13, 14, 15]), ([12, 16, 8], [8, 12, 16]), ([8, 17], [8, 17]), ([18, 16, 0, 1, 2, 3, 4, 5, 6, 7, 8, 9, 10, 11, 12, 13, 14, 15, 16, 17, 18], [18])])
def gazetteerlaw09_KeyGrows.B5 : List Nat := [0, 0, 3, 7, 15, 15, 63, 127, 255, 511, 511, 511, 4095, 511, 511, 511, 65535, 131071, 262143, 524287]
theorem gazetteerlaw09_KeyGrows.tab5 : rtab .any (opsOf Try.f12 5) = gazetteerlaw09_KeyGrows.T5 := by kernel_rfl
theorem gazetteerlaw09_KeyGrows.bits5 : waitsOk gazetteerlaw09_KeyGrows.T5.2 gazetteerlaw09_KeyGrows.B5 = true := by kernel_rfl
set_option maxHeartbeats 8000000 in
set_option maxRecDepth 100000 in
theorem gazetteerlaw09_KeyGrows.calls (k : Nat) (a0_0 : Int) (a0_1 : Int) (a0_2 : Int) (a0_3 : Int) (a1_0 : Int) (a1_1 : Int) (a1_2 : Int) (a1_3 : Int) (a2_0 : Int) (a2_1 : Int) (a2_2 : Int) (a2_3 : Int) (r : Bool) (w : World) (h : gazetteerlaw09_KeyGrows.f k a0_0 a0_1 a0_2 a0_3 a1_0 a1_1 a1_2 a1_3 a2_0 a2_1 a2_2 a2_3 = some r) :
  Calls Try.prog 12 #[.agg #[.int .i64 a0_0,.int .i64 a0_1,.int .i64 a0_2,.int .i64 a0_3],.agg #[.int .i64 a1_0,.int .i64 a1_1,.int .i64 a1_2,.int .i64 a1_3],.agg #[.int .i64 a2_0,.int .i64 a2_1,.int .i64 a2_2,.int .i64 a2_3]] w fun e w' => e = .returned (.bool r)∧Below w.heap.size w w':=by
 have hu35:=Try.underlying35
 have hu25:=Try.underlying25
 have HB:=Ak (Below.refl w.heap.size w)
 have H : ((gazetteerlaw09_wakes.f k).bind fun t322 => (if t322 = true then ((key_Grows.f a0_0 a0_1 a0_2 a0_3 a2_0 a2_1 a2_2 a2_3).bind fun bt323 => ((gazetteerref09_Grows.f k a0_0 a0_1 a0_2 a0_3 a2_0 a2_1 a2_2 a2_3).bind fun bt329 => (if (bt323.1 == bt329.1 && (bt323.2.1 == bt329.2.1)) = true then (if (bt323.2.2.1 == bt329.2.2.1 && (bt323.2.2.2 == bt329.2.2.2)) = true then ((key_Less.f a0_0 a0_1 a0_2 a0_3 a1_0 a1_1 a1_2 a1_3 a2_0 a2_1 a2_2 a2_3).bind fun t335 => ((gazetteerref09_Less.f k a0_0 a0_1 a0_2 a0_3 a1_0 a1_1 a1_2 a1_3 a2_0 a2_1 a2_2 a2_3).bind fun t336 => (some (t335 == t336)))) else (some false)) else (some false)))) else (some false))) = some r:=h
 clear h
 replace H:=Option.bind_eq_some_iff.mp H
 obtain ⟨t322,A40,H⟩:=H
 replace H : (if t322 = true then ((key_Grows.f a0_0 a0_1 a0_2 a0_3 a2_0 a2_1 a2_2 a2_3).bind fun bt323 => ((gazetteerref09_Grows.f k a0_0 a0_1 a0_2 a0_3 a2_0 a2_1 a2_2 a2_3).bind fun bt329 => (if (bt323.1 == bt329.1 && (bt323.2.1 == bt329.2.1)) = true then (if (bt323.2.2.1 == bt329.2.2.1 && (bt323.2.2.2 == bt329.2.2.2)) = true then ((key_Less.f a0_0 a0_1 a0_2 a0_3 a1_0 a1_1 a1_2 a1_3 a2_0 a2_1 a2_2 a2_3).bind fun t335 => ((gazetteerref09_Less.f k a0_0 a0_1 a0_2 a0_3 a1_0 a1_1 a1_2 a1_3 a2_0 a2_1 a2_2 a2_3).bind fun t336 => (some (t335 == t336)))) else (some false)) else (some false)))) else (some false)) = some r:=H
 have A4:=Ak A40
 clear A40
 by_cases c5 : t322 = true
 ·subst c5
  have H1 : ((key_Grows.f a0_0 a0_1 a0_2 a0_3 a2_0 a2_1 a2_2 a2_3).bind fun bt323 => ((gazetteerref09_Grows.f k a0_0 a0_1 a0_2 a0_3 a2_0 a2_1 a2_2 a2_3).bind fun bt329 => (if (bt323.1 == bt329.1 && (bt323.2.1 == bt329.2.1)) = true then (if (bt323.2.2.1 == bt329.2.2.1 && (bt323.2.2.2 == bt329.2.2.2)) = true then ((key_Less.f a0_0 a0_1 a0_2 a0_3 a1_0 a1_1 a1_2 a1_3 a2_0 a2_1 a2_2 a2_3).bind fun t335 => ((gazetteerref09_Less.f k a0_0 a0_1 a0_2 a0_3 a1_0 a1_1 a1_2 a1_3 a2_0 a2_1 a2_2 a2_3).bind fun t336 => (some (t335 == t336)))) else (some false)) else (some false)))) = some r:=by rw [if_pos rfl] at H;exact H
  clear H
  have H:=H1
  clear H1
  replace H:=Option.bind_eq_some_iff.mp H
  obtain ⟨⟨t323,t324,t325,t326⟩,A60,H⟩:=H
  replace H : ((gazetteerref09_Grows.f k a0_0 a0_1 a0_2 a0_3 a2_0 a2_1 a2_2 a2_3).bind fun bt329 => (if (t323 == bt329.1 && (t324 == bt329.2.1)) = true then (if (t325 == bt329.2.2.1 && (t326 == bt329.2.2.2)) = true then ((key_Less.f a0_0 a0_1 a0_2 a0_3 a1_0 a1_1 a1_2 a1_3 a2_0 a2_1 a2_2 a2_3).bind fun t335 => ((gazetteerref09_Less.f k a0_0 a0_1 a0_2 a0_3 a1_0 a1_1 a1_2 a1_3 a2_0 a2_1 a2_2 a2_3).bind fun t336 => (some (t335 == t336)))) else (some false)) else (some false))) = some r:=H
  have A6:=Ak A60
  clear A60
  replace H:=Option.bind_eq_some_iff.mp H
  obtain ⟨⟨t329,t330,t331,t332⟩,A70,H⟩:=H
  replace H : (if (t323 == t329 && (t324 == t330)) = true then (if (t325 == t331 && (t326 == t332)) = true then ((key_Less.f a0_0 a0_1 a0_2 a0_3 a1_0 a1_1 a1_2 a1_3 a2_0 a2_1 a2_2 a2_3).bind fun t335 => ((gazetteerref09_Less.f k a0_0 a0_1 a0_2 a0_3 a1_0 a1_1 a1_2 a1_3 a2_0 a2_1 a2_2 a2_3).bind fun t336 => (some (t335 == t336)))) else (some false)) else (some false)) = some r:=H
  have A7:=Ak A70
  clear A70
  by_cases c8 : (t323 == t329 && (t324 == t330)) = true
  ·rw [if_pos c8] at H
   have c8b0 : (t323 == t329 && (t324 == t330)) = true:=c8
   (try (have c8b1 : decide (t323 = t329 && (t324 == t330)) = true:=by simpa using c8))
   (try (have c8b2 : (t323 == t329 && (t324 == t330)) = true:=by simpa using c8))
   clear c8
   by_cases c9 : (t325 == t331 && (t326 == t332)) = true
   ·rw [if_pos c9] at H
    have c9b0 : (t325 == t331 && (t326 == t332)) = true:=c9
    (try (have c9b1 : decide (t325 = t331 && (t326 == t332)) = true:=by simpa using c9))
    (try (have c9b2 : (t325 == t331 && (t326 == t332)) = true:=by simpa using c9))
    clear c9
    replace H:=Option.bind_eq_some_iff.mp H
    obtain ⟨t335,A100,H⟩:=H
    replace H : ((gazetteerref09_Less.f k a0_0 a0_1 a0_2 a0_3 a1_0 a1_1 a1_2 a1_3 a2_0 a2_1 a2_2 a2_3).bind fun t336 => (some (t335 == t336))) = some r:=H
    have A10:=Ak A100
    clear A100
    replace H:=Option.bind_eq_some_iff.mp H
    obtain ⟨t336,A110,H⟩:=H
    replace H : (some (t335 == t336)) = some r:=H
    have A11:=Ak A110
    clear A110
    obtain rfl:=Option.some.inj H
    go_enter Try.func12,Try.ntmps12
    try go_wp2_with (first|((with_reducible refine gate_dst (N:=3) rfl ?_);refine box_event ?hg (N:=3) ?hd (cs:=#[.int .i64 a0_0,.int .i64 a0_1,.int .i64 a0_2,.int .i64 a0_3]) (t:=35) ?hr ?_;(case hd => rfl);(case hg => rfl);(case hr => first|(go_simp;done)|(go_simp;rfl));intro gb319 hg w12 hbox hb;have n0_:=Ak (below_step (by repeat (first|(with_reducible first|exact HB.out|apply bA|apply bN|apply bD)|exact HB.out)) hb);have n1_:=Ak (hbox);have n2_:=Kz hg HB;have n3_:=Kz hg HB;clear HB;have HB:=n0_;have BK319:=n1_;have GW319:=n2_;have GE319:=n3_;clear n0_ n1_ n2_ n3_;clear hb hbox hg)|((with_reducible refine gate_dst (N:=4) rfl ?_);refine box_event ?hg (N:=4) ?hd (cs:=#[.int .i64 a1_0,.int .i64 a1_1,.int .i64 a1_2,.int .i64 a1_3]) (t:=35) ?hr ?_;(case hd => rfl);(case hg => rfl);(case hr => first|(go_simp;done)|(go_simp;rfl));intro gb320 hg w13 hbox hb;have n0_:=Kb BK319 hb;have n1_:=Ak (below_step (by repeat (first|(with_reducible first|exact HB.out|apply bA|apply bN|apply bD|refine bS ?_ GE319.out)|exact HB.out)) hb);have n2_:=Ak (hbox);have n3_:=Kz hg HB;have n4_:=Kz hg HB;have n5_:=Kl hg BK319;have n6_:=Km hg BK319;clear BK319 HB;have BK319:=n0_;have HB:=n1_;have BK320:=n2_;have GW320:=n3_;have GE320:=n4_;have NB319_320:=n5_;have NB320_319:=n6_;clear n0_ n1_ n2_ n3_ n4_ n5_ n6_;clear hb hbox hg)|((with_reducible refine gate_dst (N:=5) rfl ?_);refine box_event ?hg (N:=5) ?hd (cs:=#[.int .i64 a2_0,.int .i64 a2_1,.int .i64 a2_2,.int .i64 a2_3]) (t:=35) ?hr ?_;(case hd => rfl);(case hg => rfl);(case hr => first|(go_simp;done)|(go_simp;rfl));intro gb321 hg w14 hbox hb;have n0_:=Kb BK319 hb;have n1_:=Kb BK320 hb;have n2_:=Ak (below_step (by repeat (first|(with_reducible first|exact HB.out|apply bA|apply bN|apply bD|refine bS ?_ GE319.out|refine bS ?_ GE320.out)|exact HB.out)) hb);have n3_:=Ak (hbox);have n4_:=Kz hg HB;have n5_:=Kz hg HB;have n6_:=Kl hg BK319;have n7_:=Km hg BK319;have n8_:=Kl hg BK320;have n9_:=Km hg BK320;clear BK319 BK320 HB;have BK319:=n0_;have BK320:=n1_;have HB:=n2_;have BK321:=n3_;have GW321:=n4_;have GE321:=n5_;have NB319_321:=n6_;have NB321_319:=n7_;have NB320_321:=n8_;have NB321_320:=n9_;clear n0_ n1_ n2_ n3_ n4_ n5_ n6_ n7_ n8_ n9_;clear hb hbox hg)|((with_reducible refine gate_callee (f:=32) rfl ?_);refine goesL_ (some 11) rfl rfl Try.func32 (by kernel_rfl) rfl #[] rfl (by (try simp only [List.map_toArray,List.map_cons,List.map_nil]);first|done|rfl|(simp only [List.length_drop,List.length_take];rfl)) ?_;(with_reducible refine (gazetteerlaw09_wakes.calls k  true _ A4.out).mono ?_);rintro e w15 ⟨rfl,hb⟩;refine ⟨_,rfl,?_⟩;have n0_:=Kb BK319 hb;have n1_:=Kb BK320 hb;have n2_:=Kb BK321 hb;have n3_:=Ak (below_step (by repeat (first|(with_reducible first|exact HB.out|apply bA|apply bN|apply bD|refine bS ?_ GE319.out|refine bS ?_ GE320.out|refine bS ?_ GE321.out)|exact HB.out)) hb);clear BK319 BK320 BK321 HB;have BK319:=n0_;have BK320:=n1_;have BK321:=n2_;have HB:=n3_;clear n0_ n1_ n2_ n3_;(try clear hb);(try clear hb2);(try clear hk);(try clear hi);have hnb16:=NB319_320.out;have hnc16:=NB320_319.out;have hnb17:=NB319_321.out;have hnc17:=NB321_319.out;have hcz18_0 : w15.cell? ⟨gb319,0,none⟩ = some (.int .i64 a0_0):=(kC BK319.out 0).trans rfl;have hcz18_1 : w15.cell? ⟨gb319,1,none⟩ = some (.int .i64 a0_1):=(kC BK319.out 1).trans rfl;have hcz18_2 : w15.cell? ⟨gb319,2,none⟩ = some (.int .i64 a0_2):=(kC BK319.out 2).trans rfl;have hcz18_3 : w15.cell? ⟨gb319,3,none⟩ = some (.int .i64 a0_3):=(kC BK319.out 3).trans rfl;have hfz18_0:=blk_frozen BK319.out 0;have hfz18_1:=blk_frozen BK319.out 1;have hfz18_2:=blk_frozen BK319.out 2;have hfz18_3:=blk_frozen BK319.out 3;have hnb19:=NB321_320.out;have hnc19:=NB320_321.out;have hcz20_0 : w15.cell? ⟨gb321,0,none⟩ = some (.int .i64 a2_0):=(kC BK321.out 0).trans rfl;have hcz20_1 : w15.cell? ⟨gb321,1,none⟩ = some (.int .i64 a2_1):=(kC BK321.out 1).trans rfl;have hcz20_2 : w15.cell? ⟨gb321,2,none⟩ = some (.int .i64 a2_2):=(kC BK321.out 2).trans rfl;have hcz20_3 : w15.cell? ⟨gb321,3,none⟩ = some (.int .i64 a2_3):=(kC BK321.out 3).trans rfl;have hfz20_0:=blk_frozen BK321.out 0;have hfz20_1:=blk_frozen BK321.out 1;have hfz20_2:=blk_frozen BK321.out 2;have hfz20_3:=blk_frozen BK321.out 3)|((with_reducible refine gate_callee (f:=36) rfl ?_);refine goesL_ (some 16) rfl rfl Try.func36 (by kernel_rfl) rfl #[.agg #[.int .i64 a0_0,.int .i64 a0_1,.int .i64 a0_2,.int .i64 a0_3],.agg #[.int .i64 a2_0,.int .i64 a2_1,.int .i64 a2_2,.int .i64 a2_3]] rfl (by (try simp only [List.map_toArray,List.map_cons,List.map_nil]);first|done|rfl|(simp only [List.length_drop,List.length_take];rfl)) ?_;(with_reducible refine (key_Grows.calls a0_0 a0_1 a0_2 a0_3 a2_0 a2_1 a2_2 a2_3 t323 t324 t325 t326 _ A6.out).mono ?_);rintro e w21 ⟨rfl,hb⟩;refine ⟨_,rfl,?_⟩;have n0_:=Kb BK319 hb;have n1_:=Kb BK320 hb;have n2_:=Kb BK321 hb;have n3_:=Ak (below_step (by repeat (first|(with_reducible first|exact HB.out|apply bA|apply bN|apply bD|refine bS ?_ GE319.out|refine bS ?_ GE320.out|refine bS ?_ GE321.out)|exact HB.out)) hb);clear BK319 BK320 BK321 HB;have BK319:=n0_;have BK320:=n1_;have BK321:=n2_;have HB:=n3_;clear n0_ n1_ n2_ n3_;(try clear hb);(try clear hb2);(try clear hk);(try clear hi))|((with_reducible refine gate_dst (N:=7) rfl ?_);refine box_event ?hg (N:=7) ?hd (cs:=#[.int .u64 0,.int .u64 0]) (t:=25) ?hr ?_;(case hd => rfl);(case hg => rfl);(case hr => first|(go_simp;done)|(go_simp;rfl));intro gb327 hg w22 hbox hb;have n0_:=Kb BK319 hb;have n1_:=Kb BK320 hb;have n2_:=Kb BK321 hb;have n3_:=Ak (below_step (by repeat (first|(with_reducible first|exact HB.out|apply bA|apply bN|apply bD|refine bS ?_ GE319.out|refine bS ?_ GE320.out|refine bS ?_ GE321.out)|exact HB.out)) hb);have n4_:=Ak (hbox);have n5_:=Kz hg HB;have n6_:=Kz hg HB;have n7_:=Kl hg BK319;have n8_:=Km hg BK319;have n9_:=Kl hg BK320;have n10_:=Km hg BK320;have n11_:=Kl hg BK321;have n12_:=Km hg BK321;clear BK319 BK320 BK321 HB;have BK319:=n0_;have BK320:=n1_;have BK321:=n2_;have HB:=n3_;have BK327:=n4_;have GW327:=n5_;have GE327:=n6_;have NB319_327:=n7_;have NB327_319:=n8_;have NB320_327:=n9_;have NB327_320:=n10_;have NB321_327:=n11_;have NB327_321:=n12_;clear n0_ n1_ n2_ n3_ n4_ n5_ n6_ n7_ n8_ n9_ n10_ n11_ n12_;clear hb hbox hg)|((with_reducible refine gate_dst (N:=8) rfl ?_);refine box_event ?hg (N:=8) ?hd (cs:=#[.int .u64 0,.int .u64 0]) (t:=25) ?hr ?_;(case hd => rfl);(case hg => rfl);(case hr => first|(go_simp;done)|(go_simp;rfl));intro gb328 hg w23 hbox hb;have n0_:=Kb BK319 hb;have n1_:=Kb BK320 hb;have n2_:=Kb BK321 hb;have n3_:=Kb BK327 hb;have n4_:=Ak (below_step (by repeat (first|(with_reducible first|exact HB.out|apply bA|apply bN|apply bD|refine bS ?_ GE319.out|refine bS ?_ GE320.out|refine bS ?_ GE321.out|refine bS ?_ GE327.out)|exact HB.out)) hb);have n5_:=Ak (hbox);have n6_:=Kz hg HB;have n7_:=Kz hg HB;have n8_:=Kl hg BK319;have n9_:=Km hg BK319;have n10_:=Kl hg BK320;have n11_:=Km hg BK320;have n12_:=Kl hg BK321;have n13_:=Km hg BK321;have n14_:=Kl hg BK327;have n15_:=Km hg BK327;clear BK319 BK320 BK321 BK327 HB;have BK319:=n0_;have BK320:=n1_;have BK321:=n2_;have BK327:=n3_;have HB:=n4_;have BK328:=n5_;have GW328:=n6_;have GE328:=n7_;have NB319_328:=n8_;have NB328_319:=n9_;have NB320_328:=n10_;have NB328_320:=n11_;have NB321_328:=n12_;have NB328_321:=n13_;have NB327_328:=n14_;have NB328_327:=n15_;clear n0_ n1_ n2_ n3_ n4_ n5_ n6_ n7_ n8_ n9_ n10_ n11_ n12_ n13_ n14_ n15_;clear hb hbox hg;have hnb24:=NB327_319.out;have hnc24:=NB319_327.out;have hnb25:=NB327_320.out;have hnc25:=NB320_327.out;have hnb26:=NB327_321.out;have hnc26:=NB321_327.out;have hnb27:=NB327_328.out;have hnc27:=NB328_327.out;have hcz28_0 : w23.cell? ⟨gb327,0,none⟩ = some (.int .u64 0):=(kC BK327.out 0).trans rfl;have hcz28_1 : w23.cell? ⟨gb327,1,none⟩ = some (.int .u64 0):=(kC BK327.out 1).trans rfl;have hfz28_0:=blk_frozen BK327.out 0;have hfz28_1:=blk_frozen BK327.out 1;have hnb29:=NB328_319.out;have hnc29:=NB319_328.out;have hnb30:=NB328_320.out;have hnc30:=NB320_328.out;have hnb31:=NB328_321.out;have hnc31:=NB321_328.out;have hcz32_0 : w23.cell? ⟨gb328,0,none⟩ = some (.int .u64 0):=(kC BK328.out 0).trans rfl;have hcz32_1 : w23.cell? ⟨gb328,1,none⟩ = some (.int .u64 0):=(kC BK328.out 1).trans rfl;have hfz32_0:=blk_frozen BK328.out 0;have hfz32_1:=blk_frozen BK328.out 1;have hcz33_0 : w23.cell? ⟨gb319,0,none⟩ = some (.int .i64 a0_0):=(kC BK319.out 0).trans rfl;have hcz33_1 : w23.cell? ⟨gb319,1,none⟩ = some (.int .i64 a0_1):=(kC BK319.out 1).trans rfl;have hcz33_2 : w23.cell? ⟨gb319,2,none⟩ = some (.int .i64 a0_2):=(kC BK319.out 2).trans rfl;have hcz33_3 : w23.cell? ⟨gb319,3,none⟩ = some (.int .i64 a0_3):=(kC BK319.out 3).trans rfl;have hfz33_0:=blk_frozen BK319.out 0;have hfz33_1:=blk_frozen BK319.out 1;have hfz33_2:=blk_frozen BK319.out 2;have hfz33_3:=blk_frozen BK319.out 3;have hcz34_0 : w23.cell? ⟨gb321,0,none⟩ = some (.int .i64 a2_0):=(kC BK321.out 0).trans rfl;have hcz34_1 : w23.cell? ⟨gb321,1,none⟩ = some (.int .i64 a2_1):=(kC BK321.out 1).trans rfl;have hcz34_2 : w23.cell? ⟨gb321,2,none⟩ = some (.int .i64 a2_2):=(kC BK321.out 2).trans rfl;have hcz34_3 : w23.cell? ⟨gb321,3,none⟩ = some (.int .i64 a2_3):=(kC BK321.out 3).trans rfl;have hfz34_0:=blk_frozen BK321.out 0;have hfz34_1:=blk_frozen BK321.out 1;have hfz34_2:=blk_frozen BK321.out 2;have hfz34_3:=blk_frozen BK321.out 3)|((with_reducible refine gate_callee (f:=37) rfl ?_);refine goesL_ (some 22) rfl rfl Try.func37 (by kernel_rfl) rfl #[.agg #[.int .i64 a0_0,.int .i64 a0_1,.int .i64 a0_2,.int .i64 a0_3],.agg #[.int .i64 a2_0,.int .i64 a2_1,.int .i64 a2_2,.int .i64 a2_3]] rfl (by (try simp only [List.map_toArray,List.map_cons,List.map_nil]);first|done|rfl|(simp only [List.length_drop,List.length_take];rfl)) ?_;(with_reducible refine (gazetteerref09_Grows.calls k a0_0 a0_1 a0_2 a0_3 a2_0 a2_1 a2_2 a2_3 t329 t330 t331 t332 _ A7.out).mono ?_);rintro e w35 ⟨rfl,hb⟩;refine ⟨_,rfl,?_⟩;have n0_:=Ak (kB (g:=gb319) (o:=.cells #[.int .i64 a0_0,.int .i64 a0_1,.int .i64 a0_2,.int .i64 a0_3] 35 (0,0)) (by (with_reducible repeat (first|refine kN ?_ _|refine kD ?_|refine kA ?_ _));refine blk_far ?_ NB319_328.out _;(with_reducible repeat (first|refine kN ?_ _|refine kD ?_|refine kA ?_ _));refine blk_far ?_ NB319_328.out _;(with_reducible repeat (first|refine kN ?_ _|refine kD ?_|refine kA ?_ _));refine blk_far ?_ NB319_327.out _;(with_reducible repeat (first|refine kN ?_ _|refine kD ?_|refine kA ?_ _));refine blk_far ?_ NB319_327.out _;(with_reducible repeat (first|refine kN ?_ _|refine kD ?_|refine kA ?_ _));exact BK319.out) hb);have n1_:=Ak (kB (g:=gb320) (o:=.cells #[.int .i64 a1_0,.int .i64 a1_1,.int .i64 a1_2,.int .i64 a1_3] 35 (0,0)) (by (with_reducible repeat (first|refine kN ?_ _|refine kD ?_|refine kA ?_ _));refine blk_far ?_ NB320_328.out _;(with_reducible repeat (first|refine kN ?_ _|refine kD ?_|refine kA ?_ _));refine blk_far ?_ NB320_328.out _;(with_reducible repeat (first|refine kN ?_ _|refine kD ?_|refine kA ?_ _));refine blk_far ?_ NB320_327.out _;(with_reducible repeat (first|refine kN ?_ _|refine kD ?_|refine kA ?_ _));refine blk_far ?_ NB320_327.out _;(with_reducible repeat (first|refine kN ?_ _|refine kD ?_|refine kA ?_ _));exact BK320.out) hb);have n2_:=Ak (kB (g:=gb321) (o:=.cells #[.int .i64 a2_0,.int .i64 a2_1,.int .i64 a2_2,.int .i64 a2_3] 35 (0,0)) (by (with_reducible repeat (first|refine kN ?_ _|refine kD ?_|refine kA ?_ _));refine blk_far ?_ NB321_328.out _;(with_reducible repeat (first|refine kN ?_ _|refine kD ?_|refine kA ?_ _));refine blk_far ?_ NB321_328.out _;(with_reducible repeat (first|refine kN ?_ _|refine kD ?_|refine kA ?_ _));refine blk_far ?_ NB321_327.out _;(with_reducible repeat (first|refine kN ?_ _|refine kD ?_|refine kA ?_ _));refine blk_far ?_ NB321_327.out _;(with_reducible repeat (first|refine kN ?_ _|refine kD ?_|refine kA ?_ _));exact BK321.out) hb);have n3_:=Ak (kB (g:=gb327) (o:=.cells #[.int .u64 t323,.int .u64 t324] 25 (0,0)) (by (with_reducible repeat (first|refine kN ?_ _|refine kD ?_|refine kA ?_ _));refine blk_far ?_ NB327_328.out _;(with_reducible repeat (first|refine kN ?_ _|refine kD ?_|refine kA ?_ _));refine blk_far ?_ NB327_328.out _;(with_reducible repeat (first|refine kN ?_ _|refine kD ?_|refine kA ?_ _));refine blk_put (cs:=#[.int .u64 t323,.int .u64 0]) ?_ 1 _ rfl;(with_reducible repeat (first|refine kN ?_ _|refine kD ?_|refine kA ?_ _));refine blk_put (cs:=#[.int .u64 0,.int .u64 0]) ?_ 0 _ rfl;(with_reducible repeat (first|refine kN ?_ _|refine kD ?_|refine kA ?_ _));exact BK327.out) hb);have n4_:=Ak (kB (g:=gb328) (o:=.cells #[.int .u64 t325,.int .u64 t326] 25 (0,0)) (by (with_reducible repeat (first|refine kN ?_ _|refine kD ?_|refine kA ?_ _));refine blk_put (cs:=#[.int .u64 t325,.int .u64 0]) ?_ 1 _ rfl;(with_reducible repeat (first|refine kN ?_ _|refine kD ?_|refine kA ?_ _));refine blk_put (cs:=#[.int .u64 0,.int .u64 0]) ?_ 0 _ rfl;(with_reducible repeat (first|refine kN ?_ _|refine kD ?_|refine kA ?_ _));refine blk_far ?_ NB328_327.out _;(with_reducible repeat (first|refine kN ?_ _|refine kD ?_|refine kA ?_ _));refine blk_far ?_ NB328_327.out _;(with_reducible repeat (first|refine kN ?_ _|refine kD ?_|refine kA ?_ _));exact BK328.out) hb);have n5_:=Ak (below_step (by repeat (first|(with_reducible first|exact HB.out|apply bA|apply bN|apply bD|refine bS ?_ GE319.out|refine bS ?_ GE320.out|refine bS ?_ GE321.out|refine bS ?_ GE327.out|refine bS ?_ GE328.out)|exact HB.out)) hb);clear BK319 BK320 BK321 BK327 BK328 HB;have BK319:=n0_;have BK320:=n1_;have BK321:=n2_;have BK327:=n3_;have BK328:=n4_;have HB:=n5_;clear n0_ n1_ n2_ n3_ n4_ n5_;(try clear hb);(try clear hb2);(try clear hk);(try clear hi))|((with_reducible refine gate_dst (N:=9) rfl ?_);refine box_event ?hg (N:=9) ?hd (cs:=#[.int .u64 0,.int .u64 0]) (t:=25) ?hr ?_;(case hd => rfl);(case hg => rfl);(case hr => first|(go_simp;done)|(go_simp;rfl));intro gb333 hg w36 hbox hb;have n0_:=Kb BK319 hb;have n1_:=Kb BK320 hb;have n2_:=Kb BK321 hb;have n3_:=Kb BK327 hb;have n4_:=Kb BK328 hb;have n5_:=Ak (below_step (by repeat (first|(with_reducible first|exact HB.out|apply bA|apply bN|apply bD|refine bS ?_ GE319.out|refine bS ?_ GE320.out|refine bS ?_ GE321.out|refine bS ?_ GE327.out|refine bS ?_ GE328.out)|exact HB.out)) hb);have n6_:=Ak (hbox);have n7_:=Kz hg HB;have n8_:=Kz hg HB;have n9_:=Kl hg BK319;have n10_:=Km hg BK319;have n11_:=Kl hg BK320;have n12_:=Km hg BK320;have n13_:=Kl hg BK321;have n14_:=Km hg BK321;have n15_:=Kl hg BK327;have n16_:=Km hg BK327;have n17_:=Kl hg BK328;have n18_:=Km hg BK328;clear BK319 BK320 BK321 BK327 BK328 HB;have BK319:=n0_;have BK320:=n1_;have BK321:=n2_;have BK327:=n3_;have BK328:=n4_;have HB:=n5_;have BK333:=n6_;have GW333:=n7_;have GE333:=n8_;have NB319_333:=n9_;have NB333_319:=n10_;have NB320_333:=n11_;have NB333_320:=n12_;have NB321_333:=n13_;have NB333_321:=n14_;have NB327_333:=n15_;have NB333_327:=n16_;have NB328_333:=n17_;have NB333_328:=n18_;clear n0_ n1_ n2_ n3_ n4_ n5_ n6_ n7_ n8_ n9_ n10_ n11_ n12_ n13_ n14_ n15_ n16_ n17_ n18_;clear hb hbox hg)|((with_reducible refine gate_dst (N:=10) rfl ?_);refine box_event ?hg (N:=10) ?hd (cs:=#[.int .u64 0,.int .u64 0]) (t:=25) ?hr ?_;(case hd => rfl);(case hg => rfl);(case hr => first|(go_simp;done)|(go_simp;rfl));intro gb334 hg w37 hbox hb;have n0_:=Kb BK319 hb;have n1_:=Kb BK320 hb;have n2_:=Kb BK321 hb;have n3_:=Kb BK327 hb;have n4_:=Kb BK328 hb;have n5_:=Kb BK333 hb;have n6_:=Ak (below_step (by repeat (first|(with_reducible first|exact HB.out|apply bA|apply bN|apply bD|refine bS ?_ GE319.out|refine bS ?_ GE320.out|refine bS ?_ GE321.out|refine bS ?_ GE327.out|refine bS ?_ GE328.out|refine bS ?_ GE333.out)|exact HB.out)) hb);have n7_:=Ak (hbox);have n8_:=Kz hg HB;have n9_:=Kz hg HB;have n10_:=Kl hg BK319;have n11_:=Km hg BK319;have n12_:=Kl hg BK320;have n13_:=Km hg BK320;have n14_:=Kl hg BK321;have n15_:=Km hg BK321;have n16_:=Kl hg BK327;have n17_:=Km hg BK327;have n18_:=Kl hg BK328;have n19_:=Km hg BK328;have n20_:=Kl hg BK333;have n21_:=Km hg BK333;clear BK319 BK320 BK321 BK327 BK328 BK333 HB;have BK319:=n0_;have BK320:=n1_;have BK321:=n2_;have BK327:=n3_;have BK328:=n4_;have BK333:=n5_;have HB:=n6_;have BK334:=n7_;have GW334:=n8_;have GE334:=n9_;have NB319_334:=n10_;have NB334_319:=n11_;have NB320_334:=n12_;have NB334_320:=n13_;have NB321_334:=n14_;have NB334_321:=n15_;have NB327_334:=n16_;have NB334_327:=n17_;have NB328_334:=n18_;have NB334_328:=n19_;have NB333_334:=n20_;have NB334_333:=n21_;clear n0_ n1_ n2_ n3_ n4_ n5_ n6_ n7_ n8_ n9_ n10_ n11_ n12_ n13_ n14_ n15_ n16_ n17_ n18_ n19_ n20_ n21_;clear hb hbox hg;have hnb38:=NB333_319.out;have hnc38:=NB319_333.out;have hnb39:=NB333_320.out;have hnc39:=NB320_333.out;have hnb40:=NB333_321.out;have hnc40:=NB321_333.out;have hnb41:=NB333_327.out;have hnc41:=NB327_333.out;have hnb42:=NB333_328.out;have hnc42:=NB328_333.out;have hnb43:=NB333_334.out;have hnc43:=NB334_333.out;have hcz44_0 : w37.cell? ⟨gb333,0,none⟩ = some (.int .u64 0):=(kC BK333.out 0).trans rfl;have hcz44_1 : w37.cell? ⟨gb333,1,none⟩ = some (.int .u64 0):=(kC BK333.out 1).trans rfl;have hfz44_0:=blk_frozen BK333.out 0;have hfz44_1:=blk_frozen BK333.out 1;have hnb45:=NB334_319.out;have hnc45:=NB319_334.out;have hnb46:=NB334_320.out;have hnc46:=NB320_334.out;have hnb47:=NB334_321.out;have hnc47:=NB321_334.out;have hnb48:=NB334_327.out;have hnc48:=NB327_334.out;have hnb49:=NB334_328.out;have hnc49:=NB328_334.out;have hcz50_0 : w37.cell? ⟨gb334,0,none⟩ = some (.int .u64 0):=(kC BK334.out 0).trans rfl;have hcz50_1 : w37.cell? ⟨gb334,1,none⟩ = some (.int .u64 0):=(kC BK334.out 1).trans rfl;have hfz50_0:=blk_frozen BK334.out 0;have hfz50_1:=blk_frozen BK334.out 1))
    have n0_ : Aside0 (((((w37.setCell ⟨gb333,0,none⟩ (.int .u64 t329)).setCell ⟨gb333,1,none⟩ (.int .u64 t330)).setCell ⟨gb334,0,none⟩ (.int .u64 t331)).setCell ⟨gb334,1,none⟩ (.int .u64 t332)).heap[gb319]? = some (.cells #[.int .i64 a0_0,.int .i64 a0_1,.int .i64 a0_2,.int .i64 a0_3] 35 (0,0))):=⟨by (with_reducible repeat (first|refine kN ?_ _|refine kD ?_|refine kA ?_ _));refine blk_far ?_ NB319_334.out _;(with_reducible repeat (first|refine kN ?_ _|refine kD ?_|refine kA ?_ _));refine blk_far ?_ NB319_334.out _;(with_reducible repeat (first|refine kN ?_ _|refine kD ?_|refine kA ?_ _));refine blk_far ?_ NB319_333.out _;(with_reducible repeat (first|refine kN ?_ _|refine kD ?_|refine kA ?_ _));refine blk_far ?_ NB319_333.out _;(with_reducible repeat (first|refine kN ?_ _|refine kD ?_|refine kA ?_ _));exact BK319.out⟩
    have n1_ : Aside0 (((((w37.setCell ⟨gb333,0,none⟩ (.int .u64 t329)).setCell ⟨gb333,1,none⟩ (.int .u64 t330)).setCell ⟨gb334,0,none⟩ (.int .u64 t331)).setCell ⟨gb334,1,none⟩ (.int .u64 t332)).heap[gb320]? = some (.cells #[.int .i64 a1_0,.int .i64 a1_1,.int .i64 a1_2,.int .i64 a1_3] 35 (0,0))):=⟨by (with_reducible repeat (first|refine kN ?_ _|refine kD ?_|refine kA ?_ _));refine blk_far ?_ NB320_334.out _;(with_reducible repeat (first|refine kN ?_ _|refine kD ?_|refine kA ?_ _));refine blk_far ?_ NB320_334.out _;(with_reducible repeat (first|refine kN ?_ _|refine kD ?_|refine kA ?_ _));refine blk_far ?_ NB320_333.out _;(with_reducible repeat (first|refine kN ?_ _|refine kD ?_|refine kA ?_ _));refine blk_far ?_ NB320_333.out _;(with_reducible repeat (first|refine kN ?_ _|refine kD ?_|refine kA ?_ _));exact BK320.out⟩
    have n2_ : Aside0 (((((w37.setCell ⟨gb333,0,none⟩ (.int .u64 t329)).setCell ⟨gb333,1,none⟩ (.int .u64 t330)).setCell ⟨gb334,0,none⟩ (.int .u64 t331)).setCell ⟨gb334,1,none⟩ (.int .u64 t332)).heap[gb321]? = some (.cells #[.int .i64 a2_0,.int .i64 a2_1,.int .i64 a2_2,.int .i64 a2_3] 35 (0,0))):=⟨by (with_reducible repeat (first|refine kN ?_ _|refine kD ?_|refine kA ?_ _));refine blk_far ?_ NB321_334.out _;(with_reducible repeat (first|refine kN ?_ _|refine kD ?_|refine kA ?_ _));refine blk_far ?_ NB321_334.out _;(with_reducible repeat (first|refine kN ?_ _|refine kD ?_|refine kA ?_ _));refine blk_far ?_ NB321_333.out _;(with_reducible repeat (first|refine kN ?_ _|refine kD ?_|refine kA ?_ _));refine blk_far ?_ NB321_333.out _;(with_reducible repeat (first|refine kN ?_ _|refine kD ?_|refine kA ?_ _));exact BK321.out⟩
    have n3_ : Aside0 (((((w37.setCell ⟨gb333,0,none⟩ (.int .u64 t329)).setCell ⟨gb333,1,none⟩ (.int .u64 t330)).setCell ⟨gb334,0,none⟩ (.int .u64 t331)).setCell ⟨gb334,1,none⟩ (.int .u64 t332)).heap[gb327]? = some (.cells #[.int .u64 t323,.int .u64 t324] 25 (0,0))):=⟨by (with_reducible repeat (first|refine kN ?_ _|refine kD ?_|refine kA ?_ _));refine blk_far ?_ NB327_334.out _;(with_reducible repeat (first|refine kN ?_ _|refine kD ?_|refine kA ?_ _));refine blk_far ?_ NB327_334.out _;(with_reducible repeat (first|refine kN ?_ _|refine kD ?_|refine kA ?_ _));refine blk_far ?_ NB327_333.out _;(with_reducible repeat (first|refine kN ?_ _|refine kD ?_|refine kA ?_ _));refine blk_far ?_ NB327_333.out _;(with_reducible repeat (first|refine kN ?_ _|refine kD ?_|refine kA ?_ _));exact BK327.out⟩
    have n4_ : Aside0 (((((w37.setCell ⟨gb333,0,none⟩ (.int .u64 t329)).setCell ⟨gb333,1,none⟩ (.int .u64 t330)).setCell ⟨gb334,0,none⟩ (.int .u64 t331)).setCell ⟨gb334,1,none⟩ (.int .u64 t332)).heap[gb328]? = some (.cells #[.int .u64 t325,.int .u64 t326] 25 (0,0))):=⟨by (with_reducible repeat (first|refine kN ?_ _|refine kD ?_|refine kA ?_ _));refine blk_far ?_ NB328_334.out _;(with_reducible repeat (first|refine kN ?_ _|refine kD ?_|refine kA ?_ _));refine blk_far ?_ NB328_334.out _;(with_reducible repeat (first|refine kN ?_ _|refine kD ?_|refine kA ?_ _));refine blk_far ?_ NB328_333.out _;(with_reducible repeat (first|refine kN ?_ _|refine kD ?_|refine kA ?_ _));refine blk_far ?_ NB328_333.out _;(with_reducible repeat (first|refine kN ?_ _|refine kD ?_|refine kA ?_ _));exact BK328.out⟩
    have n5_ : Aside0 (((((w37.setCell ⟨gb333,0,none⟩ (.int .u64 t329)).setCell ⟨gb333,1,none⟩ (.int .u64 t330)).setCell ⟨gb334,0,none⟩ (.int .u64 t331)).setCell ⟨gb334,1,none⟩ (.int .u64 t332)).heap[gb333]? = some (.cells #[.int .u64 t329,.int .u64 t330] 25 (0,0))):=⟨by (with_reducible repeat (first|refine kN ?_ _|refine kD ?_|refine kA ?_ _));refine blk_far ?_ NB333_334.out _;(with_reducible repeat (first|refine kN ?_ _|refine kD ?_|refine kA ?_ _));refine blk_far ?_ NB333_334.out _;(with_reducible repeat (first|refine kN ?_ _|refine kD ?_|refine kA ?_ _));refine blk_put (cs:=#[.int .u64 t329,.int .u64 0]) ?_ 1 _ rfl;(with_reducible repeat (first|refine kN ?_ _|refine kD ?_|refine kA ?_ _));refine blk_put (cs:=#[.int .u64 0,.int .u64 0]) ?_ 0 _ rfl;(with_reducible repeat (first|refine kN ?_ _|refine kD ?_|refine kA ?_ _));exact BK333.out⟩
    have n6_ : Aside0 (((((w37.setCell ⟨gb333,0,none⟩ (.int .u64 t329)).setCell ⟨gb333,1,none⟩ (.int .u64 t330)).setCell ⟨gb334,0,none⟩ (.int .u64 t331)).setCell ⟨gb334,1,none⟩ (.int .u64 t332)).heap[gb334]? = some (.cells #[.int .u64 t331,.int .u64 t332] 25 (0,0))):=⟨by (with_reducible repeat (first|refine kN ?_ _|refine kD ?_|refine kA ?_ _));refine blk_put (cs:=#[.int .u64 t331,.int .u64 0]) ?_ 1 _ rfl;(with_reducible repeat (first|refine kN ?_ _|refine kD ?_|refine kA ?_ _));refine blk_put (cs:=#[.int .u64 0,.int .u64 0]) ?_ 0 _ rfl;(with_reducible repeat (first|refine kN ?_ _|refine kD ?_|refine kA ?_ _));refine blk_far ?_ NB334_333.out _;(with_reducible repeat (first|refine kN ?_ _|refine kD ?_|refine kA ?_ _));refine blk_far ?_ NB334_333.out _;(with_reducible repeat (first|refine kN ?_ _|refine kD ?_|refine kA ?_ _));exact BK334.out⟩
    have n7_ : Aside0 (Below w.heap.size w ((((w37.setCell ⟨gb333,0,none⟩ (.int .u64 t329)).setCell ⟨gb333,1,none⟩ (.int .u64 t330)).setCell ⟨gb334,0,none⟩ (.int .u64 t331)).setCell ⟨gb334,1,none⟩ (.int .u64 t332))):=⟨by repeat (first|(with_reducible first|exact HB.out|apply bA|apply bN|apply bD|refine bS ?_ GE319.out|refine bS ?_ GE320.out|refine bS ?_ GE321.out|refine bS ?_ GE327.out|refine bS ?_ GE328.out|refine bS ?_ GE333.out|refine bS ?_ GE334.out)|exact HB.out)⟩
    (try clear BK319)
    (try clear BK320)
    (try clear BK321)
    (try clear BK327)
    (try clear BK328)
    (try clear BK333)
    (try clear BK334)
    (try clear HB)
    generalize ((((w37.setCell ⟨gb333,0,none⟩ (.int .u64 t329)).setCell ⟨gb333,1,none⟩ (.int .u64 t330)).setCell ⟨gb334,0,none⟩ (.int .u64 t331)).setCell ⟨gb334,1,none⟩ (.int .u64 t332)) = w51 at n0_ n1_ n2_ n3_ n4_ n5_ n6_ n7_ ⊢
    have BK319:=n0_;have BK320:=n1_;have BK321:=n2_;have BK327:=n3_;have BK328:=n4_;have BK333:=n5_;have BK334:=n6_;have HB:=n7_
    clear n0_ n1_ n2_ n3_ n4_ n5_ n6_ n7_
    have n0_:=Ak (kD BK319.out)
    have n1_:=Ak (kD BK320.out)
    have n2_:=Ak (kD BK321.out)
    have n3_:=Ak (kD BK327.out)
    have n4_:=Ak (kD BK328.out)
    have n5_:=Ak (kD BK333.out)
    have n6_:=Ak (kD BK334.out)
    have n7_:=Ak (bD HB.out)
    clear BK319 BK320 BK321 BK327 BK328 BK333 BK334 HB
    have BK319:=n0_;have BK320:=n1_;have BK321:=n2_;have BK327:=n3_;have BK328:=n4_;have BK333:=n5_;have BK334:=n6_;have HB:=n7_
    clear n0_ n1_ n2_ n3_ n4_ n5_ n6_ n7_
    refine start_ (n:=20) (S:=fun w' => w'.cell? ⟨gb327,0,none⟩ = some (.int .u64 t323)∧w'.cell? ⟨gb327,1,none⟩ = some (.int .u64 t324)∧w'.cell? ⟨gb333,0,none⟩ = some (.int .u64 t329)∧w'.cell? ⟨gb333,1,none⟩ = some (.int .u64 t330)∧w'.cell? ⟨gb328,0,none⟩ = some (.int .u64 t325)∧w'.cell? ⟨gb328,1,none⟩ = some (.int .u64 t326)∧w'.cell? ⟨gb334,0,none⟩ = some (.int .u64 t331)∧w'.cell? ⟨gb334,1,none⟩ = some (.int .u64 t332)∧w'.cell? ⟨gb319,0,none⟩ = some (.int .i64 a0_0)∧w'.cell? ⟨gb319,1,none⟩ = some (.int .i64 a0_1)∧w'.cell? ⟨gb319,2,none⟩ = some (.int .i64 a0_2)∧w'.cell? ⟨gb319,3,none⟩ = some (.int .i64 a0_3)∧w'.cell? ⟨gb320,0,none⟩ = some (.int .i64 a1_0)∧w'.cell? ⟨gb320,1,none⟩ = some (.int .i64 a1_1)∧w'.cell? ⟨gb320,2,none⟩ = some (.int .i64 a1_2)∧w'.cell? ⟨gb320,3,none⟩ = some (.int .i64 a1_3)∧w'.cell? ⟨gb321,0,none⟩ = some (.int .i64 a2_0)∧w'.cell? ⟨gb321,1,none⟩ = some (.int .i64 a2_1)∧w'.cell? ⟨gb321,2,none⟩ = some (.int .i64 a2_2)∧w'.cell? ⟨gb321,3,none⟩ = some (.int .i64 a2_3)) (ds:=[]) #[ff,ff,ff,ff,ff,ff,ff,ff,ff,ff,ff,ff,ff,ff,ff,ff,ff,ff,ff,ff] (by kernel_rfl) rfl rfl ⟨(kC BK327.out 0).trans rfl,(kC BK327.out 1).trans rfl,(kC BK333.out 0).trans rfl,(kC BK333.out 1).trans rfl,(kC BK328.out 0).trans rfl,(kC BK328.out 1).trans rfl,(kC BK334.out 0).trans rfl,(kC BK334.out 1).trans rfl,(kC BK319.out 0).trans rfl,(kC BK319.out 1).trans rfl,(kC BK319.out 2).trans rfl,(kC BK319.out 3).trans rfl,(kC BK320.out 0).trans rfl,(kC BK320.out 1).trans rfl,(kC BK320.out 2).trans rfl,(kC BK320.out 3).trans rfl,(kC BK321.out 0).trans rfl,(kC BK321.out 1).trans rfl,(kC BK321.out 2).trans rfl,(kC BK321.out 3).trans rfl⟩ (fun hHeld => ?_);refine with_tabW gazetteerlaw09_KeyGrows.tab5 gazetteerlaw09_KeyGrows.bits5 (fun HT_ HW_ => ?_)
    generalize w51.drew = w52 at BK319 BK320 BK321 BK327 BK328 BK333 BK334 HB hHeld ⊢
    refine take_ (i:=0) (N:=some 25) (v:=?_) (a':=?_) #[tt,ff,ff,ff,ff,ff,ff,ff,ff,ff,ff,ff,ff,ff,ff,ff,ff,ff,ff,ff] rfl rfl (take_ofW HT_.out HW_.out (by kernel_rfl)) (fun _ _ _ h => h) (Or.inl ⟨by rfl,?_⟩) hHeld ?_ ?_
    rotate_left
    ·rintro w' ⟨s0,s1,s2,s3,s4,s5,s6,s7,s8,s9,s10,s11,s12,s13,s14,s15,s16,s17,s18,s19⟩
     go_simp
     with_reducible rfl
    rotate_left
    ·simp only [Act.put,sA,sZ,sS,i64_w,i32_w]
     rfl
    refine take_ (i:=1) (N:=some 26) (v:=?_) (a':=?_) #[tt,tt,ff,ff,ff,ff,ff,ff,ff,ff,ff,ff,ff,ff,ff,ff,ff,ff,ff,ff] rfl rfl (take_ofW HT_.out HW_.out (by kernel_rfl)) (fun _ _ _ h => h) (Or.inl ⟨by rfl,?_⟩) hHeld ?_ ?_
    rotate_left
    ·rintro w' ⟨s0,s1,s2,s3,s4,s5,s6,s7,s8,s9,s10,s11,s12,s13,s14,s15,s16,s17,s18,s19⟩
     go_simp
     with_reducible rfl
    rotate_left
    ·simp only [Act.put,sA,sZ,sS,i64_w,i32_w]
     rfl
    refine pure_ (i:=2) (N:=some 27) (v:=?_) (a':=?_) #[tt,tt,tt,ff,ff,ff,ff,ff,ff,ff,ff,ff,ff,ff,ff,ff,ff,ff,ff,ff] rfl rfl (any_of HT_.out (by kernel_rfl)) (fun _ _ _ h => h) (Or.inl ⟨by rfl,?_⟩) ?_ ?_
    rotate_left
    ·intro w'
     go_simp
     with_reducible rfl
    rotate_left
    ·simp only [Act.put,sA,sZ,sS,i64_w,i32_w]
     rfl
    refine pure_ (i:=3) (N:=some 28) (v:=?_) (a':=?_) #[tt,tt,tt,tt,ff,ff,ff,ff,ff,ff,ff,ff,ff,ff,ff,ff,ff,ff,ff,ff] rfl rfl (any_of HT_.out (by kernel_rfl)) (fun _ _ _ h => h) (Or.inl ⟨by rfl,?_⟩) ?_ ?_
    rotate_left
    ·intro w'
     go_simp
     with_reducible rfl
    rotate_left
    ·simp only [Act.put,sA,sZ,sS,i64_w,i32_w]
     rfl
    refine take_ (i:=4) (N:=some 29) (v:=?_) (a':=?_) #[tt,tt,tt,tt,tt,ff,ff,ff,ff,ff,ff,ff,ff,ff,ff,ff,ff,ff,ff,ff] rfl rfl (take_ofW HT_.out HW_.out (by kernel_rfl)) (fun _ _ _ h => h) (Or.inl ⟨by rfl,?_⟩) hHeld ?_ ?_
    rotate_left
    ·rintro w' ⟨s0,s1,s2,s3,s4,s5,s6,s7,s8,s9,s10,s11,s12,s13,s14,s15,s16,s17,s18,s19⟩
     go_simp
     with_reducible rfl
    rotate_left
    ·simp only [Act.put,sA,sZ,sS,i64_w,i32_w]
     rfl
    refine take_ (i:=5) (N:=some 30) (v:=?_) (a':=?_) #[tt,tt,tt,tt,tt,tt,ff,ff,ff,ff,ff,ff,ff,ff,ff,ff,ff,ff,ff,ff] rfl rfl (take_ofW HT_.out HW_.out (by kernel_rfl)) (fun _ _ _ h => h) (Or.inl ⟨by rfl,?_⟩) hHeld ?_ ?_
    rotate_left
    ·rintro w' ⟨s0,s1,s2,s3,s4,s5,s6,s7,s8,s9,s10,s11,s12,s13,s14,s15,s16,s17,s18,s19⟩
     go_simp
     with_reducible rfl
    rotate_left
    ·simp only [Act.put,sA,sZ,sS,i64_w,i32_w]
     rfl
    refine pure_ (i:=6) (N:=some 31) (v:=?_) (a':=?_) #[tt,tt,tt,tt,tt,tt,tt,ff,ff,ff,ff,ff,ff,ff,ff,ff,ff,ff,ff,ff] rfl rfl (any_of HT_.out (by kernel_rfl)) (fun _ _ _ h => h) (Or.inl ⟨by rfl,?_⟩) ?_ ?_
    rotate_left
    ·intro w'
     go_simp
     with_reducible rfl
    rotate_left
    ·simp only [Act.put,sA,sZ,sS,i64_w,i32_w]
     rfl
    refine pure_ (i:=7) (N:=some 32) (v:=?_) (a':=?_) #[tt,tt,tt,tt,tt,tt,tt,tt,ff,ff,ff,ff,ff,ff,ff,ff,ff,ff,ff,ff] rfl rfl (any_of HT_.out (by kernel_rfl)) (fun _ _ _ h => h) (Or.inl ⟨by rfl,?_⟩) ?_ ?_
    rotate_left
    ·intro w'
     go_simp
     with_reducible rfl
    rotate_left
    ·simp only [Act.put,sA,sZ,sS,i64_w,i32_w]
     rfl
    refine pure_ (i:=8) (N:=some 33) (v:=?_) (a':=?_) #[tt,tt,tt,tt,tt,tt,tt,tt,tt,ff,ff,ff,ff,ff,ff,ff,ff,ff,ff,ff] rfl rfl (any_of HT_.out (by kernel_rfl)) (fun _ _ _ h => h) (Or.inl ⟨by rfl,?_⟩) ?_ ?_
    rotate_left
    ·intro w'
     go_simp
     with_reducible rfl
    rotate_left
    ·simp only [Act.put,sA,sZ,sS,i64_w,i32_w]
     rfl
    refine take_ (i:=9) (N:=some 34) (v:=?_) (a':=?_) #[tt,tt,tt,tt,tt,tt,tt,tt,tt,tt,ff,ff,ff,ff,ff,ff,ff,ff,ff,ff] rfl rfl (take_ofW HT_.out HW_.out (by kernel_rfl)) (fun _ _ _ h => h) (Or.inl ⟨by rfl,?_⟩) hHeld ?_ ?_
    rotate_left
    ·rintro w' ⟨s0,s1,s2,s3,s4,s5,s6,s7,s8,s9,s10,s11,s12,s13,s14,s15,s16,s17,s18,s19⟩
     go_simp
     with_reducible rfl
    rotate_left
    ·simp only [Act.put,sA,sZ,sS,i64_w,i32_w]
     rfl
    refine take_ (i:=10) (N:=some 35) (v:=?_) (a':=?_) #[tt,tt,tt,tt,tt,tt,tt,tt,tt,tt,tt,ff,ff,ff,ff,ff,ff,ff,ff,ff] rfl rfl (take_ofW HT_.out HW_.out (by kernel_rfl)) (fun _ _ _ h => h) (Or.inl ⟨by rfl,?_⟩) hHeld ?_ ?_
    rotate_left
    ·rintro w' ⟨s0,s1,s2,s3,s4,s5,s6,s7,s8,s9,s10,s11,s12,s13,s14,s15,s16,s17,s18,s19⟩
     go_simp
     with_reducible rfl
    rotate_left
    ·simp only [Act.put,sA,sZ,sS,i64_w,i32_w]
     rfl
    refine take_ (i:=11) (N:=some 36) (v:=?_) (a':=?_) #[tt,tt,tt,tt,tt,tt,tt,tt,tt,tt,tt,tt,ff,ff,ff,ff,ff,ff,ff,ff] rfl rfl (take_ofW HT_.out HW_.out (by kernel_rfl)) (fun _ _ _ h => h) (Or.inl ⟨by rfl,?_⟩) hHeld ?_ ?_
    rotate_left
    ·rintro w' ⟨s0,s1,s2,s3,s4,s5,s6,s7,s8,s9,s10,s11,s12,s13,s14,s15,s16,s17,s18,s19⟩
     go_simp
     with_reducible rfl
    rotate_left
    ·simp only [Act.put,sA,sZ,sS,i64_w,i32_w]
     rfl
    refine take_ (i:=13) (N:=some 38) (v:=?_) (a':=?_) #[tt,tt,tt,tt,tt,tt,tt,tt,tt,tt,tt,tt,ff,tt,ff,ff,ff,ff,ff,ff] rfl rfl (take_ofW HT_.out HW_.out (by kernel_rfl)) (fun _ _ _ h => h) (Or.inl ⟨by rfl,?_⟩) hHeld ?_ ?_
    rotate_left
    ·rintro w' ⟨s0,s1,s2,s3,s4,s5,s6,s7,s8,s9,s10,s11,s12,s13,s14,s15,s16,s17,s18,s19⟩
     go_simp
     with_reducible rfl
    rotate_left
    ·simp only [Act.put,sA,sZ,sS,i64_w,i32_w]
     rfl
    refine take_ (i:=14) (N:=some 39) (v:=?_) (a':=?_) #[tt,tt,tt,tt,tt,tt,tt,tt,tt,tt,tt,tt,ff,tt,tt,ff,ff,ff,ff,ff] rfl rfl (take_ofW HT_.out HW_.out (by kernel_rfl)) (fun _ _ _ h => h) (Or.inl ⟨by rfl,?_⟩) hHeld ?_ ?_
    rotate_left
    ·rintro w' ⟨s0,s1,s2,s3,s4,s5,s6,s7,s8,s9,s10,s11,s12,s13,s14,s15,s16,s17,s18,s19⟩
     go_simp
     with_reducible rfl
    rotate_left
    ·simp only [Act.put,sA,sZ,sS,i64_w,i32_w]
     rfl
    refine take_ (i:=15) (N:=some 40) (v:=?_) (a':=?_) #[tt,tt,tt,tt,tt,tt,tt,tt,tt,tt,tt,tt,ff,tt,tt,tt,ff,ff,ff,ff] rfl rfl (take_ofW HT_.out HW_.out (by kernel_rfl)) (fun _ _ _ h => h) (Or.inl ⟨by rfl,?_⟩) hHeld ?_ ?_
    rotate_left
    ·rintro w' ⟨s0,s1,s2,s3,s4,s5,s6,s7,s8,s9,s10,s11,s12,s13,s14,s15,s16,s17,s18,s19⟩
     go_simp
     with_reducible rfl
    rotate_left
    ·simp only [Act.put,sA,sZ,sS,i64_w,i32_w]
     rfl
    refine one_ (i:=12) (N:=some 37) #[tt,tt,tt,tt,tt,tt,tt,tt,tt,tt,tt,tt,tt,tt,tt,tt,ff,ff,ff,ff] rfl rfl (one_of HT_.out (by kernel_rfl)) (by decide) (fun K hK => ?_)
    refine goes_ Try.func38 (by kernel_rfl) rfl #[.agg #[.int .i64 a0_0,.int .i64 a0_1,.int .i64 a0_2,.int .i64 a0_3],.agg #[.int .i64 a1_0,.int .i64 a1_1,.int .i64 a1_2,.int .i64 a1_3],.agg #[.int .i64 a2_0,.int .i64 a2_1,.int .i64 a2_2,.int .i64 a2_3]] (by rfl) rfl rfl (by (try simp only [List.map_toArray,List.map_cons,List.map_nil]);first|done|rfl|(simp only [List.length_drop,List.length_take];rfl)) ?_
    with_reducible refine (key_Less.calls a0_0 a0_1 a0_2 a0_3 a1_0 a1_1 a1_2 a1_3 a2_0 a2_1 a2_2 a2_3 t335 _ A10.out).mono ?_
    rintro e w53 ⟨rfl,hb⟩
    refine ⟨_,rfl,?_⟩
    have n0_:=Kb BK319 hb
    have n1_:=Kb BK320 hb
    have n2_:=Kb BK321 hb
    have n3_:=Kb BK327 hb
    have n4_:=Kb BK328 hb
    have n5_:=Kb BK333 hb
    have n6_:=Kb BK334 hb
    have n7_:=Kh HB hb
    clear BK319 BK320 BK321 BK327 BK328 BK333 BK334 HB
    have BK319:=n0_;have BK320:=n1_;have BK321:=n2_;have BK327:=n3_;have BK328:=n4_;have BK333:=n5_;have BK334:=n6_;have HB:=n7_
    clear n0_ n1_ n2_ n3_ n4_ n5_ n6_ n7_
    (try clear hb)
    (try clear hb2)
    (try clear hk)
    (try clear hi)
    refine hK.out _ _ ⟨(kC BK327.out 0).trans rfl,(kC BK327.out 1).trans rfl,(kC BK333.out 0).trans rfl,(kC BK333.out 1).trans rfl,(kC BK328.out 0).trans rfl,(kC BK328.out 1).trans rfl,(kC BK334.out 0).trans rfl,(kC BK334.out 1).trans rfl,(kC BK319.out 0).trans rfl,(kC BK319.out 1).trans rfl,(kC BK319.out 2).trans rfl,(kC BK319.out 3).trans rfl,(kC BK320.out 0).trans rfl,(kC BK320.out 1).trans rfl,(kC BK320.out 2).trans rfl,(kC BK320.out 3).trans rfl,(kC BK321.out 0).trans rfl,(kC BK321.out 1).trans rfl,(kC BK321.out 2).trans rfl,(kC BK321.out 3).trans rfl⟩ (fun hHeld => ?_)
    clear hK K
    refine norm_ (a':=?_) ?_ ?_
    rotate_left
    ·show Act.put _ (some 37) _ = _
     simp only [Act.put,sA,sZ,sS,i64_w,i32_w]
     rfl
    refine one_ (i:=16) (N:=some 41) #[tt,tt,tt,tt,tt,tt,tt,tt,tt,tt,tt,tt,tt,tt,tt,tt,tt,ff,ff,ff] rfl rfl (one_of HT_.out (by kernel_rfl)) (by decide) (fun K hK => ?_)
    refine goes_ Try.func39 (by kernel_rfl) rfl #[.agg #[.int .i64 a0_0,.int .i64 a0_1,.int .i64 a0_2,.int .i64 a0_3],.agg #[.int .i64 a1_0,.int .i64 a1_1,.int .i64 a1_2,.int .i64 a1_3],.agg #[.int .i64 a2_0,.int .i64 a2_1,.int .i64 a2_2,.int .i64 a2_3]] (by rfl) rfl rfl (by (try simp only [List.map_toArray,List.map_cons,List.map_nil]);first|done|rfl|(simp only [List.length_drop,List.length_take];rfl)) ?_
    with_reducible refine (gazetteerref09_Less.calls k a0_0 a0_1 a0_2 a0_3 a1_0 a1_1 a1_2 a1_3 a2_0 a2_1 a2_2 a2_3 t336 _ A11.out).mono ?_
    rintro e w54 ⟨rfl,hb⟩
    refine ⟨_,rfl,?_⟩
    have n0_:=Kb BK319 hb
    have n1_:=Kb BK320 hb
    have n2_:=Kb BK321 hb
    have n3_:=Kb BK327 hb
    have n4_:=Kb BK328 hb
    have n5_:=Kb BK333 hb
    have n6_:=Kb BK334 hb
    have n7_:=Kh HB hb
    clear BK319 BK320 BK321 BK327 BK328 BK333 BK334 HB
    have BK319:=n0_;have BK320:=n1_;have BK321:=n2_;have BK327:=n3_;have BK328:=n4_;have BK333:=n5_;have BK334:=n6_;have HB:=n7_
    clear n0_ n1_ n2_ n3_ n4_ n5_ n6_ n7_
    (try clear hb)
    (try clear hb2)
    (try clear hk)
    (try clear hi)
    refine hK.out _ _ ⟨(kC BK327.out 0).trans rfl,(kC BK327.out 1).trans rfl,(kC BK333.out 0).trans rfl,(kC BK333.out 1).trans rfl,(kC BK328.out 0).trans rfl,(kC BK328.out 1).trans rfl,(kC BK334.out 0).trans rfl,(kC BK334.out 1).trans rfl,(kC BK319.out 0).trans rfl,(kC BK319.out 1).trans rfl,(kC BK319.out 2).trans rfl,(kC BK319.out 3).trans rfl,(kC BK320.out 0).trans rfl,(kC BK320.out 1).trans rfl,(kC BK320.out 2).trans rfl,(kC BK320.out 3).trans rfl,(kC BK321.out 0).trans rfl,(kC BK321.out 1).trans rfl,(kC BK321.out 2).trans rfl,(kC BK321.out 3).trans rfl⟩ (fun hHeld => ?_)
    clear hK K
    refine norm_ (a':=?_) ?_ ?_
    rotate_left
    ·show Act.put _ (some 41) _ = _
     simp only [Act.put,sA,sZ,sS,i64_w,i32_w]
     rfl
    refine pure_ (i:=17) (N:=some 42) (v:=?_) (a':=?_) #[tt,tt,tt,tt,tt,tt,tt,tt,tt,tt,tt,tt,tt,tt,tt,tt,tt,tt,ff,ff] rfl rfl (any_of HT_.out (by kernel_rfl)) (fun _ _ _ h => h) (Or.inl ⟨by rfl,?_⟩) ?_ ?_
    rotate_left
    ·intro w'
     go_simp
     with_reducible rfl
    rotate_left
    ·simp only [Act.put,sA,sZ,sS,i64_w,i32_w]
     rfl
    refine pure_ (i:=18) (N:=some 43) (v:=?_) (a':=?_) #[tt,tt,tt,tt,tt,tt,tt,tt,tt,tt,tt,tt,tt,tt,tt,tt,tt,tt,tt,ff] rfl rfl (any_of HT_.out (by kernel_rfl)) (fun _ _ _ h => h) (Or.inl ⟨by rfl,?_⟩) ?_ ?_
    rotate_left
    ·intro w'
     go_simp
     with_reducible rfl
    rotate_left
    ·simp only [Act.put,sA,sZ,sS,i64_w,i32_w]
     rfl
    refine pure_ (i:=19) (N:=some 6) (v:=?_) (a':=?_) #[tt,tt,tt,tt,tt,tt,tt,tt,tt,tt,tt,tt,tt,tt,tt,tt,tt,tt,tt,tt] rfl rfl (any_of HT_.out (by kernel_rfl)) (fun _ _ _ h => h) (Or.inl ⟨by rfl,?_⟩) ?_ ?_
    rotate_left
    ·intro w'
     go_simp
     with_reducible rfl
    rotate_left
    ·simp only [Act.put,sA,sZ,sS,i64_w,i32_w]
     rfl
    refine done_ (done_of HT_.out (by kernel_rfl)) ?_
    try go_wp2
    go_ret
    exact ⟨by first|rfl|(simp [errW_none,errW_some] <;> rfl)|(simp [*,errW_none,errW_some] <;> rfl),by repeat (first|(with_reducible first|exact HB.out|apply bA|apply bN|apply bD|refine bS ?_ GE319.out|refine bS ?_ GE320.out|refine bS ?_ GE321.out|refine bS ?_ GE327.out|refine bS ?_ GE328.out|refine bS ?_ GE333.out|refine bS ?_ GE334.out)|exact HB.out)⟩
   ·rw [if_neg c9] at H
    have c9b0 : (t325 == t331 && (t326 == t332)) = false:=by simpa using c9
    (try (have c9b1 : decide (t325 = t331 && (t326 == t332)) = false:=by simpa using c9))
    (try (have c9b2 : (t325 == t331 && (t326 == t332)) = false:=by simpa using c9))
    (try (have c9b3 : ¬ (t325 = t331 && (t326 == t332)):=by simpa using c9))
    clear c9
    obtain rfl:=Option.some.inj H
    go_enter Try.func12,Try.ntmps12
    try go_wp2_with (first|((with_reducible refine gate_dst (N:=3) rfl ?_);refine box_event ?hg (N:=3) ?hd (cs:=#[.int .i64 a0_0,.int .i64 a0_1,.int .i64 a0_2,.int .i64 a0_3]) (t:=35) ?hr ?_;(case hd => rfl);(case hg => rfl);(case hr => first|(go_simp;done)|(go_simp;rfl));intro gb319 hg w55 hbox hb;have n0_:=Ak (below_step (by repeat (first|(with_reducible first|exact HB.out|apply bA|apply bN|apply bD)|exact HB.out)) hb);have n1_:=Ak (hbox);have n2_:=Kz hg HB;have n3_:=Kz hg HB;clear HB;have HB:=n0_;have BK319:=n1_;have GW319:=n2_;have GE319:=n3_;clear n0_ n1_ n2_ n3_;clear hb hbox hg)|((with_reducible refine gate_dst (N:=4) rfl ?_);refine box_event ?hg (N:=4) ?hd (cs:=#[.int .i64 a1_0,.int .i64 a1_1,.int .i64 a1_2,.int .i64 a1_3]) (t:=35) ?hr ?_;(case hd => rfl);(case hg => rfl);(case hr => first|(go_simp;done)|(go_simp;rfl));intro gb320 hg w56 hbox hb;have n0_:=Kb BK319 hb;have n1_:=Ak (below_step (by repeat (first|(with_reducible first|exact HB.out|apply bA|apply bN|apply bD|refine bS ?_ GE319.out)|exact HB.out)) hb);have n2_:=Ak (hbox);have n3_:=Kz hg HB;have n4_:=Kz hg HB;have n5_:=Kl hg BK319;have n6_:=Km hg BK319;clear BK319 HB;have BK319:=n0_;have HB:=n1_;have BK320:=n2_;have GW320:=n3_;have GE320:=n4_;have NB319_320:=n5_;have NB320_319:=n6_;clear n0_ n1_ n2_ n3_ n4_ n5_ n6_;clear hb hbox hg)|((with_reducible refine gate_dst (N:=5) rfl ?_);refine box_event ?hg (N:=5) ?hd (cs:=#[.int .i64 a2_0,.int .i64 a2_1,.int .i64 a2_2,.int .i64 a2_3]) (t:=35) ?hr ?_;(case hd => rfl);(case hg => rfl);(case hr => first|(go_simp;done)|(go_simp;rfl));intro gb321 hg w57 hbox hb;have n0_:=Kb BK319 hb;have n1_:=Kb BK320 hb;have n2_:=Ak (below_step (by repeat (first|(with_reducible first|exact HB.out|apply bA|apply bN|apply bD|refine bS ?_ GE319.out|refine bS ?_ GE320.out)|exact HB.out)) hb);have n3_:=Ak (hbox);have n4_:=Kz hg HB;have n5_:=Kz hg HB;have n6_:=Kl hg BK319;have n7_:=Km hg BK319;have n8_:=Kl hg BK320;have n9_:=Km hg BK320;clear BK319 BK320 HB;have BK319:=n0_;have BK320:=n1_;have HB:=n2_;have BK321:=n3_;have GW321:=n4_;have GE321:=n5_;have NB319_321:=n6_;have NB321_319:=n7_;have NB320_321:=n8_;have NB321_320:=n9_;clear n0_ n1_ n2_ n3_ n4_ n5_ n6_ n7_ n8_ n9_;clear hb hbox hg)|((with_reducible refine gate_callee (f:=32) rfl ?_);refine goesL_ (some 11) rfl rfl Try.func32 (by kernel_rfl) rfl #[] rfl (by (try simp only [List.map_toArray,List.map_cons,List.map_nil]);first|done|rfl|(simp only [List.length_drop,List.length_take];rfl)) ?_;(with_reducible refine (gazetteerlaw09_wakes.calls k  true _ A4.out).mono ?_);rintro e w58 ⟨rfl,hb⟩;refine ⟨_,rfl,?_⟩;have n0_:=Kb BK319 hb;have n1_:=Kb BK320 hb;have n2_:=Kb BK321 hb;have n3_:=Ak (below_step (by repeat (first|(with_reducible first|exact HB.out|apply bA|apply bN|apply bD|refine bS ?_ GE319.out|refine bS ?_ GE320.out|refine bS ?_ GE321.out)|exact HB.out)) hb);clear BK319 BK320 BK321 HB;have BK319:=n0_;have BK320:=n1_;have BK321:=n2_;have HB:=n3_;clear n0_ n1_ n2_ n3_;(try clear hb);(try clear hb2);(try clear hk);(try clear hi);have hnb59:=NB319_320.out;have hnc59:=NB320_319.out;have hnb60:=NB319_321.out;have hnc60:=NB321_319.out;have hcz61_0 : w58.cell? ⟨gb319,0,none⟩ = some (.int .i64 a0_0):=(kC BK319.out 0).trans rfl;have hcz61_1 : w58.cell? ⟨gb319,1,none⟩ = some (.int .i64 a0_1):=(kC BK319.out 1).trans rfl;have hcz61_2 : w58.cell? ⟨gb319,2,none⟩ = some (.int .i64 a0_2):=(kC BK319.out 2).trans rfl;have hcz61_3 : w58.cell? ⟨gb319,3,none⟩ = some (.int .i64 a0_3):=(kC BK319.out 3).trans rfl;have hfz61_0:=blk_frozen BK319.out 0;have hfz61_1:=blk_frozen BK319.out 1;have hfz61_2:=blk_frozen BK319.out 2;have hfz61_3:=blk_frozen BK319.out 3;have hnb62:=NB321_320.out;have hnc62:=NB320_321.out;have hcz63_0 : w58.cell? ⟨gb321,0,none⟩ = some (.int .i64 a2_0):=(kC BK321.out 0).trans rfl;have hcz63_1 : w58.cell? ⟨gb321,1,none⟩ = some (.int .i64 a2_1):=(kC BK321.out 1).trans rfl;have hcz63_2 : w58.cell? ⟨gb321,2,none⟩ = some (.int .i64 a2_2):=(kC BK321.out 2).trans rfl;have hcz63_3 : w58.cell? ⟨gb321,3,none⟩ = some (.int .i64 a2_3):=(kC BK321.out 3).trans rfl;have hfz63_0:=blk_frozen BK321.out 0;have hfz63_1:=blk_frozen BK321.out 1;have hfz63_2:=blk_frozen BK321.out 2;have hfz63_3:=blk_frozen BK321.out 3)|((with_reducible refine gate_callee (f:=36) rfl ?_);refine goesL_ (some 16) rfl rfl Try.func36 (by kernel_rfl) rfl #[.agg #[.int .i64 a0_0,.int .i64 a0_1,.int .i64 a0_2,.int .i64 a0_3],.agg #[.int .i64 a2_0,.int .i64 a2_1,.int .i64 a2_2,.int .i64 a2_3]] rfl (by (try simp only [List.map_toArray,List.map_cons,List.map_nil]);first|done|rfl|(simp only [List.length_drop,List.length_take];rfl)) ?_;(with_reducible refine (key_Grows.calls a0_0 a0_1 a0_2 a0_3 a2_0 a2_1 a2_2 a2_3 t323 t324 t325 t326 _ A6.out).mono ?_);rintro e w64 ⟨rfl,hb⟩;refine ⟨_,rfl,?_⟩;have n0_:=Kb BK319 hb;have n1_:=Kb BK320 hb;have n2_:=Kb BK321 hb;have n3_:=Ak (below_step (by repeat (first|(with_reducible first|exact HB.out|apply bA|apply bN|apply bD|refine bS ?_ GE319.out|refine bS ?_ GE320.out|refine bS ?_ GE321.out)|exact HB.out)) hb);clear BK319 BK320 BK321 HB;have BK319:=n0_;have BK320:=n1_;have BK321:=n2_;have HB:=n3_;clear n0_ n1_ n2_ n3_;(try clear hb);(try clear hb2);(try clear hk);(try clear hi))|((with_reducible refine gate_dst (N:=7) rfl ?_);refine box_event ?hg (N:=7) ?hd (cs:=#[.int .u64 0,.int .u64 0]) (t:=25) ?hr ?_;(case hd => rfl);(case hg => rfl);(case hr => first|(go_simp;done)|(go_simp;rfl));intro gb327 hg w65 hbox hb;have n0_:=Kb BK319 hb;have n1_:=Kb BK320 hb;have n2_:=Kb BK321 hb;have n3_:=Ak (below_step (by repeat (first|(with_reducible first|exact HB.out|apply bA|apply bN|apply bD|refine bS ?_ GE319.out|refine bS ?_ GE320.out|refine bS ?_ GE321.out)|exact HB.out)) hb);have n4_:=Ak (hbox);have n5_:=Kz hg HB;have n6_:=Kz hg HB;have n7_:=Kl hg BK319;have n8_:=Km hg BK319;have n9_:=Kl hg BK320;have n10_:=Km hg BK320;have n11_:=Kl hg BK321;have n12_:=Km hg BK321;clear BK319 BK320 BK321 HB;have BK319:=n0_;have BK320:=n1_;have BK321:=n2_;have HB:=n3_;have BK327:=n4_;have GW327:=n5_;have GE327:=n6_;have NB319_327:=n7_;have NB327_319:=n8_;have NB320_327:=n9_;have NB327_320:=n10_;have NB321_327:=n11_;have NB327_321:=n12_;clear n0_ n1_ n2_ n3_ n4_ n5_ n6_ n7_ n8_ n9_ n10_ n11_ n12_;clear hb hbox hg)|((with_reducible refine gate_dst (N:=8) rfl ?_);refine box_event ?hg (N:=8) ?hd (cs:=#[.int .u64 0,.int .u64 0]) (t:=25) ?hr ?_;(case hd => rfl);(case hg => rfl);(case hr => first|(go_simp;done)|(go_simp;rfl));intro gb328 hg w66 hbox hb;have n0_:=Kb BK319 hb;have n1_:=Kb BK320 hb;have n2_:=Kb BK321 hb;have n3_:=Kb BK327 hb;have n4_:=Ak (below_step (by repeat (first|(with_reducible first|exact HB.out|apply bA|apply bN|apply bD|refine bS ?_ GE319.out|refine bS ?_ GE320.out|refine bS ?_ GE321.out|refine bS ?_ GE327.out)|exact HB.out)) hb);have n5_:=Ak (hbox);have n6_:=Kz hg HB;have n7_:=Kz hg HB;have n8_:=Kl hg BK319;have n9_:=Km hg BK319;have n10_:=Kl hg BK320;have n11_:=Km hg BK320;have n12_:=Kl hg BK321;have n13_:=Km hg BK321;have n14_:=Kl hg BK327;have n15_:=Km hg BK327;clear BK319 BK320 BK321 BK327 HB;have BK319:=n0_;have BK320:=n1_;have BK321:=n2_;have BK327:=n3_;have HB:=n4_;have BK328:=n5_;have GW328:=n6_;have GE328:=n7_;have NB319_328:=n8_;have NB328_319:=n9_;have NB320_328:=n10_;have NB328_320:=n11_;have NB321_328:=n12_;have NB328_321:=n13_;have NB327_328:=n14_;have NB328_327:=n15_;clear n0_ n1_ n2_ n3_ n4_ n5_ n6_ n7_ n8_ n9_ n10_ n11_ n12_ n13_ n14_ n15_;clear hb hbox hg;have hnb67:=NB327_319.out;have hnc67:=NB319_327.out;have hnb68:=NB327_320.out;have hnc68:=NB320_327.out;have hnb69:=NB327_321.out;have hnc69:=NB321_327.out;have hnb70:=NB327_328.out;have hnc70:=NB328_327.out;have hcz71_0 : w66.cell? ⟨gb327,0,none⟩ = some (.int .u64 0):=(kC BK327.out 0).trans rfl;have hcz71_1 : w66.cell? ⟨gb327,1,none⟩ = some (.int .u64 0):=(kC BK327.out 1).trans rfl;have hfz71_0:=blk_frozen BK327.out 0;have hfz71_1:=blk_frozen BK327.out 1;have hnb72:=NB328_319.out;have hnc72:=NB319_328.out;have hnb73:=NB328_320.out;have hnc73:=NB320_328.out;have hnb74:=NB328_321.out;have hnc74:=NB321_328.out;have hcz75_0 : w66.cell? ⟨gb328,0,none⟩ = some (.int .u64 0):=(kC BK328.out 0).trans rfl;have hcz75_1 : w66.cell? ⟨gb328,1,none⟩ = some (.int .u64 0):=(kC BK328.out 1).trans rfl;have hfz75_0:=blk_frozen BK328.out 0;have hfz75_1:=blk_frozen BK328.out 1;have hcz76_0 : w66.cell? ⟨gb319,0,none⟩ = some (.int .i64 a0_0):=(kC BK319.out 0).trans rfl;have hcz76_1 : w66.cell? ⟨gb319,1,none⟩ = some (.int .i64 a0_1):=(kC BK319.out 1).trans rfl;have hcz76_2 : w66.cell? ⟨gb319,2,none⟩ = some (.int .i64 a0_2):=(kC BK319.out 2).trans rfl;have hcz76_3 : w66.cell? ⟨gb319,3,none⟩ = some (.int .i64 a0_3):=(kC BK319.out 3).trans rfl;have hfz76_0:=blk_frozen BK319.out 0;have hfz76_1:=blk_frozen BK319.out 1;have hfz76_2:=blk_frozen BK319.out 2;have hfz76_3:=blk_frozen BK319.out 3;have hcz77_0 : w66.cell? ⟨gb321,0,none⟩ = some (.int .i64 a2_0):=(kC BK321.out 0).trans rfl;have hcz77_1 : w66.cell? ⟨gb321,1,none⟩ = some (.int .i64 a2_1):=(kC BK321.out 1).trans rfl;have hcz77_2 : w66.cell? ⟨gb321,2,none⟩ = some (.int .i64 a2_2):=(kC BK321.out 2).trans rfl;have hcz77_3 : w66.cell? ⟨gb321,3,none⟩ = some (.int .i64 a2_3):=(kC BK321.out 3).trans rfl;have hfz77_0:=blk_frozen BK321.out 0;have hfz77_1:=blk_frozen BK321.out 1;have hfz77_2:=blk_frozen BK321.out 2;have hfz77_3:=blk_frozen BK321.out 3)|((with_reducible refine gate_callee (f:=37) rfl ?_);refine goesL_ (some 22) rfl rfl Try.func37 (by kernel_rfl) rfl #[.agg #[.int .i64 a0_0,.int .i64 a0_1,.int .i64 a0_2,.int .i64 a0_3],.agg #[.int .i64 a2_0,.int .i64 a2_1,.int .i64 a2_2,.int .i64 a2_3]] rfl (by (try simp only [List.map_toArray,List.map_cons,List.map_nil]);first|done|rfl|(simp only [List.length_drop,List.length_take];rfl)) ?_;(with_reducible refine (gazetteerref09_Grows.calls k a0_0 a0_1 a0_2 a0_3 a2_0 a2_1 a2_2 a2_3 t329 t330 t331 t332 _ A7.out).mono ?_);rintro e w78 ⟨rfl,hb⟩;refine ⟨_,rfl,?_⟩;have n0_:=Ak (kB (g:=gb319) (o:=.cells #[.int .i64 a0_0,.int .i64 a0_1,.int .i64 a0_2,.int .i64 a0_3] 35 (0,0)) (by (with_reducible repeat (first|refine kN ?_ _|refine kD ?_|refine kA ?_ _));refine blk_far ?_ NB319_328.out _;(with_reducible repeat (first|refine kN ?_ _|refine kD ?_|refine kA ?_ _));refine blk_far ?_ NB319_328.out _;(with_reducible repeat (first|refine kN ?_ _|refine kD ?_|refine kA ?_ _));refine blk_far ?_ NB319_327.out _;(with_reducible repeat (first|refine kN ?_ _|refine kD ?_|refine kA ?_ _));refine blk_far ?_ NB319_327.out _;(with_reducible repeat (first|refine kN ?_ _|refine kD ?_|refine kA ?_ _));exact BK319.out) hb);have n1_:=Ak (kB (g:=gb320) (o:=.cells #[.int .i64 a1_0,.int .i64 a1_1,.int .i64 a1_2,.int .i64 a1_3] 35 (0,0)) (by (with_reducible repeat (first|refine kN ?_ _|refine kD ?_|refine kA ?_ _));refine blk_far ?_ NB320_328.out _;(with_reducible repeat (first|refine kN ?_ _|refine kD ?_|refine kA ?_ _));refine blk_far ?_ NB320_328.out _;(with_reducible repeat (first|refine kN ?_ _|refine kD ?_|refine kA ?_ _));refine blk_far ?_ NB320_327.out _;(with_reducible repeat (first|refine kN ?_ _|refine kD ?_|refine kA ?_ _));refine blk_far ?_ NB320_327.out _;(with_reducible repeat (first|refine kN ?_ _|refine kD ?_|refine kA ?_ _));exact BK320.out) hb);have n2_:=Ak (kB (g:=gb321) (o:=.cells #[.int .i64 a2_0,.int .i64 a2_1,.int .i64 a2_2,.int .i64 a2_3] 35 (0,0)) (by (with_reducible repeat (first|refine kN ?_ _|refine kD ?_|refine kA ?_ _));refine blk_far ?_ NB321_328.out _;(with_reducible repeat (first|refine kN ?_ _|refine kD ?_|refine kA ?_ _));refine blk_far ?_ NB321_328.out _;(with_reducible repeat (first|refine kN ?_ _|refine kD ?_|refine kA ?_ _));refine blk_far ?_ NB321_327.out _;(with_reducible repeat (first|refine kN ?_ _|refine kD ?_|refine kA ?_ _));refine blk_far ?_ NB321_327.out _;(with_reducible repeat (first|refine kN ?_ _|refine kD ?_|refine kA ?_ _));exact BK321.out) hb);have n3_:=Ak (kB (g:=gb327) (o:=.cells #[.int .u64 t323,.int .u64 t324] 25 (0,0)) (by (with_reducible repeat (first|refine kN ?_ _|refine kD ?_|refine kA ?_ _));refine blk_far ?_ NB327_328.out _;(with_reducible repeat (first|refine kN ?_ _|refine kD ?_|refine kA ?_ _));refine blk_far ?_ NB327_328.out _;(with_reducible repeat (first|refine kN ?_ _|refine kD ?_|refine kA ?_ _));refine blk_put (cs:=#[.int .u64 t323,.int .u64 0]) ?_ 1 _ rfl;(with_reducible repeat (first|refine kN ?_ _|refine kD ?_|refine kA ?_ _));refine blk_put (cs:=#[.int .u64 0,.int .u64 0]) ?_ 0 _ rfl;(with_reducible repeat (first|refine kN ?_ _|refine kD ?_|refine kA ?_ _));exact BK327.out) hb);have n4_:=Ak (kB (g:=gb328) (o:=.cells #[.int .u64 t325,.int .u64 t326] 25 (0,0)) (by (with_reducible repeat (first|refine kN ?_ _|refine kD ?_|refine kA ?_ _));refine blk_put (cs:=#[.int .u64 t325,.int .u64 0]) ?_ 1 _ rfl;(with_reducible repeat (first|refine kN ?_ _|refine kD ?_|refine kA ?_ _));refine blk_put (cs:=#[.int .u64 0,.int .u64 0]) ?_ 0 _ rfl;(with_reducible repeat (first|refine kN ?_ _|refine kD ?_|refine kA ?_ _));refine blk_far ?_ NB328_327.out _;(with_reducible repeat (first|refine kN ?_ _|refine kD ?_|refine kA ?_ _));refine blk_far ?_ NB328_327.out _;(with_reducible repeat (first|refine kN ?_ _|refine kD ?_|refine kA ?_ _));exact BK328.out) hb);have n5_:=Ak (below_step (by repeat (first|(with_reducible first|exact HB.out|apply bA|apply bN|apply bD|refine bS ?_ GE319.out|refine bS ?_ GE320.out|refine bS ?_ GE321.out|refine bS ?_ GE327.out|refine bS ?_ GE328.out)|exact HB.out)) hb);clear BK319 BK320 BK321 BK327 BK328 HB;have BK319:=n0_;have BK320:=n1_;have BK321:=n2_;have BK327:=n3_;have BK328:=n4_;have HB:=n5_;clear n0_ n1_ n2_ n3_ n4_ n5_;(try clear hb);(try clear hb2);(try clear hk);(try clear hi))|((with_reducible refine gate_dst (N:=9) rfl ?_);refine box_event ?hg (N:=9) ?hd (cs:=#[.int .u64 0,.int .u64 0]) (t:=25) ?hr ?_;(case hd => rfl);(case hg => rfl);(case hr => first|(go_simp;done)|(go_simp;rfl));intro gb333 hg w79 hbox hb;have n0_:=Kb BK319 hb;have n1_:=Kb BK320 hb;have n2_:=Kb BK321 hb;have n3_:=Kb BK327 hb;have n4_:=Kb BK328 hb;have n5_:=Ak (below_step (by repeat (first|(with_reducible first|exact HB.out|apply bA|apply bN|apply bD|refine bS ?_ GE319.out|refine bS ?_ GE320.out|refine bS ?_ GE321.out|refine bS ?_ GE327.out|refine bS ?_ GE328.out)|exact HB.out)) hb);have n6_:=Ak (hbox);have n7_:=Kz hg HB;have n8_:=Kz hg HB;have n9_:=Kl hg BK319;have n10_:=Km hg BK319;have n11_:=Kl hg BK320;have n12_:=Km hg BK320;have n13_:=Kl hg BK321;have n14_:=Km hg BK321;have n15_:=Kl hg BK327;have n16_:=Km hg BK327;have n17_:=Kl hg BK328;have n18_:=Km hg BK328;clear BK319 BK320 BK321 BK327 BK328 HB;have BK319:=n0_;have BK320:=n1_;have BK321:=n2_;have BK327:=n3_;have BK328:=n4_;have HB:=n5_;have BK333:=n6_;have GW333:=n7_;have GE333:=n8_;have NB319_333:=n9_;have NB333_319:=n10_;have NB320_333:=n11_;have NB333_320:=n12_;have NB321_333:=n13_;have NB333_321:=n14_;have NB327_333:=n15_;have NB333_327:=n16_;have NB328_333:=n17_;have NB333_328:=n18_;clear n0_ n1_ n2_ n3_ n4_ n5_ n6_ n7_ n8_ n9_ n10_ n11_ n12_ n13_ n14_ n15_ n16_ n17_ n18_;clear hb hbox hg)|((with_reducible refine gate_dst (N:=10) rfl ?_);refine box_event ?hg (N:=10) ?hd (cs:=#[.int .u64 0,.int .u64 0]) (t:=25) ?hr ?_;(case hd => rfl);(case hg => rfl);(case hr => first|(go_simp;done)|(go_simp;rfl));intro gb334 hg w80 hbox hb;have n0_:=Kb BK319 hb;have n1_:=Kb BK320 hb;have n2_:=Kb BK321 hb;have n3_:=Kb BK327 hb;have n4_:=Kb BK328 hb;have n5_:=Kb BK333 hb;have n6_:=Ak (below_step (by repeat (first|(with_reducible first|exact HB.out|apply bA|apply bN|apply bD|refine bS ?_ GE319.out|refine bS ?_ GE320.out|refine bS ?_ GE321.out|refine bS ?_ GE327.out|refine bS ?_ GE328.out|refine bS ?_ GE333.out)|exact HB.out)) hb);have n7_:=Ak (hbox);have n8_:=Kz hg HB;have n9_:=Kz hg HB;have n10_:=Kl hg BK319;have n11_:=Km hg BK319;have n12_:=Kl hg BK320;have n13_:=Km hg BK320;have n14_:=Kl hg BK321;have n15_:=Km hg BK321;have n16_:=Kl hg BK327;have n17_:=Km hg BK327;have n18_:=Kl hg BK328;have n19_:=Km hg BK328;have n20_:=Kl hg BK333;have n21_:=Km hg BK333;clear BK319 BK320 BK321 BK327 BK328 BK333 HB;have BK319:=n0_;have BK320:=n1_;have BK321:=n2_;have BK327:=n3_;have BK328:=n4_;have BK333:=n5_;have HB:=n6_;have BK334:=n7_;have GW334:=n8_;have GE334:=n9_;have NB319_334:=n10_;have NB334_319:=n11_;have NB320_334:=n12_;have NB334_320:=n13_;have NB321_334:=n14_;have NB334_321:=n15_;have NB327_334:=n16_;have NB334_327:=n17_;have NB328_334:=n18_;have NB334_328:=n19_;have NB333_334:=n20_;have NB334_333:=n21_;clear n0_ n1_ n2_ n3_ n4_ n5_ n6_ n7_ n8_ n9_ n10_ n11_ n12_ n13_ n14_ n15_ n16_ n17_ n18_ n19_ n20_ n21_;clear hb hbox hg;have hnb81:=NB333_319.out;have hnc81:=NB319_333.out;have hnb82:=NB333_320.out;have hnc82:=NB320_333.out;have hnb83:=NB333_321.out;have hnc83:=NB321_333.out;have hnb84:=NB333_327.out;have hnc84:=NB327_333.out;have hnb85:=NB333_328.out;have hnc85:=NB328_333.out;have hnb86:=NB333_334.out;have hnc86:=NB334_333.out;have hcz87_0 : w80.cell? ⟨gb333,0,none⟩ = some (.int .u64 0):=(kC BK333.out 0).trans rfl;have hcz87_1 : w80.cell? ⟨gb333,1,none⟩ = some (.int .u64 0):=(kC BK333.out 1).trans rfl;have hfz87_0:=blk_frozen BK333.out 0;have hfz87_1:=blk_frozen BK333.out 1;have hnb88:=NB334_319.out;have hnc88:=NB319_334.out;have hnb89:=NB334_320.out;have hnc89:=NB320_334.out;have hnb90:=NB334_321.out;have hnc90:=NB321_334.out;have hnb91:=NB334_327.out;have hnc91:=NB327_334.out;have hnb92:=NB334_328.out;have hnc92:=NB328_334.out;have hcz93_0 : w80.cell? ⟨gb334,0,none⟩ = some (.int .u64 0):=(kC BK334.out 0).trans rfl;have hcz93_1 : w80.cell? ⟨gb334,1,none⟩ = some (.int .u64 0):=(kC BK334.out 1).trans rfl;have hfz93_0:=blk_frozen BK334.out 0;have hfz93_1:=blk_frozen BK334.out 1))
    have n0_ : Aside0 (((((w80.setCell ⟨gb333,0,none⟩ (.int .u64 t329)).setCell ⟨gb333,1,none⟩ (.int .u64 t330)).setCell ⟨gb334,0,none⟩ (.int .u64 t331)).setCell ⟨gb334,1,none⟩ (.int .u64 t332)).heap[gb319]? = some (.cells #[.int .i64 a0_0,.int .i64 a0_1,.int .i64 a0_2,.int .i64 a0_3] 35 (0,0))):=⟨by (with_reducible repeat (first|refine kN ?_ _|refine kD ?_|refine kA ?_ _));refine blk_far ?_ NB319_334.out _;(with_reducible repeat (first|refine kN ?_ _|refine kD ?_|refine kA ?_ _));refine blk_far ?_ NB319_334.out _;(with_reducible repeat (first|refine kN ?_ _|refine kD ?_|refine kA ?_ _));refine blk_far ?_ NB319_333.out _;(with_reducible repeat (first|refine kN ?_ _|refine kD ?_|refine kA ?_ _));refine blk_far ?_ NB319_333.out _;(with_reducible repeat (first|refine kN ?_ _|refine kD ?_|refine kA ?_ _));exact BK319.out⟩
    have n1_ : Aside0 (((((w80.setCell ⟨gb333,0,none⟩ (.int .u64 t329)).setCell ⟨gb333,1,none⟩ (.int .u64 t330)).setCell ⟨gb334,0,none⟩ (.int .u64 t331)).setCell ⟨gb334,1,none⟩ (.int .u64 t332)).heap[gb320]? = some (.cells #[.int .i64 a1_0,.int .i64 a1_1,.int .i64 a1_2,.int .i64 a1_3] 35 (0,0))):=⟨by (with_reducible repeat (first|refine kN ?_ _|refine kD ?_|refine kA ?_ _));refine blk_far ?_ NB320_334.out _;(with_reducible repeat (first|refine kN ?_ _|refine kD ?_|refine kA ?_ _));refine blk_far ?_ NB320_334.out _;(with_reducible repeat (first|refine kN ?_ _|refine kD ?_|refine kA ?_ _));refine blk_far ?_ NB320_333.out _;(with_reducible repeat (first|refine kN ?_ _|refine kD ?_|refine kA ?_ _));refine blk_far ?_ NB320_333.out _;(with_reducible repeat (first|refine kN ?_ _|refine kD ?_|refine kA ?_ _));exact BK320.out⟩
    have n2_ : Aside0 (((((w80.setCell ⟨gb333,0,none⟩ (.int .u64 t329)).setCell ⟨gb333,1,none⟩ (.int .u64 t330)).setCell ⟨gb334,0,none⟩ (.int .u64 t331)).setCell ⟨gb334,1,none⟩ (.int .u64 t332)).heap[gb321]? = some (.cells #[.int .i64 a2_0,.int .i64 a2_1,.int .i64 a2_2,.int .i64 a2_3] 35 (0,0))):=⟨by (with_reducible repeat (first|refine kN ?_ _|refine kD ?_|refine kA ?_ _));refine blk_far ?_ NB321_334.out _;(with_reducible repeat (first|refine kN ?_ _|refine kD ?_|refine kA ?_ _));refine blk_far ?_ NB321_334.out _;(with_reducible repeat (first|refine kN ?_ _|refine kD ?_|refine kA ?_ _));refine blk_far ?_ NB321_333.out _;(with_reducible repeat (first|refine kN ?_ _|refine kD ?_|refine kA ?_ _));refine blk_far ?_ NB321_333.out _;(with_reducible repeat (first|refine kN ?_ _|refine kD ?_|refine kA ?_ _));exact BK321.out⟩
    have n3_ : Aside0 (((((w80.setCell ⟨gb333,0,none⟩ (.int .u64 t329)).setCell ⟨gb333,1,none⟩ (.int .u64 t330)).setCell ⟨gb334,0,none⟩ (.int .u64 t331)).setCell ⟨gb334,1,none⟩ (.int .u64 t332)).heap[gb327]? = some (.cells #[.int .u64 t323,.int .u64 t324] 25 (0,0))):=⟨by (with_reducible repeat (first|refine kN ?_ _|refine kD ?_|refine kA ?_ _));refine blk_far ?_ NB327_334.out _;(with_reducible repeat (first|refine kN ?_ _|refine kD ?_|refine kA ?_ _));refine blk_far ?_ NB327_334.out _;(with_reducible repeat (first|refine kN ?_ _|refine kD ?_|refine kA ?_ _));refine blk_far ?_ NB327_333.out _;(with_reducible repeat (first|refine kN ?_ _|refine kD ?_|refine kA ?_ _));refine blk_far ?_ NB327_333.out _;(with_reducible repeat (first|refine kN ?_ _|refine kD ?_|refine kA ?_ _));exact BK327.out⟩
    have n4_ : Aside0 (((((w80.setCell ⟨gb333,0,none⟩ (.int .u64 t329)).setCell ⟨gb333,1,none⟩ (.int .u64 t330)).setCell ⟨gb334,0,none⟩ (.int .u64 t331)).setCell ⟨gb334,1,none⟩ (.int .u64 t332)).heap[gb328]? = some (.cells #[.int .u64 t325,.int .u64 t326] 25 (0,0))):=⟨by (with_reducible repeat (first|refine kN ?_ _|refine kD ?_|refine kA ?_ _));refine blk_far ?_ NB328_334.out _;(with_reducible repeat (first|refine kN ?_ _|refine kD ?_|refine kA ?_ _));refine blk_far ?_ NB328_334.out _;(with_reducible repeat (first|refine kN ?_ _|refine kD ?_|refine kA ?_ _));refine blk_far ?_ NB328_333.out _;(with_reducible repeat (first|refine kN ?_ _|refine kD ?_|refine kA ?_ _));refine blk_far ?_ NB328_333.out _;(with_reducible repeat (first|refine kN ?_ _|refine kD ?_|refine kA ?_ _));exact BK328.out⟩
    have n5_ : Aside0 (((((w80.setCell ⟨gb333,0,none⟩ (.int .u64 t329)).setCell ⟨gb333,1,none⟩ (.int .u64 t330)).setCell ⟨gb334,0,none⟩ (.int .u64 t331)).setCell ⟨gb334,1,none⟩ (.int .u64 t332)).heap[gb333]? = some (.cells #[.int .u64 t329,.int .u64 t330] 25 (0,0))):=⟨by (with_reducible repeat (first|refine kN ?_ _|refine kD ?_|refine kA ?_ _));refine blk_far ?_ NB333_334.out _;(with_reducible repeat (first|refine kN ?_ _|refine kD ?_|refine kA ?_ _));refine blk_far ?_ NB333_334.out _;(with_reducible repeat (first|refine kN ?_ _|refine kD ?_|refine kA ?_ _));refine blk_put (cs:=#[.int .u64 t329,.int .u64 0]) ?_ 1 _ rfl;(with_reducible repeat (first|refine kN ?_ _|refine kD ?_|refine kA ?_ _));refine blk_put (cs:=#[.int .u64 0,.int .u64 0]) ?_ 0 _ rfl;(with_reducible repeat (first|refine kN ?_ _|refine kD ?_|refine kA ?_ _));exact BK333.out⟩
    have n6_ : Aside0 (((((w80.setCell ⟨gb333,0,none⟩ (.int .u64 t329)).setCell ⟨gb333,1,none⟩ (.int .u64 t330)).setCell ⟨gb334,0,none⟩ (.int .u64 t331)).setCell ⟨gb334,1,none⟩ (.int .u64 t332)).heap[gb334]? = some (.cells #[.int .u64 t331,.int .u64 t332] 25 (0,0))):=⟨by (with_reducible repeat (first|refine kN ?_ _|refine kD ?_|refine kA ?_ _));refine blk_put (cs:=#[.int .u64 t331,.int .u64 0]) ?_ 1 _ rfl;(with_reducible repeat (first|refine kN ?_ _|refine kD ?_|refine kA ?_ _));refine blk_put (cs:=#[.int .u64 0,.int .u64 0]) ?_ 0 _ rfl;(with_reducible repeat (first|refine kN ?_ _|refine kD ?_|refine kA ?_ _));refine blk_far ?_ NB334_333.out _;(with_reducible repeat (first|refine kN ?_ _|refine kD ?_|refine kA ?_ _));refine blk_far ?_ NB334_333.out _;(with_reducible repeat (first|refine kN ?_ _|refine kD ?_|refine kA ?_ _));exact BK334.out⟩
    have n7_ : Aside0 (Below w.heap.size w ((((w80.setCell ⟨gb333,0,none⟩ (.int .u64 t329)).setCell ⟨gb333,1,none⟩ (.int .u64 t330)).setCell ⟨gb334,0,none⟩ (.int .u64 t331)).setCell ⟨gb334,1,none⟩ (.int .u64 t332))):=⟨by repeat (first|(with_reducible first|exact HB.out|apply bA|apply bN|apply bD|refine bS ?_ GE319.out|refine bS ?_ GE320.out|refine bS ?_ GE321.out|refine bS ?_ GE327.out|refine bS ?_ GE328.out|refine bS ?_ GE333.out|refine bS ?_ GE334.out)|exact HB.out)⟩
    (try clear BK319)
    (try clear BK320)
    (try clear BK321)
    (try clear BK327)
    (try clear BK328)
    (try clear BK333)
    (try clear BK334)
    (try clear HB)
    generalize ((((w80.setCell ⟨gb333,0,none⟩ (.int .u64 t329)).setCell ⟨gb333,1,none⟩ (.int .u64 t330)).setCell ⟨gb334,0,none⟩ (.int .u64 t331)).setCell ⟨gb334,1,none⟩ (.int .u64 t332)) = w94 at n0_ n1_ n2_ n3_ n4_ n5_ n6_ n7_ ⊢
    have BK319:=n0_;have BK320:=n1_;have BK321:=n2_;have BK327:=n3_;have BK328:=n4_;have BK333:=n5_;have BK334:=n6_;have HB:=n7_
    clear n0_ n1_ n2_ n3_ n4_ n5_ n6_ n7_
    have n0_:=Ak (kD BK319.out)
    have n1_:=Ak (kD BK320.out)
    have n2_:=Ak (kD BK321.out)
    have n3_:=Ak (kD BK327.out)
    have n4_:=Ak (kD BK328.out)
    have n5_:=Ak (kD BK333.out)
    have n6_:=Ak (kD BK334.out)
    have n7_:=Ak (bD HB.out)
    clear BK319 BK320 BK321 BK327 BK328 BK333 BK334 HB
    have BK319:=n0_;have BK320:=n1_;have BK321:=n2_;have BK327:=n3_;have BK328:=n4_;have BK333:=n5_;have BK334:=n6_;have HB:=n7_
    clear n0_ n1_ n2_ n3_ n4_ n5_ n6_ n7_
    refine start_ (n:=20) (S:=fun w' => w'.cell? ⟨gb327,0,none⟩ = some (.int .u64 t323)∧w'.cell? ⟨gb327,1,none⟩ = some (.int .u64 t324)∧w'.cell? ⟨gb333,0,none⟩ = some (.int .u64 t329)∧w'.cell? ⟨gb333,1,none⟩ = some (.int .u64 t330)∧w'.cell? ⟨gb328,0,none⟩ = some (.int .u64 t325)∧w'.cell? ⟨gb328,1,none⟩ = some (.int .u64 t326)∧w'.cell? ⟨gb334,0,none⟩ = some (.int .u64 t331)∧w'.cell? ⟨gb334,1,none⟩ = some (.int .u64 t332)) (ds:=[]) #[ff,ff,ff,ff,ff,ff,ff,ff,ff,ff,ff,ff,ff,ff,ff,ff,ff,ff,ff,ff] (by kernel_rfl) rfl rfl ⟨(kC BK327.out 0).trans rfl,(kC BK327.out 1).trans rfl,(kC BK333.out 0).trans rfl,(kC BK333.out 1).trans rfl,(kC BK328.out 0).trans rfl,(kC BK328.out 1).trans rfl,(kC BK334.out 0).trans rfl,(kC BK334.out 1).trans rfl⟩ (fun hHeld => ?_);refine with_tabW gazetteerlaw09_KeyGrows.tab5 gazetteerlaw09_KeyGrows.bits5 (fun HT_ HW_ => ?_)
    generalize w94.drew = w95 at BK319 BK320 BK321 BK327 BK328 BK333 BK334 HB hHeld ⊢
    refine take_ (i:=0) (N:=some 25) (v:=?_) (a':=?_) #[tt,ff,ff,ff,ff,ff,ff,ff,ff,ff,ff,ff,ff,ff,ff,ff,ff,ff,ff,ff] rfl rfl (take_ofW HT_.out HW_.out (by kernel_rfl)) (fun _ _ _ h => h) (Or.inl ⟨by rfl,?_⟩) hHeld ?_ ?_
    rotate_left
    ·rintro w' ⟨s0,s1,s2,s3,s4,s5,s6,s7⟩
     go_simp
     with_reducible rfl
    rotate_left
    ·simp only [Act.put,sA,sZ,sS,i64_w,i32_w]
     rfl
    refine take_ (i:=1) (N:=some 26) (v:=?_) (a':=?_) #[tt,tt,ff,ff,ff,ff,ff,ff,ff,ff,ff,ff,ff,ff,ff,ff,ff,ff,ff,ff] rfl rfl (take_ofW HT_.out HW_.out (by kernel_rfl)) (fun _ _ _ h => h) (Or.inl ⟨by rfl,?_⟩) hHeld ?_ ?_
    rotate_left
    ·rintro w' ⟨s0,s1,s2,s3,s4,s5,s6,s7⟩
     go_simp
     with_reducible rfl
    rotate_left
    ·simp only [Act.put,sA,sZ,sS,i64_w,i32_w]
     rfl
    refine pure_ (i:=2) (N:=some 27) (v:=?_) (a':=?_) #[tt,tt,tt,ff,ff,ff,ff,ff,ff,ff,ff,ff,ff,ff,ff,ff,ff,ff,ff,ff] rfl rfl (any_of HT_.out (by kernel_rfl)) (fun _ _ _ h => h) (Or.inl ⟨by rfl,?_⟩) ?_ ?_
    rotate_left
    ·intro w'
     go_simp
     with_reducible rfl
    rotate_left
    ·simp only [Act.put,sA,sZ,sS,i64_w,i32_w]
     rfl
    refine pure_ (i:=3) (N:=some 28) (v:=?_) (a':=?_) #[tt,tt,tt,tt,ff,ff,ff,ff,ff,ff,ff,ff,ff,ff,ff,ff,ff,ff,ff,ff] rfl rfl (any_of HT_.out (by kernel_rfl)) (fun _ _ _ h => h) (Or.inl ⟨by rfl,?_⟩) ?_ ?_
    rotate_left
    ·intro w'
     go_simp
     with_reducible rfl
    rotate_left
    ·simp only [Act.put,sA,sZ,sS,i64_w,i32_w]
     rfl
    refine take_ (i:=4) (N:=some 29) (v:=?_) (a':=?_) #[tt,tt,tt,tt,tt,ff,ff,ff,ff,ff,ff,ff,ff,ff,ff,ff,ff,ff,ff,ff] rfl rfl (take_ofW HT_.out HW_.out (by kernel_rfl)) (fun _ _ _ h => h) (Or.inl ⟨by rfl,?_⟩) hHeld ?_ ?_
    rotate_left
    ·rintro w' ⟨s0,s1,s2,s3,s4,s5,s6,s7⟩
     go_simp
     with_reducible rfl
    rotate_left
    ·simp only [Act.put,sA,sZ,sS,i64_w,i32_w]
     rfl
    refine take_ (i:=5) (N:=some 30) (v:=?_) (a':=?_) #[tt,tt,tt,tt,tt,tt,ff,ff,ff,ff,ff,ff,ff,ff,ff,ff,ff,ff,ff,ff] rfl rfl (take_ofW HT_.out HW_.out (by kernel_rfl)) (fun _ _ _ h => h) (Or.inl ⟨by rfl,?_⟩) hHeld ?_ ?_
    rotate_left
    ·rintro w' ⟨s0,s1,s2,s3,s4,s5,s6,s7⟩
     go_simp
     with_reducible rfl
    rotate_left
    ·simp only [Act.put,sA,sZ,sS,i64_w,i32_w]
     rfl
    refine pure_ (i:=6) (N:=some 31) (v:=?_) (a':=?_) #[tt,tt,tt,tt,tt,tt,tt,ff,ff,ff,ff,ff,ff,ff,ff,ff,ff,ff,ff,ff] rfl rfl (any_of HT_.out (by kernel_rfl)) (fun _ _ _ h => h) (Or.inl ⟨by rfl,?_⟩) ?_ ?_
    rotate_left
    ·intro w'
     go_simp
     with_reducible rfl
    rotate_left
    ·simp only [Act.put,sA,sZ,sS,i64_w,i32_w]
     rfl
    refine pure_ (i:=7) (N:=some 32) (v:=?_) (a':=?_) #[tt,tt,tt,tt,tt,tt,tt,tt,ff,ff,ff,ff,ff,ff,ff,ff,ff,ff,ff,ff] rfl rfl (any_of HT_.out (by kernel_rfl)) (fun _ _ _ h => h) (Or.inl ⟨by rfl,?_⟩) ?_ ?_
    rotate_left
    ·intro w'
     go_simp
     with_reducible rfl
    rotate_left
    ·simp only [Act.put,sA,sZ,sS,i64_w,i32_w]
     rfl
    refine pure_ (i:=8) (N:=some 33) (v:=?_) (a':=?_) #[tt,tt,tt,tt,tt,tt,tt,tt,tt,ff,ff,ff,ff,ff,ff,ff,ff,ff,ff,ff] rfl rfl (any_of HT_.out (by kernel_rfl)) (fun _ _ _ h => h) (Or.inl ⟨by rfl,?_⟩) ?_ ?_
    rotate_left
    ·intro w'
     go_simp
     with_reducible rfl
    rotate_left
    ·simp only [Act.put,sA,sZ,sS,i64_w,i32_w]
     rfl
    refine pure_ (i:=9) (N:=some 34) (v:=undef) (a':=?_) #[tt,tt,tt,tt,tt,tt,tt,tt,tt,tt,ff,ff,ff,ff,ff,ff,ff,ff,ff,ff] rfl rfl (any_of HT_.out (by kernel_rfl)) (fun _ _ _ h => h) (Or.inr ⟨by rfl,rfl⟩) ?_ ?_
    rotate_left
    ·simp only [Act.put,sA,sZ,sS,i64_w,i32_w]
     rfl
    refine pure_ (i:=10) (N:=some 35) (v:=undef) (a':=?_) #[tt,tt,tt,tt,tt,tt,tt,tt,tt,tt,tt,ff,ff,ff,ff,ff,ff,ff,ff,ff] rfl rfl (any_of HT_.out (by kernel_rfl)) (fun _ _ _ h => h) (Or.inr ⟨by rfl,rfl⟩) ?_ ?_
    rotate_left
    ·simp only [Act.put,sA,sZ,sS,i64_w,i32_w]
     rfl
    refine pure_ (i:=11) (N:=some 36) (v:=undef) (a':=?_) #[tt,tt,tt,tt,tt,tt,tt,tt,tt,tt,tt,tt,ff,ff,ff,ff,ff,ff,ff,ff] rfl rfl (any_of HT_.out (by kernel_rfl)) (fun _ _ _ h => h) (Or.inr ⟨by rfl,rfl⟩) ?_ ?_
    rotate_left
    ·simp only [Act.put,sA,sZ,sS,i64_w,i32_w]
     rfl
    refine pure_ (i:=12) (N:=some 37) (v:=undef) (a':=?_) #[tt,tt,tt,tt,tt,tt,tt,tt,tt,tt,tt,tt,tt,ff,ff,ff,ff,ff,ff,ff] rfl rfl (any_of HT_.out (by kernel_rfl)) (fun _ _ _ h => h) (Or.inr ⟨by rfl,rfl⟩) ?_ ?_
    rotate_left
    ·simp only [Act.put,sA,sZ,sS,i64_w,i32_w]
     rfl
    refine pure_ (i:=13) (N:=some 38) (v:=undef) (a':=?_) #[tt,tt,tt,tt,tt,tt,tt,tt,tt,tt,tt,tt,tt,tt,ff,ff,ff,ff,ff,ff] rfl rfl (any_of HT_.out (by kernel_rfl)) (fun _ _ _ h => h) (Or.inr ⟨by rfl,rfl⟩) ?_ ?_
    rotate_left
    ·simp only [Act.put,sA,sZ,sS,i64_w,i32_w]
     rfl
    refine pure_ (i:=14) (N:=some 39) (v:=undef) (a':=?_) #[tt,tt,tt,tt,tt,tt,tt,tt,tt,tt,tt,tt,tt,tt,tt,ff,ff,ff,ff,ff] rfl rfl (any_of HT_.out (by kernel_rfl)) (fun _ _ _ h => h) (Or.inr ⟨by rfl,rfl⟩) ?_ ?_
    rotate_left
    ·simp only [Act.put,sA,sZ,sS,i64_w,i32_w]
     rfl
    refine pure_ (i:=15) (N:=some 40) (v:=undef) (a':=?_) #[tt,tt,tt,tt,tt,tt,tt,tt,tt,tt,tt,tt,tt,tt,tt,tt,ff,ff,ff,ff] rfl rfl (any_of HT_.out (by kernel_rfl)) (fun _ _ _ h => h) (Or.inr ⟨by rfl,rfl⟩) ?_ ?_
    rotate_left
    ·simp only [Act.put,sA,sZ,sS,i64_w,i32_w]
     rfl
    refine pure_ (i:=16) (N:=some 41) (v:=undef) (a':=?_) #[tt,tt,tt,tt,tt,tt,tt,tt,tt,tt,tt,tt,tt,tt,tt,tt,tt,ff,ff,ff] rfl rfl (any_of HT_.out (by kernel_rfl)) (fun _ _ _ h => h) (Or.inr ⟨by rfl,rfl⟩) ?_ ?_
    rotate_left
    ·simp only [Act.put,sA,sZ,sS,i64_w,i32_w]
     rfl
    refine pure_ (i:=17) (N:=some 42) (v:=undef) (a':=?_) #[tt,tt,tt,tt,tt,tt,tt,tt,tt,tt,tt,tt,tt,tt,tt,tt,tt,tt,ff,ff] rfl rfl (any_of HT_.out (by kernel_rfl)) (fun _ _ _ h => h) (Or.inr ⟨by rfl,rfl⟩) ?_ ?_
    rotate_left
    ·simp only [Act.put,sA,sZ,sS,i64_w,i32_w]
     rfl
    refine pure_ (i:=18) (N:=some 43) (v:=?_) (a':=?_) #[tt,tt,tt,tt,tt,tt,tt,tt,tt,tt,tt,tt,tt,tt,tt,tt,tt,tt,tt,ff] rfl rfl (any_of HT_.out (by kernel_rfl)) (fun _ _ _ h => h) (Or.inl ⟨by rfl,?_⟩) ?_ ?_
    rotate_left
    ·intro w'
     go_simp
     with_reducible rfl
    rotate_left
    ·simp only [Act.put,sA,sZ,sS,i64_w,i32_w]
     rfl
    refine pure_ (i:=19) (N:=some 6) (v:=?_) (a':=?_) #[tt,tt,tt,tt,tt,tt,tt,tt,tt,tt,tt,tt,tt,tt,tt,tt,tt,tt,tt,tt] rfl rfl (any_of HT_.out (by kernel_rfl)) (fun _ _ _ h => h) (Or.inl ⟨by rfl,?_⟩) ?_ ?_
    rotate_left
    ·intro w'
     go_simp
     with_reducible rfl
    rotate_left
    ·simp only [Act.put,sA,sZ,sS,i64_w,i32_w]
     rfl
    refine done_ (done_of HT_.out (by kernel_rfl)) ?_
    try go_wp2
    go_ret
    exact ⟨by first|rfl|(simp [errW_none,errW_some] <;> rfl)|(simp [*,errW_none,errW_some] <;> rfl),by repeat (first|(with_reducible first|exact HB.out|apply bA|apply bN|apply bD|refine bS ?_ GE319.out|refine bS ?_ GE320.out|refine bS ?_ GE321.out|refine bS ?_ GE327.out|refine bS ?_ GE328.out|refine bS ?_ GE333.out|refine bS ?_ GE334.out)|exact HB.out)⟩
  ·rw [if_neg c8] at H
   have c8b0 : (t323 == t329 && (t324 == t330)) = false:=by simpa using c8
   (try (have c8b1 : decide (t323 = t329 && (t324 == t330)) = false:=by simpa using c8))
   (try (have c8b2 : (t323 == t329 && (t324 == t330)) = false:=by simpa using c8))
   (try (have c8b3 : ¬ (t323 = t329 && (t324 == t330)):=by simpa using c8))
   clear c8
   obtain rfl:=Option.some.inj H
   go_enter Try.func12,Try.ntmps12
   try go_wp2_with (first|((with_reducible refine gate_dst (N:=3) rfl ?_);refine box_event ?hg (N:=3) ?hd (cs:=#[.int .i64 a0_0,.int .i64 a0_1,.int .i64 a0_2,.int .i64 a0_3]) (t:=35) ?hr ?_;(case hd => rfl);(case hg => rfl);(case hr => first|(go_simp;done)|(go_simp;rfl));intro gb319 hg w96 hbox hb;have n0_:=Ak (below_step (by repeat (first|(with_reducible first|exact HB.out|apply bA|apply bN|apply bD)|exact HB.out)) hb);have n1_:=Ak (hbox);have n2_:=Kz hg HB;have n3_:=Kz hg HB;clear HB;have HB:=n0_;have BK319:=n1_;have GW319:=n2_;have GE319:=n3_;clear n0_ n1_ n2_ n3_;clear hb hbox hg)|((with_reducible refine gate_dst (N:=4) rfl ?_);refine box_event ?hg (N:=4) ?hd (cs:=#[.int .i64 a1_0,.int .i64 a1_1,.int .i64 a1_2,.int .i64 a1_3]) (t:=35) ?hr ?_;(case hd => rfl);(case hg => rfl);(case hr => first|(go_simp;done)|(go_simp;rfl));intro gb320 hg w97 hbox hb;have n0_:=Kb BK319 hb;have n1_:=Ak (below_step (by repeat (first|(with_reducible first|exact HB.out|apply bA|apply bN|apply bD|refine bS ?_ GE319.out)|exact HB.out)) hb);have n2_:=Ak (hbox);have n3_:=Kz hg HB;have n4_:=Kz hg HB;have n5_:=Kl hg BK319;have n6_:=Km hg BK319;clear BK319 HB;have BK319:=n0_;have HB:=n1_;have BK320:=n2_;have GW320:=n3_;have GE320:=n4_;have NB319_320:=n5_;have NB320_319:=n6_;clear n0_ n1_ n2_ n3_ n4_ n5_ n6_;clear hb hbox hg)|((with_reducible refine gate_dst (N:=5) rfl ?_);refine box_event ?hg (N:=5) ?hd (cs:=#[.int .i64 a2_0,.int .i64 a2_1,.int .i64 a2_2,.int .i64 a2_3]) (t:=35) ?hr ?_;(case hd => rfl);(case hg => rfl);(case hr => first|(go_simp;done)|(go_simp;rfl));intro gb321 hg w98 hbox hb;have n0_:=Kb BK319 hb;have n1_:=Kb BK320 hb;have n2_:=Ak (below_step (by repeat (first|(with_reducible first|exact HB.out|apply bA|apply bN|apply bD|refine bS ?_ GE319.out|refine bS ?_ GE320.out)|exact HB.out)) hb);have n3_:=Ak (hbox);have n4_:=Kz hg HB;have n5_:=Kz hg HB;have n6_:=Kl hg BK319;have n7_:=Km hg BK319;have n8_:=Kl hg BK320;have n9_:=Km hg BK320;clear BK319 BK320 HB;have BK319:=n0_;have BK320:=n1_;have HB:=n2_;have BK321:=n3_;have GW321:=n4_;have GE321:=n5_;have NB319_321:=n6_;have NB321_319:=n7_;have NB320_321:=n8_;have NB321_320:=n9_;clear n0_ n1_ n2_ n3_ n4_ n5_ n6_ n7_ n8_ n9_;clear hb hbox hg)|((with_reducible refine gate_callee (f:=32) rfl ?_);refine goesL_ (some 11) rfl rfl Try.func32 (by kernel_rfl) rfl #[] rfl (by (try simp only [List.map_toArray,List.map_cons,List.map_nil]);first|done|rfl|(simp only [List.length_drop,List.length_take];rfl)) ?_;(with_reducible refine (gazetteerlaw09_wakes.calls k  true _ A4.out).mono ?_);rintro e w99 ⟨rfl,hb⟩;refine ⟨_,rfl,?_⟩;have n0_:=Kb BK319 hb;have n1_:=Kb BK320 hb;have n2_:=Kb BK321 hb;have n3_:=Ak (below_step (by repeat (first|(with_reducible first|exact HB.out|apply bA|apply bN|apply bD|refine bS ?_ GE319.out|refine bS ?_ GE320.out|refine bS ?_ GE321.out)|exact HB.out)) hb);clear BK319 BK320 BK321 HB;have BK319:=n0_;have BK320:=n1_;have BK321:=n2_;have HB:=n3_;clear n0_ n1_ n2_ n3_;(try clear hb);(try clear hb2);(try clear hk);(try clear hi);have hnb100:=NB319_320.out;have hnc100:=NB320_319.out;have hnb101:=NB319_321.out;have hnc101:=NB321_319.out;have hcz102_0 : w99.cell? ⟨gb319,0,none⟩ = some (.int .i64 a0_0):=(kC BK319.out 0).trans rfl;have hcz102_1 : w99.cell? ⟨gb319,1,none⟩ = some (.int .i64 a0_1):=(kC BK319.out 1).trans rfl;have hcz102_2 : w99.cell? ⟨gb319,2,none⟩ = some (.int .i64 a0_2):=(kC BK319.out 2).trans rfl;have hcz102_3 : w99.cell? ⟨gb319,3,none⟩ = some (.int .i64 a0_3):=(kC BK319.out 3).trans rfl;have hfz102_0:=blk_frozen BK319.out 0;have hfz102_1:=blk_frozen BK319.out 1;have hfz102_2:=blk_frozen BK319.out 2;have hfz102_3:=blk_frozen BK319.out 3;have hnb103:=NB321_320.out;have hnc103:=NB320_321.out;have hcz104_0 : w99.cell? ⟨gb321,0,none⟩ = some (.int .i64 a2_0):=(kC BK321.out 0).trans rfl;have hcz104_1 : w99.cell? ⟨gb321,1,none⟩ = some (.int .i64 a2_1):=(kC BK321.out 1).trans rfl;have hcz104_2 : w99.cell? ⟨gb321,2,none⟩ = some (.int .i64 a2_2):=(kC BK321.out 2).trans rfl;have hcz104_3 : w99.cell? ⟨gb321,3,none⟩ = some (.int .i64 a2_3):=(kC BK321.out 3).trans rfl;have hfz104_0:=blk_frozen BK321.out 0;have hfz104_1:=blk_frozen BK321.out 1;have hfz104_2:=blk_frozen BK321.out 2;have hfz104_3:=blk_frozen BK321.out 3)|((with_reducible refine gate_callee (f:=36) rfl ?_);refine goesL_ (some 16) rfl rfl Try.func36 (by kernel_rfl) rfl #[.agg #[.int .i64 a0_0,.int .i64 a0_1,.int .i64 a0_2,.int .i64 a0_3],.agg #[.int .i64 a2_0,.int .i64 a2_1,.int .i64 a2_2,.int .i64 a2_3]] rfl (by (try simp only [List.map_toArray,List.map_cons,List.map_nil]);first|done|rfl|(simp only [List.length_drop,List.length_take];rfl)) ?_;(with_reducible refine (key_Grows.calls a0_0 a0_1 a0_2 a0_3 a2_0 a2_1 a2_2 a2_3 t323 t324 t325 t326 _ A6.out).mono ?_);rintro e w105 ⟨rfl,hb⟩;refine ⟨_,rfl,?_⟩;have n0_:=Kb BK319 hb;have n1_:=Kb BK320 hb;have n2_:=Kb BK321 hb;have n3_:=Ak (below_step (by repeat (first|(with_reducible first|exact HB.out|apply bA|apply bN|apply bD|refine bS ?_ GE319.out|refine bS ?_ GE320.out|refine bS ?_ GE321.out)|exact HB.out)) hb);clear BK319 BK320 BK321 HB;have BK319:=n0_;have BK320:=n1_;have BK321:=n2_;have HB:=n3_;clear n0_ n1_ n2_ n3_;(try clear hb);(try clear hb2);(try clear hk);(try clear hi))|((with_reducible refine gate_dst (N:=7) rfl ?_);refine box_event ?hg (N:=7) ?hd (cs:=#[.int .u64 0,.int .u64 0]) (t:=25) ?hr ?_;(case hd => rfl);(case hg => rfl);(case hr => first|(go_simp;done)|(go_simp;rfl));intro gb327 hg w106 hbox hb;have n0_:=Kb BK319 hb;have n1_:=Kb BK320 hb;have n2_:=Kb BK321 hb;have n3_:=Ak (below_step (by repeat (first|(with_reducible first|exact HB.out|apply bA|apply bN|apply bD|refine bS ?_ GE319.out|refine bS ?_ GE320.out|refine bS ?_ GE321.out)|exact HB.out)) hb);have n4_:=Ak (hbox);have n5_:=Kz hg HB;have n6_:=Kz hg HB;have n7_:=Kl hg BK319;have n8_:=Km hg BK319;have n9_:=Kl hg BK320;have n10_:=Km hg BK320;have n11_:=Kl hg BK321;have n12_:=Km hg BK321;clear BK319 BK320 BK321 HB;have BK319:=n0_;have BK320:=n1_;have BK321:=n2_;have HB:=n3_;have BK327:=n4_;have GW327:=n5_;have GE327:=n6_;have NB319_327:=n7_;have NB327_319:=n8_;have NB320_327:=n9_;have NB327_320:=n10_;have NB321_327:=n11_;have NB327_321:=n12_;clear n0_ n1_ n2_ n3_ n4_ n5_ n6_ n7_ n8_ n9_ n10_ n11_ n12_;clear hb hbox hg)|((with_reducible refine gate_dst (N:=8) rfl ?_);refine box_event ?hg (N:=8) ?hd (cs:=#[.int .u64 0,.int .u64 0]) (t:=25) ?hr ?_;(case hd => rfl);(case hg => rfl);(case hr => first|(go_simp;done)|(go_simp;rfl));intro gb328 hg w107 hbox hb;have n0_:=Kb BK319 hb;have n1_:=Kb BK320 hb;have n2_:=Kb BK321 hb;have n3_:=Kb BK327 hb;have n4_:=Ak (below_step (by repeat (first|(with_reducible first|exact HB.out|apply bA|apply bN|apply bD|refine bS ?_ GE319.out|refine bS ?_ GE320.out|refine bS ?_ GE321.out|refine bS ?_ GE327.out)|exact HB.out)) hb);have n5_:=Ak (hbox);have n6_:=Kz hg HB;have n7_:=Kz hg HB;have n8_:=Kl hg BK319;have n9_:=Km hg BK319;have n10_:=Kl hg BK320;have n11_:=Km hg BK320;have n12_:=Kl hg BK321;have n13_:=Km hg BK321;have n14_:=Kl hg BK327;have n15_:=Km hg BK327;clear BK319 BK320 BK321 BK327 HB;have BK319:=n0_;have BK320:=n1_;have BK321:=n2_;have BK327:=n3_;have HB:=n4_;have BK328:=n5_;have GW328:=n6_;have GE328:=n7_;have NB319_328:=n8_;have NB328_319:=n9_;have NB320_328:=n10_;have NB328_320:=n11_;have NB321_328:=n12_;have NB328_321:=n13_;have NB327_328:=n14_;have NB328_327:=n15_;clear n0_ n1_ n2_ n3_ n4_ n5_ n6_ n7_ n8_ n9_ n10_ n11_ n12_ n13_ n14_ n15_;clear hb hbox hg;have hnb108:=NB327_319.out;have hnc108:=NB319_327.out;have hnb109:=NB327_320.out;have hnc109:=NB320_327.out;have hnb110:=NB327_321.out;have hnc110:=NB321_327.out;have hnb111:=NB327_328.out;have hnc111:=NB328_327.out;have hcz112_0 : w107.cell? ⟨gb327,0,none⟩ = some (.int .u64 0):=(kC BK327.out 0).trans rfl;have hcz112_1 : w107.cell? ⟨gb327,1,none⟩ = some (.int .u64 0):=(kC BK327.out 1).trans rfl;have hfz112_0:=blk_frozen BK327.out 0;have hfz112_1:=blk_frozen BK327.out 1;have hnb113:=NB328_319.out;have hnc113:=NB319_328.out;have hnb114:=NB328_320.out;have hnc114:=NB320_328.out;have hnb115:=NB328_321.out;have hnc115:=NB321_328.out;have hcz116_0 : w107.cell? ⟨gb328,0,none⟩ = some (.int .u64 0):=(kC BK328.out 0).trans rfl;have hcz116_1 : w107.cell? ⟨gb328,1,none⟩ = some (.int .u64 0):=(kC BK328.out 1).trans rfl;have hfz116_0:=blk_frozen BK328.out 0;have hfz116_1:=blk_frozen BK328.out 1;have hcz117_0 : w107.cell? ⟨gb319,0,none⟩ = some (.int .i64 a0_0):=(kC BK319.out 0).trans rfl;have hcz117_1 : w107.cell? ⟨gb319,1,none⟩ = some (.int .i64 a0_1):=(kC BK319.out 1).trans rfl;have hcz117_2 : w107.cell? ⟨gb319,2,none⟩ = some (.int .i64 a0_2):=(kC BK319.out 2).trans rfl;have hcz117_3 : w107.cell? ⟨gb319,3,none⟩ = some (.int .i64 a0_3):=(kC BK319.out 3).trans rfl;have hfz117_0:=blk_frozen BK319.out 0;have hfz117_1:=blk_frozen BK319.out 1;have hfz117_2:=blk_frozen BK319.out 2;have hfz117_3:=blk_frozen BK319.out 3;have hcz118_0 : w107.cell? ⟨gb321,0,none⟩ = some (.int .i64 a2_0):=(kC BK321.out 0).trans rfl;have hcz118_1 : w107.cell? ⟨gb321,1,none⟩ = some (.int .i64 a2_1):=(kC BK321.out 1).trans rfl;have hcz118_2 : w107.cell? ⟨gb321,2,none⟩ = some (.int .i64 a2_2):=(kC BK321.out 2).trans rfl;have hcz118_3 : w107.cell? ⟨gb321,3,none⟩ = some (.int .i64 a2_3):=(kC BK321.out 3).trans rfl;have hfz118_0:=blk_frozen BK321.out 0;have hfz118_1:=blk_frozen BK321.out 1;have hfz118_2:=blk_frozen BK321.out 2;have hfz118_3:=blk_frozen BK321.out 3)|((with_reducible refine gate_callee (f:=37) rfl ?_);refine goesL_ (some 22) rfl rfl Try.func37 (by kernel_rfl) rfl #[.agg #[.int .i64 a0_0,.int .i64 a0_1,.int .i64 a0_2,.int .i64 a0_3],.agg #[.int .i64 a2_0,.int .i64 a2_1,.int .i64 a2_2,.int .i64 a2_3]] rfl (by (try simp only [List.map_toArray,List.map_cons,List.map_nil]);first|done|rfl|(simp only [List.length_drop,List.length_take];rfl)) ?_;(with_reducible refine (gazetteerref09_Grows.calls k a0_0 a0_1 a0_2 a0_3 a2_0 a2_1 a2_2 a2_3 t329 t330 t331 t332 _ A7.out).mono ?_);rintro e w119 ⟨rfl,hb⟩;refine ⟨_,rfl,?_⟩;have n0_:=Ak (kB (g:=gb319) (o:=.cells #[.int .i64 a0_0,.int .i64 a0_1,.int .i64 a0_2,.int .i64 a0_3] 35 (0,0)) (by (with_reducible repeat (first|refine kN ?_ _|refine kD ?_|refine kA ?_ _));refine blk_far ?_ NB319_328.out _;(with_reducible repeat (first|refine kN ?_ _|refine kD ?_|refine kA ?_ _));refine blk_far ?_ NB319_328.out _;(with_reducible repeat (first|refine kN ?_ _|refine kD ?_|refine kA ?_ _));refine blk_far ?_ NB319_327.out _;(with_reducible repeat (first|refine kN ?_ _|refine kD ?_|refine kA ?_ _));refine blk_far ?_ NB319_327.out _;(with_reducible repeat (first|refine kN ?_ _|refine kD ?_|refine kA ?_ _));exact BK319.out) hb);have n1_:=Ak (kB (g:=gb320) (o:=.cells #[.int .i64 a1_0,.int .i64 a1_1,.int .i64 a1_2,.int .i64 a1_3] 35 (0,0)) (by (with_reducible repeat (first|refine kN ?_ _|refine kD ?_|refine kA ?_ _));refine blk_far ?_ NB320_328.out _;(with_reducible repeat (first|refine kN ?_ _|refine kD ?_|refine kA ?_ _));refine blk_far ?_ NB320_328.out _;(with_reducible repeat (first|refine kN ?_ _|refine kD ?_|refine kA ?_ _));refine blk_far ?_ NB320_327.out _;(with_reducible repeat (first|refine kN ?_ _|refine kD ?_|refine kA ?_ _));refine blk_far ?_ NB320_327.out _;(with_reducible repeat (first|refine kN ?_ _|refine kD ?_|refine kA ?_ _));exact BK320.out) hb);have n2_:=Ak (kB (g:=gb321) (o:=.cells #[.int .i64 a2_0,.int .i64 a2_1,.int .i64 a2_2,.int .i64 a2_3] 35 (0,0)) (by (with_reducible repeat (first|refine kN ?_ _|refine kD ?_|refine kA ?_ _));refine blk_far ?_ NB321_328.out _;(with_reducible repeat (first|refine kN ?_ _|refine kD ?_|refine kA ?_ _));refine blk_far ?_ NB321_328.out _;(with_reducible repeat (first|refine kN ?_ _|refine kD ?_|refine kA ?_ _));refine blk_far ?_ NB321_327.out _;(with_reducible repeat (first|refine kN ?_ _|refine kD ?_|refine kA ?_ _));refine blk_far ?_ NB321_327.out _;(with_reducible repeat (first|refine kN ?_ _|refine kD ?_|refine kA ?_ _));exact BK321.out) hb);have n3_:=Ak (kB (g:=gb327) (o:=.cells #[.int .u64 t323,.int .u64 t324] 25 (0,0)) (by (with_reducible repeat (first|refine kN ?_ _|refine kD ?_|refine kA ?_ _));refine blk_far ?_ NB327_328.out _;(with_reducible repeat (first|refine kN ?_ _|refine kD ?_|refine kA ?_ _));refine blk_far ?_ NB327_328.out _;(with_reducible repeat (first|refine kN ?_ _|refine kD ?_|refine kA ?_ _));refine blk_put (cs:=#[.int .u64 t323,.int .u64 0]) ?_ 1 _ rfl;(with_reducible repeat (first|refine kN ?_ _|refine kD ?_|refine kA ?_ _));refine blk_put (cs:=#[.int .u64 0,.int .u64 0]) ?_ 0 _ rfl;(with_reducible repeat (first|refine kN ?_ _|refine kD ?_|refine kA ?_ _));exact BK327.out) hb);have n4_:=Ak (kB (g:=gb328) (o:=.cells #[.int .u64 t325,.int .u64 t326] 25 (0,0)) (by (with_reducible repeat (first|refine kN ?_ _|refine kD ?_|refine kA ?_ _));refine blk_put (cs:=#[.int .u64 t325,.int .u64 0]) ?_ 1 _ rfl;(with_reducible repeat (first|refine kN ?_ _|refine kD ?_|refine kA ?_ _));refine blk_put (cs:=#[.int .u64 0,.int .u64 0]) ?_ 0 _ rfl;(with_reducible repeat (first|refine kN ?_ _|refine kD ?_|refine kA ?_ _));refine blk_far ?_ NB328_327.out _;(with_reducible repeat (first|refine kN ?_ _|refine kD ?_|refine kA ?_ _));refine blk_far ?_ NB328_327.out _;(with_reducible repeat (first|refine kN ?_ _|refine kD ?_|refine kA ?_ _));exact BK328.out) hb);have n5_:=Ak (below_step (by repeat (first|(with_reducible first|exact HB.out|apply bA|apply bN|apply bD|refine bS ?_ GE319.out|refine bS ?_ GE320.out|refine bS ?_ GE321.out|refine bS ?_ GE327.out|refine bS ?_ GE328.out)|exact HB.out)) hb);clear BK319 BK320 BK321 BK327 BK328 HB;have BK319:=n0_;have BK320:=n1_;have BK321:=n2_;have BK327:=n3_;have BK328:=n4_;have HB:=n5_;clear n0_ n1_ n2_ n3_ n4_ n5_;(try clear hb);(try clear hb2);(try clear hk);(try clear hi))|((with_reducible refine gate_dst (N:=9) rfl ?_);refine box_event ?hg (N:=9) ?hd (cs:=#[.int .u64 0,.int .u64 0]) (t:=25) ?hr ?_;(case hd => rfl);(case hg => rfl);(case hr => first|(go_simp;done)|(go_simp;rfl));intro gb333 hg w120 hbox hb;have n0_:=Kb BK319 hb;have n1_:=Kb BK320 hb;have n2_:=Kb BK321 hb;have n3_:=Kb BK327 hb;have n4_:=Kb BK328 hb;have n5_:=Ak (below_step (by repeat (first|(with_reducible first|exact HB.out|apply bA|apply bN|apply bD|refine bS ?_ GE319.out|refine bS ?_ GE320.out|refine bS ?_ GE321.out|refine bS ?_ GE327.out|refine bS ?_ GE328.out)|exact HB.out)) hb);have n6_:=Ak (hbox);have n7_:=Kz hg HB;have n8_:=Kz hg HB;have n9_:=Kl hg BK319;have n10_:=Km hg BK319;have n11_:=Kl hg BK320;have n12_:=Km hg BK320;have n13_:=Kl hg BK321;have n14_:=Km hg BK321;have n15_:=Kl hg BK327;have n16_:=Km hg BK327;have n17_:=Kl hg BK328;have n18_:=Km hg BK328;clear BK319 BK320 BK321 BK327 BK328 HB;have BK319:=n0_;have BK320:=n1_;have BK321:=n2_;have BK327:=n3_;have BK328:=n4_;have HB:=n5_;have BK333:=n6_;have GW333:=n7_;have GE333:=n8_;have NB319_333:=n9_;have NB333_319:=n10_;have NB320_333:=n11_;have NB333_320:=n12_;have NB321_333:=n13_;have NB333_321:=n14_;have NB327_333:=n15_;have NB333_327:=n16_;have NB328_333:=n17_;have NB333_328:=n18_;clear n0_ n1_ n2_ n3_ n4_ n5_ n6_ n7_ n8_ n9_ n10_ n11_ n12_ n13_ n14_ n15_ n16_ n17_ n18_;clear hb hbox hg)|((with_reducible refine gate_dst (N:=10) rfl ?_);refine box_event ?hg (N:=10) ?hd (cs:=#[.int .u64 0,.int .u64 0]) (t:=25) ?hr ?_;(case hd => rfl);(case hg => rfl);(case hr => first|(go_simp;done)|(go_simp;rfl));intro gb334 hg w121 hbox hb;have n0_:=Kb BK319 hb;have n1_:=Kb BK320 hb;have n2_:=Kb BK321 hb;have n3_:=Kb BK327 hb;have n4_:=Kb BK328 hb;have n5_:=Kb BK333 hb;have n6_:=Ak (below_step (by repeat (first|(with_reducible first|exact HB.out|apply bA|apply bN|apply bD|refine bS ?_ GE319.out|refine bS ?_ GE320.out|refine bS ?_ GE321.out|refine bS ?_ GE327.out|refine bS ?_ GE328.out|refine bS ?_ GE333.out)|exact HB.out)) hb);have n7_:=Ak (hbox);have n8_:=Kz hg HB;have n9_:=Kz hg HB;have n10_:=Kl hg BK319;have n11_:=Km hg BK319;have n12_:=Kl hg BK320;have n13_:=Km hg BK320;have n14_:=Kl hg BK321;have n15_:=Km hg BK321;have n16_:=Kl hg BK327;have n17_:=Km hg BK327;have n18_:=Kl hg BK328;have n19_:=Km hg BK328;have n20_:=Kl hg BK333;have n21_:=Km hg BK333;clear BK319 BK320 BK321 BK327 BK328 BK333 HB;have BK319:=n0_;have BK320:=n1_;have BK321:=n2_;have BK327:=n3_;have BK328:=n4_;have BK333:=n5_;have HB:=n6_;have BK334:=n7_;have GW334:=n8_;have GE334:=n9_;have NB319_334:=n10_;have NB334_319:=n11_;have NB320_334:=n12_;have NB334_320:=n13_;have NB321_334:=n14_;have NB334_321:=n15_;have NB327_334:=n16_;have NB334_327:=n17_;have NB328_334:=n18_;have NB334_328:=n19_;have NB333_334:=n20_;have NB334_333:=n21_;clear n0_ n1_ n2_ n3_ n4_ n5_ n6_ n7_ n8_ n9_ n10_ n11_ n12_ n13_ n14_ n15_ n16_ n17_ n18_ n19_ n20_ n21_;clear hb hbox hg;have hnb122:=NB333_319.out;have hnc122:=NB319_333.out;have hnb123:=NB333_320.out;have hnc123:=NB320_333.out;have hnb124:=NB333_321.out;have hnc124:=NB321_333.out;have hnb125:=NB333_327.out;have hnc125:=NB327_333.out;have hnb126:=NB333_328.out;have hnc126:=NB328_333.out;have hnb127:=NB333_334.out;have hnc127:=NB334_333.out;have hcz128_0 : w121.cell? ⟨gb333,0,none⟩ = some (.int .u64 0):=(kC BK333.out 0).trans rfl;have hcz128_1 : w121.cell? ⟨gb333,1,none⟩ = some (.int .u64 0):=(kC BK333.out 1).trans rfl;have hfz128_0:=blk_frozen BK333.out 0;have hfz128_1:=blk_frozen BK333.out 1;have hnb129:=NB334_319.out;have hnc129:=NB319_334.out;have hnb130:=NB334_320.out;have hnc130:=NB320_334.out;have hnb131:=NB334_321.out;have hnc131:=NB321_334.out;have hnb132:=NB334_327.out;have hnc132:=NB327_334.out;have hnb133:=NB334_328.out;have hnc133:=NB328_334.out;have hcz134_0 : w121.cell? ⟨gb334,0,none⟩ = some (.int .u64 0):=(kC BK334.out 0).trans rfl;have hcz134_1 : w121.cell? ⟨gb334,1,none⟩ = some (.int .u64 0):=(kC BK334.out 1).trans rfl;have hfz134_0:=blk_frozen BK334.out 0;have hfz134_1:=blk_frozen BK334.out 1))
   have n0_ : Aside0 (((((w121.setCell ⟨gb333,0,none⟩ (.int .u64 t329)).setCell ⟨gb333,1,none⟩ (.int .u64 t330)).setCell ⟨gb334,0,none⟩ (.int .u64 t331)).setCell ⟨gb334,1,none⟩ (.int .u64 t332)).heap[gb319]? = some (.cells #[.int .i64 a0_0,.int .i64 a0_1,.int .i64 a0_2,.int .i64 a0_3] 35 (0,0))):=⟨by (with_reducible repeat (first|refine kN ?_ _|refine kD ?_|refine kA ?_ _));refine blk_far ?_ NB319_334.out _;(with_reducible repeat (first|refine kN ?_ _|refine kD ?_|refine kA ?_ _));refine blk_far ?_ NB319_334.out _;(with_reducible repeat (first|refine kN ?_ _|refine kD ?_|refine kA ?_ _));refine blk_far ?_ NB319_333.out _;(with_reducible repeat (first|refine kN ?_ _|refine kD ?_|refine kA ?_ _));refine blk_far ?_ NB319_333.out _;(with_reducible repeat (first|refine kN ?_ _|refine kD ?_|refine kA ?_ _));exact BK319.out⟩
   have n1_ : Aside0 (((((w121.setCell ⟨gb333,0,none⟩ (.int .u64 t329)).setCell ⟨gb333,1,none⟩ (.int .u64 t330)).setCell ⟨gb334,0,none⟩ (.int .u64 t331)).setCell ⟨gb334,1,none⟩ (.int .u64 t332)).heap[gb320]? = some (.cells #[.int .i64 a1_0,.int .i64 a1_1,.int .i64 a1_2,.int .i64 a1_3] 35 (0,0))):=⟨by (with_reducible repeat (first|refine kN ?_ _|refine kD ?_|refine kA ?_ _));refine blk_far ?_ NB320_334.out _;(with_reducible repeat (first|refine kN ?_ _|refine kD ?_|refine kA ?_ _));refine blk_far ?_ NB320_334.out _;(with_reducible repeat (first|refine kN ?_ _|refine kD ?_|refine kA ?_ _));refine blk_far ?_ NB320_333.out _;(with_reducible repeat (first|refine kN ?_ _|refine kD ?_|refine kA ?_ _));refine blk_far ?_ NB320_333.out _;(with_reducible repeat (first|refine kN ?_ _|refine kD ?_|refine kA ?_ _));exact BK320.out⟩
   have n2_ : Aside0 (((((w121.setCell ⟨gb333,0,none⟩ (.int .u64 t329)).setCell ⟨gb333,1,none⟩ (.int .u64 t330)).setCell ⟨gb334,0,none⟩ (.int .u64 t331)).setCell ⟨gb334,1,none⟩ (.int .u64 t332)).heap[gb321]? = some (.cells #[.int .i64 a2_0,.int .i64 a2_1,.int .i64 a2_2,.int .i64 a2_3] 35 (0,0))):=⟨by (with_reducible repeat (first|refine kN ?_ _|refine kD ?_|refine kA ?_ _));refine blk_far ?_ NB321_334.out _;(with_reducible repeat (first|refine kN ?_ _|refine kD ?_|refine kA ?_ _));refine blk_far ?_ NB321_334.out _;(with_reducible repeat (first|refine kN ?_ _|refine kD ?_|refine kA ?_ _));refine blk_far ?_ NB321_333.out _;(with_reducible repeat (first|refine kN ?_ _|refine kD ?_|refine kA ?_ _));refine blk_far ?_ NB321_333.out _;(with_reducible repeat (first|refine kN ?_ _|refine kD ?_|refine kA ?_ _));exact BK321.out⟩
   have n3_ : Aside0 (((((w121.setCell ⟨gb333,0,none⟩ (.int .u64 t329)).setCell ⟨gb333,1,none⟩ (.int .u64 t330)).setCell ⟨gb334,0,none⟩ (.int .u64 t331)).setCell ⟨gb334,1,none⟩ (.int .u64 t332)).heap[gb327]? = some (.cells #[.int .u64 t323,.int .u64 t324] 25 (0,0))):=⟨by (with_reducible repeat (first|refine kN ?_ _|refine kD ?_|refine kA ?_ _));refine blk_far ?_ NB327_334.out _;(with_reducible repeat (first|refine kN ?_ _|refine kD ?_|refine kA ?_ _));refine blk_far ?_ NB327_334.out _;(with_reducible repeat (first|refine kN ?_ _|refine kD ?_|refine kA ?_ _));refine blk_far ?_ NB327_333.out _;(with_reducible repeat (first|refine kN ?_ _|refine kD ?_|refine kA ?_ _));refine blk_far ?_ NB327_333.out _;(with_reducible repeat (first|refine kN ?_ _|refine kD ?_|refine kA ?_ _));exact BK327.out⟩
   have n4_ : Aside0 (((((w121.setCell ⟨gb333,0,none⟩ (.int .u64 t329)).setCell ⟨gb333,1,none⟩ (.int .u64 t330)).setCell ⟨gb334,0,none⟩ (.int .u64 t331)).setCell ⟨gb334,1,none⟩ (.int .u64 t332)).heap[gb328]? = some (.cells #[.int .u64 t325,.int .u64 t326] 25 (0,0))):=⟨by (with_reducible repeat (first|refine kN ?_ _|refine kD ?_|refine kA ?_ _));refine blk_far ?_ NB328_334.out _;(with_reducible repeat (first|refine kN ?_ _|refine kD ?_|refine kA ?_ _));refine blk_far ?_ NB328_334.out _;(with_reducible repeat (first|refine kN ?_ _|refine kD ?_|refine kA ?_ _));refine blk_far ?_ NB328_333.out _;(with_reducible repeat (first|refine kN ?_ _|refine kD ?_|refine kA ?_ _));refine blk_far ?_ NB328_333.out _;(with_reducible repeat (first|refine kN ?_ _|refine kD ?_|refine kA ?_ _));exact BK328.out⟩
   have n5_ : Aside0 (((((w121.setCell ⟨gb333,0,none⟩ (.int .u64 t329)).setCell ⟨gb333,1,none⟩ (.int .u64 t330)).setCell ⟨gb334,0,none⟩ (.int .u64 t331)).setCell ⟨gb334,1,none⟩ (.int .u64 t332)).heap[gb333]? = some (.cells #[.int .u64 t329,.int .u64 t330] 25 (0,0))):=⟨by (with_reducible repeat (first|refine kN ?_ _|refine kD ?_|refine kA ?_ _));refine blk_far ?_ NB333_334.out _;(with_reducible repeat (first|refine kN ?_ _|refine kD ?_|refine kA ?_ _));refine blk_far ?_ NB333_334.out _;(with_reducible repeat (first|refine kN ?_ _|refine kD ?_|refine kA ?_ _));refine blk_put (cs:=#[.int .u64 t329,.int .u64 0]) ?_ 1 _ rfl;(with_reducible repeat (first|refine kN ?_ _|refine kD ?_|refine kA ?_ _));refine blk_put (cs:=#[.int .u64 0,.int .u64 0]) ?_ 0 _ rfl;(with_reducible repeat (first|refine kN ?_ _|refine kD ?_|refine kA ?_ _));exact BK333.out⟩
   have n6_ : Aside0 (((((w121.setCell ⟨gb333,0,none⟩ (.int .u64 t329)).setCell ⟨gb333,1,none⟩ (.int .u64 t330)).setCell ⟨gb334,0,none⟩ (.int .u64 t331)).setCell ⟨gb334,1,none⟩ (.int .u64 t332)).heap[gb334]? = some (.cells #[.int .u64 t331,.int .u64 t332] 25 (0,0))):=⟨by (with_reducible repeat (first|refine kN ?_ _|refine kD ?_|refine kA ?_ _));refine blk_put (cs:=#[.int .u64 t331,.int .u64 0]) ?_ 1 _ rfl;(with_reducible repeat (first|refine kN ?_ _|refine kD ?_|refine kA ?_ _));refine blk_put (cs:=#[.int .u64 0,.int .u64 0]) ?_ 0 _ rfl;(with_reducible repeat (first|refine kN ?_ _|refine kD ?_|refine kA ?_ _));refine blk_far ?_ NB334_333.out _;(with_reducible repeat (first|refine kN ?_ _|refine kD ?_|refine kA ?_ _));refine blk_far ?_ NB334_333.out _;(with_reducible repeat (first|refine kN ?_ _|refine kD ?_|refine kA ?_ _));exact BK334.out⟩
   have n7_ : Aside0 (Below w.heap.size w ((((w121.setCell ⟨gb333,0,none⟩ (.int .u64 t329)).setCell ⟨gb333,1,none⟩ (.int .u64 t330)).setCell ⟨gb334,0,none⟩ (.int .u64 t331)).setCell ⟨gb334,1,none⟩ (.int .u64 t332))):=⟨by repeat (first|(with_reducible first|exact HB.out|apply bA|apply bN|apply bD|refine bS ?_ GE319.out|refine bS ?_ GE320.out|refine bS ?_ GE321.out|refine bS ?_ GE327.out|refine bS ?_ GE328.out|refine bS ?_ GE333.out|refine bS ?_ GE334.out)|exact HB.out)⟩
   (try clear BK319)
   (try clear BK320)
   (try clear BK321)
   (try clear BK327)
   (try clear BK328)
   (try clear BK333)
   (try clear BK334)
   (try clear HB)
   generalize ((((w121.setCell ⟨gb333,0,none⟩ (.int .u64 t329)).setCell ⟨gb333,1,none⟩ (.int .u64 t330)).setCell ⟨gb334,0,none⟩ (.int .u64 t331)).setCell ⟨gb334,1,none⟩ (.int .u64 t332)) = w135 at n0_ n1_ n2_ n3_ n4_ n5_ n6_ n7_ ⊢
   have BK319:=n0_;have BK320:=n1_;have BK321:=n2_;have BK327:=n3_;have BK328:=n4_;have BK333:=n5_;have BK334:=n6_;have HB:=n7_
   clear n0_ n1_ n2_ n3_ n4_ n5_ n6_ n7_
   have n0_:=Ak (kD BK319.out)
   have n1_:=Ak (kD BK320.out)
   have n2_:=Ak (kD BK321.out)
   have n3_:=Ak (kD BK327.out)
   have n4_:=Ak (kD BK328.out)
   have n5_:=Ak (kD BK333.out)
   have n6_:=Ak (kD BK334.out)
   have n7_:=Ak (bD HB.out)
   clear BK319 BK320 BK321 BK327 BK328 BK333 BK334 HB
   have BK319:=n0_;have BK320:=n1_;have BK321:=n2_;have BK327:=n3_;have BK328:=n4_;have BK333:=n5_;have BK334:=n6_;have HB:=n7_
   clear n0_ n1_ n2_ n3_ n4_ n5_ n6_ n7_
   refine start_ (n:=20) (S:=fun w' => w'.cell? ⟨gb327,0,none⟩ = some (.int .u64 t323)∧w'.cell? ⟨gb327,1,none⟩ = some (.int .u64 t324)∧w'.cell? ⟨gb333,0,none⟩ = some (.int .u64 t329)∧w'.cell? ⟨gb333,1,none⟩ = some (.int .u64 t330)) (ds:=[]) #[ff,ff,ff,ff,ff,ff,ff,ff,ff,ff,ff,ff,ff,ff,ff,ff,ff,ff,ff,ff] (by kernel_rfl) rfl rfl ⟨(kC BK327.out 0).trans rfl,(kC BK327.out 1).trans rfl,(kC BK333.out 0).trans rfl,(kC BK333.out 1).trans rfl⟩ (fun hHeld => ?_);refine with_tabW gazetteerlaw09_KeyGrows.tab5 gazetteerlaw09_KeyGrows.bits5 (fun HT_ HW_ => ?_)
   generalize w135.drew = w136 at BK319 BK320 BK321 BK327 BK328 BK333 BK334 HB hHeld ⊢
   refine take_ (i:=0) (N:=some 25) (v:=?_) (a':=?_) #[tt,ff,ff,ff,ff,ff,ff,ff,ff,ff,ff,ff,ff,ff,ff,ff,ff,ff,ff,ff] rfl rfl (take_ofW HT_.out HW_.out (by kernel_rfl)) (fun _ _ _ h => h) (Or.inl ⟨by rfl,?_⟩) hHeld ?_ ?_
   rotate_left
   ·rintro w' ⟨s0,s1,s2,s3⟩
    go_simp
    with_reducible rfl
   rotate_left
   ·simp only [Act.put,sA,sZ,sS,i64_w,i32_w]
    rfl
   refine take_ (i:=1) (N:=some 26) (v:=?_) (a':=?_) #[tt,tt,ff,ff,ff,ff,ff,ff,ff,ff,ff,ff,ff,ff,ff,ff,ff,ff,ff,ff] rfl rfl (take_ofW HT_.out HW_.out (by kernel_rfl)) (fun _ _ _ h => h) (Or.inl ⟨by rfl,?_⟩) hHeld ?_ ?_
   rotate_left
   ·rintro w' ⟨s0,s1,s2,s3⟩
    go_simp
    with_reducible rfl
   rotate_left
   ·simp only [Act.put,sA,sZ,sS,i64_w,i32_w]
    rfl
   refine pure_ (i:=2) (N:=some 27) (v:=?_) (a':=?_) #[tt,tt,tt,ff,ff,ff,ff,ff,ff,ff,ff,ff,ff,ff,ff,ff,ff,ff,ff,ff] rfl rfl (any_of HT_.out (by kernel_rfl)) (fun _ _ _ h => h) (Or.inl ⟨by rfl,?_⟩) ?_ ?_
   rotate_left
   ·intro w'
    go_simp
    with_reducible rfl
   rotate_left
   ·simp only [Act.put,sA,sZ,sS,i64_w,i32_w]
    rfl
   refine pure_ (i:=3) (N:=some 28) (v:=?_) (a':=?_) #[tt,tt,tt,tt,ff,ff,ff,ff,ff,ff,ff,ff,ff,ff,ff,ff,ff,ff,ff,ff] rfl rfl (any_of HT_.out (by kernel_rfl)) (fun _ _ _ h => h) (Or.inl ⟨by rfl,?_⟩) ?_ ?_
   rotate_left
   ·intro w'
    go_simp
    with_reducible rfl
   rotate_left
   ·simp only [Act.put,sA,sZ,sS,i64_w,i32_w]
    rfl
   refine pure_ (i:=4) (N:=some 29) (v:=undef) (a':=?_) #[tt,tt,tt,tt,tt,ff,ff,ff,ff,ff,ff,ff,ff,ff,ff,ff,ff,ff,ff,ff] rfl rfl (any_of HT_.out (by kernel_rfl)) (fun _ _ _ h => h) (Or.inr ⟨by rfl,rfl⟩) ?_ ?_
   rotate_left
   ·simp only [Act.put,sA,sZ,sS,i64_w,i32_w]
    rfl
   refine pure_ (i:=5) (N:=some 30) (v:=undef) (a':=?_) #[tt,tt,tt,tt,tt,tt,ff,ff,ff,ff,ff,ff,ff,ff,ff,ff,ff,ff,ff,ff] rfl rfl (any_of HT_.out (by kernel_rfl)) (fun _ _ _ h => h) (Or.inr ⟨by rfl,rfl⟩) ?_ ?_
   rotate_left
   ·simp only [Act.put,sA,sZ,sS,i64_w,i32_w]
    rfl
   refine pure_ (i:=6) (N:=some 31) (v:=undef) (a':=?_) #[tt,tt,tt,tt,tt,tt,tt,ff,ff,ff,ff,ff,ff,ff,ff,ff,ff,ff,ff,ff] rfl rfl (any_of HT_.out (by kernel_rfl)) (fun _ _ _ h => h) (Or.inr ⟨by rfl,rfl⟩) ?_ ?_
   rotate_left
   ·simp only [Act.put,sA,sZ,sS,i64_w,i32_w]
    rfl
   refine pure_ (i:=7) (N:=some 32) (v:=?_) (a':=?_) #[tt,tt,tt,tt,tt,tt,tt,tt,ff,ff,ff,ff,ff,ff,ff,ff,ff,ff,ff,ff] rfl rfl (any_of HT_.out (by kernel_rfl)) (fun _ _ _ h => h) (Or.inl ⟨by rfl,?_⟩) ?_ ?_
   rotate_left
   ·intro w'
    go_simp
    with_reducible rfl
   rotate_left
   ·simp only [Act.put,sA,sZ,sS,i64_w,i32_w]
    rfl
   refine pure_ (i:=8) (N:=some 33) (v:=?_) (a':=?_) #[tt,tt,tt,tt,tt,tt,tt,tt,tt,ff,ff,ff,ff,ff,ff,ff,ff,ff,ff,ff] rfl rfl (any_of HT_.out (by kernel_rfl)) (fun _ _ _ h => h) (Or.inl ⟨by rfl,?_⟩) ?_ ?_
   rotate_left
   ·intro w'
    go_simp
    with_reducible rfl
   rotate_left
   ·simp only [Act.put,sA,sZ,sS,i64_w,i32_w]
    rfl
   refine pure_ (i:=9) (N:=some 34) (v:=undef) (a':=?_) #[tt,tt,tt,tt,tt,tt,tt,tt,tt,tt,ff,ff,ff,ff,ff,ff,ff,ff,ff,ff] rfl rfl (any_of HT_.out (by kernel_rfl)) (fun _ _ _ h => h) (Or.inr ⟨by rfl,rfl⟩) ?_ ?_
   rotate_left
   ·simp only [Act.put,sA,sZ,sS,i64_w,i32_w]
    rfl
   refine pure_ (i:=10) (N:=some 35) (v:=undef) (a':=?_) #[tt,tt,tt,tt,tt,tt,tt,tt,tt,tt,tt,ff,ff,ff,ff,ff,ff,ff,ff,ff] rfl rfl (any_of HT_.out (by kernel_rfl)) (fun _ _ _ h => h) (Or.inr ⟨by rfl,rfl⟩) ?_ ?_
   rotate_left
   ·simp only [Act.put,sA,sZ,sS,i64_w,i32_w]
    rfl
   refine pure_ (i:=11) (N:=some 36) (v:=undef) (a':=?_) #[tt,tt,tt,tt,tt,tt,tt,tt,tt,tt,tt,tt,ff,ff,ff,ff,ff,ff,ff,ff] rfl rfl (any_of HT_.out (by kernel_rfl)) (fun _ _ _ h => h) (Or.inr ⟨by rfl,rfl⟩) ?_ ?_
   rotate_left
   ·simp only [Act.put,sA,sZ,sS,i64_w,i32_w]
    rfl
   refine pure_ (i:=12) (N:=some 37) (v:=undef) (a':=?_) #[tt,tt,tt,tt,tt,tt,tt,tt,tt,tt,tt,tt,tt,ff,ff,ff,ff,ff,ff,ff] rfl rfl (any_of HT_.out (by kernel_rfl)) (fun _ _ _ h => h) (Or.inr ⟨by rfl,rfl⟩) ?_ ?_
   rotate_left
   ·simp only [Act.put,sA,sZ,sS,i64_w,i32_w]
    rfl
   refine pure_ (i:=13) (N:=some 38) (v:=undef) (a':=?_) #[tt,tt,tt,tt,tt,tt,tt,tt,tt,tt,tt,tt,tt,tt,ff,ff,ff,ff,ff,ff] rfl rfl (any_of HT_.out (by kernel_rfl)) (fun _ _ _ h => h) (Or.inr ⟨by rfl,rfl⟩) ?_ ?_
   rotate_left
   ·simp only [Act.put,sA,sZ,sS,i64_w,i32_w]
    rfl
   refine pure_ (i:=14) (N:=some 39) (v:=undef) (a':=?_) #[tt,tt,tt,tt,tt,tt,tt,tt,tt,tt,tt,tt,tt,tt,tt,ff,ff,ff,ff,ff] rfl rfl (any_of HT_.out (by kernel_rfl)) (fun _ _ _ h => h) (Or.inr ⟨by rfl,rfl⟩) ?_ ?_
   rotate_left
   ·simp only [Act.put,sA,sZ,sS,i64_w,i32_w]
    rfl
   refine pure_ (i:=15) (N:=some 40) (v:=undef) (a':=?_) #[tt,tt,tt,tt,tt,tt,tt,tt,tt,tt,tt,tt,tt,tt,tt,tt,ff,ff,ff,ff] rfl rfl (any_of HT_.out (by kernel_rfl)) (fun _ _ _ h => h) (Or.inr ⟨by rfl,rfl⟩) ?_ ?_
   rotate_left
   ·simp only [Act.put,sA,sZ,sS,i64_w,i32_w]
    rfl
   refine pure_ (i:=16) (N:=some 41) (v:=undef) (a':=?_) #[tt,tt,tt,tt,tt,tt,tt,tt,tt,tt,tt,tt,tt,tt,tt,tt,tt,ff,ff,ff] rfl rfl (any_of HT_.out (by kernel_rfl)) (fun _ _ _ h => h) (Or.inr ⟨by rfl,rfl⟩) ?_ ?_
   rotate_left
   ·simp only [Act.put,sA,sZ,sS,i64_w,i32_w]
    rfl
   refine pure_ (i:=17) (N:=some 42) (v:=undef) (a':=?_) #[tt,tt,tt,tt,tt,tt,tt,tt,tt,tt,tt,tt,tt,tt,tt,tt,tt,tt,ff,ff] rfl rfl (any_of HT_.out (by kernel_rfl)) (fun _ _ _ h => h) (Or.inr ⟨by rfl,rfl⟩) ?_ ?_
   rotate_left
   ·simp only [Act.put,sA,sZ,sS,i64_w,i32_w]
    rfl
   refine pure_ (i:=18) (N:=some 43) (v:=?_) (a':=?_) #[tt,tt,tt,tt,tt,tt,tt,tt,tt,tt,tt,tt,tt,tt,tt,tt,tt,tt,tt,ff] rfl rfl (any_of HT_.out (by kernel_rfl)) (fun _ _ _ h => h) (Or.inl ⟨by rfl,?_⟩) ?_ ?_
   rotate_left
   ·intro w'
    go_simp
    with_reducible rfl
   rotate_left
   ·simp only [Act.put,sA,sZ,sS,i64_w,i32_w]
    rfl
   refine pure_ (i:=19) (N:=some 6) (v:=?_) (a':=?_) #[tt,tt,tt,tt,tt,tt,tt,tt,tt,tt,tt,tt,tt,tt,tt,tt,tt,tt,tt,tt] rfl rfl (any_of HT_.out (by kernel_rfl)) (fun _ _ _ h => h) (Or.inl ⟨by rfl,?_⟩) ?_ ?_
   rotate_left
   ·intro w'
    go_simp
    with_reducible rfl
   rotate_left
   ·simp only [Act.put,sA,sZ,sS,i64_w,i32_w]
    rfl
   refine done_ (done_of HT_.out (by kernel_rfl)) ?_
   try go_wp2
   go_ret
   exact ⟨by first|rfl|(simp [errW_none,errW_some] <;> rfl)|(simp [*,errW_none,errW_some] <;> rfl),by repeat (first|(with_reducible first|exact HB.out|apply bA|apply bN|apply bD|refine bS ?_ GE319.out|refine bS ?_ GE320.out|refine bS ?_ GE321.out|refine bS ?_ GE327.out|refine bS ?_ GE328.out|refine bS ?_ GE333.out|refine bS ?_ GE334.out)|exact HB.out)⟩
 ·replace c5:=Bool.eq_false_iff.mpr c5
  subst c5
  have H1 : (some false) = some r:=by rw [if_neg (show ¬ (false = true) by decide)] at H;exact H
  clear H
  have H:=H1
  clear H1
  obtain rfl:=Option.some.inj H
  go_enter Try.func12,Try.ntmps12
  go_wp2_with (first|((with_reducible refine gate_dst (N:=3) rfl ?_);refine box_event ?hg (N:=3) ?hd (cs:=#[.int .i64 a0_0,.int .i64 a0_1,.int .i64 a0_2,.int .i64 a0_3]) (t:=35) ?hr ?_;(case hd => rfl);(case hg => rfl);(case hr => first|(go_simp;done)|(go_simp;rfl));intro gb319 hg w137 hbox hb;have n0_:=Kh HB hb;have n1_:=Ak (hbox);have n2_:=Kz hg HB;have n3_:=Kz hg HB;clear HB;have HB:=n0_;have BK319:=n1_;have GW319:=n2_;have GE319:=n3_;clear n0_ n1_ n2_ n3_;clear hb hbox hg)|((with_reducible refine gate_dst (N:=4) rfl ?_);refine box_event ?hg (N:=4) ?hd (cs:=#[.int .i64 a1_0,.int .i64 a1_1,.int .i64 a1_2,.int .i64 a1_3]) (t:=35) ?hr ?_;(case hd => rfl);(case hg => rfl);(case hr => first|(go_simp;done)|(go_simp;rfl));intro gb320 hg w138 hbox hb;have n0_:=Kb BK319 hb;have n1_:=Kh HB hb;have n2_:=Ak (hbox);have n3_:=Kz hg HB;have n4_:=Kz hg HB;have n5_:=Kl hg BK319;have n6_:=Km hg BK319;clear BK319 HB;have BK319:=n0_;have HB:=n1_;have BK320:=n2_;have GW320:=n3_;have GE320:=n4_;have NB319_320:=n5_;have NB320_319:=n6_;clear n0_ n1_ n2_ n3_ n4_ n5_ n6_;clear hb hbox hg)|((with_reducible refine gate_dst (N:=5) rfl ?_);refine box_event ?hg (N:=5) ?hd (cs:=#[.int .i64 a2_0,.int .i64 a2_1,.int .i64 a2_2,.int .i64 a2_3]) (t:=35) ?hr ?_;(case hd => rfl);(case hg => rfl);(case hr => first|(go_simp;done)|(go_simp;rfl));intro gb321 hg w139 hbox hb;have n0_:=Kb BK319 hb;have n1_:=Kb BK320 hb;have n2_:=Kh HB hb;have n3_:=Ak (hbox);have n4_:=Kz hg HB;have n5_:=Kz hg HB;have n6_:=Kl hg BK319;have n7_:=Km hg BK319;have n8_:=Kl hg BK320;have n9_:=Km hg BK320;clear BK319 BK320 HB;have BK319:=n0_;have BK320:=n1_;have HB:=n2_;have BK321:=n3_;have GW321:=n4_;have GE321:=n5_;have NB319_321:=n6_;have NB321_319:=n7_;have NB320_321:=n8_;have NB321_320:=n9_;clear n0_ n1_ n2_ n3_ n4_ n5_ n6_ n7_ n8_ n9_;clear hb hbox hg)|((with_reducible refine gate_callee (f:=32) rfl ?_);refine goesL_ (some 11) rfl rfl Try.func32 (by kernel_rfl) rfl #[] rfl (by (try simp only [List.map_toArray,List.map_cons,List.map_nil]);first|done|rfl|(simp only [List.length_drop,List.length_take];rfl)) ?_;(with_reducible refine (gazetteerlaw09_wakes.calls k  false _ A4.out).mono ?_);rintro e w140 ⟨rfl,hb⟩;refine ⟨_,rfl,?_⟩;have n0_:=Kb BK319 hb;have n1_:=Kb BK320 hb;have n2_:=Kb BK321 hb;have n3_:=Kh HB hb;clear BK319 BK320 BK321 HB;have BK319:=n0_;have BK320:=n1_;have BK321:=n2_;have HB:=n3_;clear n0_ n1_ n2_ n3_;(try clear hb);(try clear hb2);(try clear hk);(try clear hi)))
  go_ret
  exact ⟨by first|rfl|(simp [errW_none,errW_some] <;> rfl)|(simp [*,errW_none,errW_some] <;> rfl),by repeat (first|(with_reducible first|exact HB.out|apply bA|apply bN|apply bD|refine bS ?_ GE319.out|refine bS ?_ GE320.out|refine bS ?_ GE321.out)|exact HB.out)⟩
end Go.Proofs.Ythlhmijgbjcloaa.A
end
section
namespace Go.Proofs.Ythlhmijgbjcloaa.A
open Go.RowKit Go.Proofs.YthlhmijgbjcloaaW.PrintWords Go.Proofs.YthlhmijgbjcloaaW.PrintLast Go.Proofs.YthlhmijgbjcloaaW.PrintMore
attribute [local go_sem] max2_int min2_int max_two min_two max_three min_three max_four min_four   -- for this text's walks alone
def wf35 (x : S35) : Prop := ((Lit.int .i64 x.f0).wf = true) ∧ ((Lit.int .i64 x.f1).wf = true) ∧ ((Lit.int .i64 x.f2).wf = true) ∧ ((Lit.int .i64 x.f3).wf = true)
theorem op35 : Opens 35 k35 wf35 := Opens.iso (fun x : S35 => (x.f0, x.f1, x.f2, x.f3)) (fun a => ⟨a.1, a.2.1, a.2.2.1, a.2.2.2⟩) (fun _ => rfl) (Opens.struct Try.underlying35 (by kernel_rfl) (OpensF.cons rfl (Opens.int Try.underlying2 (by kernel_rfl)) (OpensF.cons rfl (Opens.int Try.underlying2 (by kernel_rfl)) (OpensF.cons rfl (Opens.int Try.underlying2 (by kernel_rfl)) (OpensF.last rfl (Opens.int Try.underlying2 (by kernel_rfl)))))))
end Go.Proofs.Ythlhmijgbjcloaa.A
end
section
namespace Go.Proofs.Ythlhmijgbjcloaa.A
open Go.RowKit Go.Proofs.YthlhmijgbjcloaaW.PrintWords Go.Proofs.YthlhmijgbjcloaaW.PrintLast Go.Proofs.YthlhmijgbjcloaaW.PrintMore
attribute [local go_sem] max2_int min2_int max_two min_two max_three min_three max_four min_four   -- for this text's walks alone
def KeyGrows_Pure : Prop := ∀ (x0 : S35) (x1 : S35) (x2 : S35), wf35 x0 → wf35 x1 → wf35 x2 → ∃ k, gazetteerlaw09_KeyGrows.f k x0.f0 x0.f1 x0.f2 x0.f3 x1.f0 x1.f1 x1.f2 x1.f3 x2.f0 x2.f1 x2.f2 x2.f3 = some true
end Go.Proofs.Ythlhmijgbjcloaa.A
end
