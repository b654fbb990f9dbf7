/- What the row of this claim reaches. No condition. -/
import Derived.Laws.BytesArg
import Derived.WalkKit
import Derived.Test.YthlhmijgbjcloaaGX0
set_option linter.unusedVariables false
set_option linter.unusedSimpArgs false
section
namespace Go.Proofs.Ythlhmijgbjcloaa.A
open Go.RowKit Go.Proofs.YthlhmijgbjcloaaW.PrintWords Go.Proofs.YthlhmijgbjcloaaW.PrintLast Go.Proofs.YthlhmijgbjcloaaW.PrintMore
attribute [local go_sem] max2_int min2_int max_two min_two max_three min_three max_four min_four   -- for this text's walks alone
def lessF (h l : Int) (a b c d : Int) : Option (Int × Int):=(wide_Area.f a b c d).bind fun x => (wide_Sub.f h l x.1 x.2).bind fun y => some (if y.2.2 = true then (y.1,y.2.1) else (0,0))
def key_waste.f (a0_0 : Int) (a0_1 : Int) (a0_2 : Int) (a0_3 : Int) (a1_0 : Int) (a1_1 : Int) (a1_2 : Int) (a1_3 : Int) : Option (Int × Int × Int × Int) :=
 (key_Union.f a0_0 a0_1 a0_2 a0_3 a1_0 a1_1 a1_2 a1_3).bind fun u => (key_of.f u.1 u.2.1 u.2.2.1 u.2.2.2).bind fun s => (lessF s.1 s.2.1 a0_0 a0_1 a0_2 a0_3).bind fun p => (lessF p.1 p.2 a1_0 a1_1 a1_2 a1_3).bind fun q => some (q.1,q.2,s.2.2.1,s.2.2.2)
set_option maxHeartbeats 20000000 in
set_option maxRecDepth 100000 in
theorem key_waste.calls (a0_0 : Int) (a0_1 : Int) (a0_2 : Int) (a0_3 : Int) (a1_0 : Int) (a1_1 : Int) (a1_2 : Int) (a1_3 : Int) (r1 : Int) (r2 : Int) (r3 : Int) (r4 : Int) (w : World) (h : key_waste.f a0_0 a0_1 a0_2 a0_3 a1_0 a1_1 a1_2 a1_3 = some (r1,r2,r3,r4)) :
  Calls Try.prog 63 #[.agg #[.int .i64 a0_0,.int .i64 a0_1,.int .i64 a0_2,.int .i64 a0_3],.agg #[.int .i64 a1_0,.int .i64 a1_1,.int .i64 a1_2,.int .i64 a1_3]] w fun e w' => e = .returned (.agg #[.int .u64 r1,.int .u64 r2,.int .u64 r3,.int .u64 r4])∧Below w.heap.size w w':=by
 unfold key_waste.f lessF at h
 obtain ⟨⟨u0,u1,u2,u3⟩,hu,h⟩:=Option.bind_eq_some_iff.1 h
 obtain ⟨⟨s0,s1,s2,s3⟩,hs,h⟩:=Option.bind_eq_some_iff.1 h
 obtain ⟨⟨p0,p1⟩,hp,h⟩:=Option.bind_eq_some_iff.1 h
 obtain ⟨⟨q0,q1⟩,hq,h⟩:=Option.bind_eq_some_iff.1 h
 obtain ⟨⟨x0,x1⟩,hx,hp'⟩:=Option.bind_eq_some_iff.1 hp
 clear hp
 obtain ⟨⟨d0,d1,d2⟩,hd,hp⟩:=Option.bind_eq_some_iff.1 hp'
 clear hp'
 obtain ⟨⟨y0,y1⟩,hy,hq'⟩:=Option.bind_eq_some_iff.1 hq
 clear hq
 obtain ⟨⟨f0,f1,f2⟩,hf,hq⟩:=Option.bind_eq_some_iff.1 hq'
 clear hq'
 simp only at hs hp hx hd hq hy hf h
 injection h with h
 injection h with h1 h
 injection h with h2 h
 injection h with h3 h4
 subst h1 h2 h3 h4
 have HU:=Lib.hid (fun W => key_Union.calls _ _ _ _ _ _ _ _ u0 u1 u2 u3 W hu)
 have HO:=Lib.hid (fun W => key_of.calls _ _ _ _ s0 s1 s2 s3 W hs)
 have HA:=Lib.hid (fun W => wide_Area.calls _ _ _ _ x0 x1 W hx)
 have HA2:=Lib.hid (fun W => wide_Area.calls _ _ _ _ y0 y1 W hy)
 have HS:=Lib.hid (fun W => wide_Sub.calls _ _ _ _ d0 d1 d2 W hd)
 have HS2:=Lib.hid (fun W => wide_Sub.calls _ _ _ _ f0 f1 f2 W hf)
 have HP:=Lib.hid hp
 have HQ':=Lib.hid hq
 clear hu hs hp hq hx hd hy hf
 obtain ⟨W0,hW0⟩ : ∃ W,((w.alloc (.cells #[.int .i64 a0_0,.int .i64 a0_1,.int .i64 a0_2,.int .i64 a0_3] 35)).alloc (.cells #[.int .i64 a1_0,.int .i64 a1_1,.int .i64 a1_2,.int .i64 a1_3] 35)).alloc (.cells #[.int .u64 0,.int .u64 0,.int .u64 0,.int .u64 0] 79) = W:=⟨_,rfl⟩
 have hB0 : Below w.heap.size w W0:=by rw [← hW0];(repeat (first|exact Below.refl _ _|refine Below.drew ?_|refine below_drewN' ?_|refine Below.alloc ?_ (by simp;try omega) _|refine Below.setCell ?_ (by simp;try omega) _))
 have q0 : Blk W0 w.heap.size 35 #[.int .i64 a0_0,.int .i64 a0_1,.int .i64 a0_2,.int .i64 a0_3]:=by rw [← hW0];exact Blk.alloc (Blk.alloc (Blk.newAt rfl) _) _
 have q1 : Blk W0 (w.heap.size+1) 35 #[.int .i64 a1_0,.int .i64 a1_1,.int .i64 a1_2,.int .i64 a1_3]:=by rw [← hW0];exact Blk.alloc (Blk.newAt (by simp)) _
 have q2 : Blk W0 (w.heap.size+1+1) 79 #[.int .u64 0,.int .u64 0,.int .u64 0,.int .u64 0]:=by rw [← hW0];exact Blk.newAt (by simp)
 have HB:=Lib.hid (And.intro q0 (And.intro q1 q2))
 have HW:=Lib.hid hW0
 clear q0 q1 q2 hW0
 go_enter Try.func63,Try.ntmps63
 go_wp2_with (first
  | (go_at_call 40;(with_reducible refine (HU.out _).mono ?_);rintro e w1 ⟨rfl,hb1⟩;rw [HW.out] at hb1)
  | (go_at_call 64;(with_reducible refine (HO.out _).mono ?_);rintro e w2 ⟨rfl,hb2⟩;have B0:=(((HB.out.1.keep hb1).alloc (.cells #[.int .i64 u0,.int .i64 u1,.int .i64 u2,.int .i64 u3] 35)).keep hb2).alloc (.cells #[.int .u64 s0,.int .u64 s1,.int .u64 s2,.int .u64 s3] 79);have B1:=(((HB.out.2.1.keep hb1).alloc (.cells #[.int .i64 u0,.int .i64 u1,.int .i64 u2,.int .i64 u3] 35)).keep hb2).alloc (.cells #[.int .u64 s0,.int .u64 s1,.int .u64 s2,.int .u64 s3] 79);have c_0 : (w2.alloc (.cells #[.int .u64 s0,.int .u64 s1,.int .u64 s2,.int .u64 s3] 79)).cell? ⟨w.heap.size,0,none⟩ = some (.int .i64 a0_0):=(B0).cell 0;have c_1 : (w2.alloc (.cells #[.int .u64 s0,.int .u64 s1,.int .u64 s2,.int .u64 s3] 79)).cell? ⟨w.heap.size,1,none⟩ = some (.int .i64 a0_1):=(B0).cell 1;have c_2 : (w2.alloc (.cells #[.int .u64 s0,.int .u64 s1,.int .u64 s2,.int .u64 s3] 79)).cell? ⟨w.heap.size,2,none⟩ = some (.int .i64 a0_2):=(B0).cell 2;have c_3 : (w2.alloc (.cells #[.int .u64 s0,.int .u64 s1,.int .u64 s2,.int .u64 s3] 79)).cell? ⟨w.heap.size,3,none⟩ = some (.int .i64 a0_3):=(B0).cell 3;have d_0 : (w2.alloc (.cells #[.int .u64 s0,.int .u64 s1,.int .u64 s2,.int .u64 s3] 79)).cell? ⟨w.heap.size+1,0,none⟩ = some (.int .i64 a1_0):=(B1).cell 0;have d_1 : (w2.alloc (.cells #[.int .u64 s0,.int .u64 s1,.int .u64 s2,.int .u64 s3] 79)).cell? ⟨w.heap.size+1,1,none⟩ = some (.int .i64 a1_1):=(B1).cell 1;have d_2 : (w2.alloc (.cells #[.int .u64 s0,.int .u64 s1,.int .u64 s2,.int .u64 s3] 79)).cell? ⟨w.heap.size+1,2,none⟩ = some (.int .i64 a1_2):=(B1).cell 2;have d_3 : (w2.alloc (.cells #[.int .u64 s0,.int .u64 s1,.int .u64 s2,.int .u64 s3] 79)).cell? ⟨w.heap.size+1,3,none⟩ = some (.int .i64 a1_3):=(B1).cell 3))
 have hi0 : ∀ W,(Instr.index 85 (.agg #[.int .i64 a0_0,.int .i64 a0_1,.int .i64 a0_2,.int .i64 a0_3,.int .i64 a1_0,.int .i64 a1_1,.int .i64 a1_2,.int .i64 a1_3]) (.int .i64 0)).run Try.prog W = .ok (.agg #[.int .i64 a0_0,.int .i64 a0_1,.int .i64 a0_2,.int .i64 a0_3]) W:=fun W => by rfl
 have hi1 : ∀ W,(Instr.index 85 (.agg #[.int .i64 a0_0,.int .i64 a0_1,.int .i64 a0_2,.int .i64 a0_3,.int .i64 a1_0,.int .i64 a1_1,.int .i64 a1_2,.int .i64 a1_3]) (.int .i64 1)).run Try.prog W = .ok (.agg #[.int .i64 a1_0,.int .i64 a1_1,.int .i64 a1_2,.int .i64 a1_3]) W:=fun W => by rfl
 go_loopw [19] (fun v19 wr => ∃ i h l : Int,v19 = .int .i64 i∧(i = 0∧h = s0∧l = s1∨i = 1∧h = p0∧l = p1∨i = 2∧h = q0∧l = q1)∧Blk wr w2.heap.size 79 #[.int .u64 h,.int .u64 l,.int .u64 s2,.int .u64 s3]∧Blk wr (w.heap.size+1+1) 79 #[.int .u64 0,.int .u64 0,.int .u64 0,.int .u64 0]∧Below w.heap.size w wr) (fun v19 _ => 2 - (intOf v19).toNat)
 case atStart =>
  refine ⟨0,s0,s1,by go_num,Or.inl ⟨rfl,rfl,rfl⟩,Blk.new _ _ _,(((HB.out.2.2.keep hb1).alloc _).keep hb2).alloc _,?_⟩
  exact keep_below_alloc _ (keep_below (keep_below_alloc _ (Below.step hB0 hb1 hB0.size)) hb2)
 case round =>
  obtain ⟨i,th,tl,rfl,hi,b6,b4,hB⟩:=hrel
  have k0:=b6.cell 0
  have k1:=b6.cell 1
  have k2:=b6.cell 2
  have k3:=b6.cell 3
  simp at k0 k1 k2 k3
  rcases hi with ⟨rfl,rfl,rfl⟩|⟨rfl,rfl,rfl⟩|⟨rfl,rfl,rfl⟩
  ·go_upto_region 6 with fail
   have hBs:=hB.size
   have bk:=Blk.new wr 35 #[.int .i64 a0_0,.int .i64 a0_1,.int .i64 a0_2,.int .i64 a0_3]
   go_cut [9,10] (fun s9 s10 wx => ∃ g,s9 = .pointer (some ⟨g,0,none⟩)∧s10 = .bool d2∧Blk wx g 25 #[.int .u64 d0,.int .u64 d1]∧w.heap.size ≤ g∧Blk wx w2.heap.size 79 #[.int .u64 th,.int .u64 tl,.int .u64 s2,.int .u64 s3]∧Blk wx (w.heap.size+1+1) 79 #[.int .u64 0,.int .u64 0,.int .u64 0,.int .u64 0]∧Below w.heap.size w wx)
   case first =>
    go_region_held3 (fun w' => w'.cell? ⟨w2.heap.size,0,none⟩ = some (.int .u64 th)∧w'.cell? ⟨w2.heap.size,1,none⟩ = some (.int .u64 tl)∧w'.cell? ⟨wr.heap.size,0,none⟩ = some (.int .i64 a0_0)∧w'.cell? ⟨wr.heap.size,1,none⟩ = some (.int .i64 a0_1)∧w'.cell? ⟨wr.heap.size,2,none⟩ = some (.int .i64 a0_2)∧w'.cell? ⟨wr.heap.size,3,none⟩ = some (.int .i64 a0_3)∧Blk w' wr.heap.size 35 #[.int .i64 a0_0,.int .i64 a0_1,.int .i64 a0_2,.int .i64 a0_3]∧Blk w' w2.heap.size 79 #[.int .u64 th,.int .u64 tl,.int .u64 s2,.int .u64 s3]∧Blk w' (w.heap.size+1+1) 79 #[.int .u64 0,.int .u64 0,.int .u64 0,.int .u64 0]∧Below w.heap.size w w') ((first|(go_split_ands;(repeat' (with_reducible apply And.intro)) <;> (first|(with_reducible assumption)|(first|(apply swap_blk;(with_reducible assumption);decide)|(apply swap_cell;(with_reducible assumption);decide;rfl)|(apply swap_below;(with_reducible assumption);(apply blk_le;(with_reducible assumption);decide;omega))|exact far_two (by with_reducible assumption) n1 (by decide) _ _|exact far_two_cell (by with_reducible assumption) n1 (by decide) _ _ rfl|exact far_two_below (by with_reducible assumption) nB1 _ _)|(first|(with_reducible assumption)|exact Below.drew (by with_reducible assumption)|exact Below.drew (keep_below_alloc _ (by with_reducible assumption))|exact Blk.drew (by with_reducible assumption)|exact keep_cell hb2 (by with_reducible assumption)|exact Blk.keep (by with_reducible assumption) hb2|exact keep_below (by with_reducible assumption) hb2|exact keep_alloc _ (by with_reducible assumption)|exact Blk.alloc (by with_reducible assumption) _|exact keep_below_alloc _ (by with_reducible assumption)|exact Blk.far (by with_reducible assumption) (by first|(simp;done)|(simp;omega)) _|exact keep_set _ (by with_reducible assumption) (by first|(simp;done)|(simp;omega))|exact keep_below_set _ (by with_reducible assumption) (by first|(simp;done)|(simp;omega))|exact Blk.far (Blk.far (by with_reducible assumption) (by first|(simp;done)|(simp;omega)) _) (by first|(simp;done)|(simp;omega)) _|exact keep_set _ (keep_set _ (by with_reducible assumption) (by first|(simp;done)|(simp;omega))) (by first|(simp;done)|(simp;omega))|exact keep_below_set _ (keep_below_set _ (by with_reducible assumption) (by first|(simp;done)|(simp;omega))) (by first|(simp;done)|(simp;omega))|((repeat (with_reducible first|assumption|refine Blk.drew ?_|refine cell_drew ?_|refine Below.drew ?_|refine Blk.alloc ?_ _|refine keep_alloc _ ?_|refine keep_below_alloc _ ?_|refine Blk.keep ?_ hb2|refine keep_cell hb2 ?_|refine keep_below ?_ hb2));done)|(go_simp;done))))|(go_simp;done)|(simp [go_sem, *];done)))
     (first
      | ((refine goes Try.func24 (by kernel_rfl) rfl #[.agg #[.int .i64 a0_0,.int .i64 a0_1,.int .i64 a0_2,.int .i64 a0_3]] (by rfl) rfl rfl ?_ ?_;((try simp only [List.map_toArray,List.map_cons,List.map_nil]);rfl);(with_reducible refine ((HA.out _)).mono ?_);rintro e w2 ⟨rfl,hb2⟩;refine ⟨_,rfl,?_⟩);go_split_ands;(try first|(have n1:=Blk.keep n1 hb2)|with_reducible (have nB1:=blk_le (B:=w.heap.size) (by with_reducible assumption) (show 25 ≠ 79 by decide) (by omega);have n1:=new_keep (t:=25) rfl hb2)|with_reducible (have nB1:=blk_le_drew (B:=w.heap.size) (by with_reducible assumption) (show 25 ≠ 79 by decide) (by omega);have n1:=new_keep_drew (t:=25) rfl hb2));(try rw [World.size_alloc] at n1);(try rw [World.size_alloc] at nB1);(try (have m0 : _ = some _:=(n1.cell 0).trans rfl;have m1 : _ = some _:=(n1.cell 1).trans rfl;have f0':=n1.frozen 0;have f1':=n1.frozen 1)))
      | ((refine goes Try.func29 (by kernel_rfl) rfl #[.agg #[.int .u64 th,.int .u64 tl],.agg #[.int .u64 x0,.int .u64 x1]] (by rfl) rfl rfl ?_ ?_;((try simp only [List.map_toArray,List.map_cons,List.map_nil]);rfl);(with_reducible refine ((HS.out _)).mono ?_);rintro e w2 ⟨rfl,hb2⟩;refine ⟨_,rfl,?_⟩);go_split_ands;(try first|(have n1:=Blk.keep n1 hb2)|with_reducible (have nB1:=blk_le (B:=w.heap.size) (by with_reducible assumption) (show 25 ≠ 79 by decide) (by omega);have n1:=new_keep (t:=25) rfl hb2)|with_reducible (have nB1:=blk_le_drew (B:=w.heap.size) (by with_reducible assumption) (show 25 ≠ 79 by decide) (by omega);have n1:=new_keep_drew (t:=25) rfl hb2));(try rw [World.size_alloc] at n1);(try rw [World.size_alloc] at nB1);(try (have m0 : _ = some _:=(n1.cell 0).trans rfl;have m1 : _ = some _:=(n1.cell 1).trans rfl;have f0':=n1.frozen 0;have f1':=n1.frozen 1))))
    all_goals
     go_wp2_with fail
     go_meet
     go_split_ands
     refine ⟨_,rfl,rfl,(by first|exact two_set n1|exact Blk.new _ _ _),?_,(by first|with_reducible assumption|exact far_two (by with_reducible assumption) n1 (by decide) _ _),(by first|with_reducible assumption|exact far_two (by with_reducible assumption) n1 (by decide) _ _),(by first|with_reducible assumption|exact far_two_below (by with_reducible assumption) nB1 _ _)⟩
     first|(with_reducible assumption)|exact blk_le (g:=w.heap.size+1+1) (by with_reducible assumption) (by decide) (by omega)
   case rest =>
    obtain ⟨g,rfl,rfl,nb,hg,b6,b4,hB⟩:=hcut
    have hne : w.heap.size+1+1 ≠ w2.heap.size∧w.heap.size ≤ w2.heap.size:=by
     have h1:=HB.out.2.2.lt
     have h2:=hb1.size
     have h3:=hb2.size
     simp at h3
     omega
    have m0:=nb.cell 0
    have m1:=nb.cell 1
    have e0:=nb.frozen 0
    have e1:=nb.frozen 1
    have k0:=b6.cell 0
    have k1:=b6.cell 1
    have z0:=b6.frozen 0
    have z1:=b6.frozen 1
    simp at m0 m1 k0 k1
    have hgn : g ≠ w2.heap.size:=nb.ne_ b6 (by decide)
    have hgm:=hgn.symm
    have P:=HP.out
    cases d2
    ·simp only [Bool.false_eq_true,if_false,Option.some.injEq,Prod.mk.injEq] at P
     obtain ⟨rfl,rfl⟩:=P
     go_wp2
     go_roundw
     case rel =>
      refine ⟨1,_,_,by go_num,Or.inr (Or.inl ⟨rfl,rfl,rfl⟩),two_set4 (far_two b6 nb (by decide) _ _),(((far_two b4 nb (by decide) _ _).far hne.1 _).far hne.1 _),(((hB.setCell (by simp;omega) _).setCell (by simp;omega) _).setCell (by simp;omega) _).setCell (by simp;omega) _⟩
     case measure => simp [intOf]
    ·simp only [if_true,Option.some.injEq,Prod.mk.injEq] at P
     obtain ⟨rfl,rfl⟩:=P
     go_wp2
     go_roundw
     case rel =>
      refine ⟨1,_,_,by go_num,Or.inr (Or.inl ⟨rfl,rfl,rfl⟩),two_set4 b6,((b4.far hne.1 _).far hne.1 _),((hB.setCell (by simp;omega) _).setCell (by simp;omega) _)⟩
     case measure => simp [intOf]
  ·go_upto_region 6 with fail
   have hBs:=hB.size
   have bk:=Blk.new wr 35 #[.int .i64 a1_0,.int .i64 a1_1,.int .i64 a1_2,.int .i64 a1_3]
   go_cut [9,10] (fun s9 s10 wx => ∃ g,s9 = .pointer (some ⟨g,0,none⟩)∧s10 = .bool f2∧Blk wx g 25 #[.int .u64 f0,.int .u64 f1]∧w.heap.size ≤ g∧Blk wx w2.heap.size 79 #[.int .u64 th,.int .u64 tl,.int .u64 s2,.int .u64 s3]∧Blk wx (w.heap.size+1+1) 79 #[.int .u64 0,.int .u64 0,.int .u64 0,.int .u64 0]∧Below w.heap.size w wx)
   case first =>
    go_region_held3 (fun w' => w'.cell? ⟨w2.heap.size,0,none⟩ = some (.int .u64 th)∧w'.cell? ⟨w2.heap.size,1,none⟩ = some (.int .u64 tl)∧w'.cell? ⟨wr.heap.size,0,none⟩ = some (.int .i64 a1_0)∧w'.cell? ⟨wr.heap.size,1,none⟩ = some (.int .i64 a1_1)∧w'.cell? ⟨wr.heap.size,2,none⟩ = some (.int .i64 a1_2)∧w'.cell? ⟨wr.heap.size,3,none⟩ = some (.int .i64 a1_3)∧Blk w' wr.heap.size 35 #[.int .i64 a1_0,.int .i64 a1_1,.int .i64 a1_2,.int .i64 a1_3]∧Blk w' w2.heap.size 79 #[.int .u64 th,.int .u64 tl,.int .u64 s2,.int .u64 s3]∧Blk w' (w.heap.size+1+1) 79 #[.int .u64 0,.int .u64 0,.int .u64 0,.int .u64 0]∧Below w.heap.size w w') ((first|(go_split_ands;(repeat' (with_reducible apply And.intro)) <;> (first|(with_reducible assumption)|(first|(apply swap_blk;(with_reducible assumption);decide)|(apply swap_cell;(with_reducible assumption);decide;rfl)|(apply swap_below;(with_reducible assumption);(apply blk_le;(with_reducible assumption);decide;omega))|exact far_two (by with_reducible assumption) n1 (by decide) _ _|exact far_two_cell (by with_reducible assumption) n1 (by decide) _ _ rfl|exact far_two_below (by with_reducible assumption) nB1 _ _)|(first|(with_reducible assumption)|exact Below.drew (by with_reducible assumption)|exact Below.drew (keep_below_alloc _ (by with_reducible assumption))|exact Blk.drew (by with_reducible assumption)|exact keep_cell hb2 (by with_reducible assumption)|exact Blk.keep (by with_reducible assumption) hb2|exact keep_below (by with_reducible assumption) hb2|exact keep_alloc _ (by with_reducible assumption)|exact Blk.alloc (by with_reducible assumption) _|exact keep_below_alloc _ (by with_reducible assumption)|exact Blk.far (by with_reducible assumption) (by first|(simp;done)|(simp;omega)) _|exact keep_set _ (by with_reducible assumption) (by first|(simp;done)|(simp;omega))|exact keep_below_set _ (by with_reducible assumption) (by first|(simp;done)|(simp;omega))|exact Blk.far (Blk.far (by with_reducible assumption) (by first|(simp;done)|(simp;omega)) _) (by first|(simp;done)|(simp;omega)) _|exact keep_set _ (keep_set _ (by with_reducible assumption) (by first|(simp;done)|(simp;omega))) (by first|(simp;done)|(simp;omega))|exact keep_below_set _ (keep_below_set _ (by with_reducible assumption) (by first|(simp;done)|(simp;omega))) (by first|(simp;done)|(simp;omega))|((repeat (with_reducible first|assumption|refine Blk.drew ?_|refine cell_drew ?_|refine Below.drew ?_|refine Blk.alloc ?_ _|refine keep_alloc _ ?_|refine keep_below_alloc _ ?_|refine Blk.keep ?_ hb2|refine keep_cell hb2 ?_|refine keep_below ?_ hb2));done)|(go_simp;done))))|(go_simp;done)|(simp [go_sem, *];done)))
     (first
      | ((refine goes Try.func24 (by kernel_rfl) rfl #[.agg #[.int .i64 a1_0,.int .i64 a1_1,.int .i64 a1_2,.int .i64 a1_3]] (by rfl) rfl rfl ?_ ?_;((try simp only [List.map_toArray,List.map_cons,List.map_nil]);rfl);(with_reducible refine ((HA2.out _)).mono ?_);rintro e w2 ⟨rfl,hb2⟩;refine ⟨_,rfl,?_⟩);go_split_ands;(try first|(have n1:=Blk.keep n1 hb2)|with_reducible (have nB1:=blk_le (B:=w.heap.size) (by with_reducible assumption) (show 25 ≠ 79 by decide) (by omega);have n1:=new_keep (t:=25) rfl hb2)|with_reducible (have nB1:=blk_le_drew (B:=w.heap.size) (by with_reducible assumption) (show 25 ≠ 79 by decide) (by omega);have n1:=new_keep_drew (t:=25) rfl hb2));(try rw [World.size_alloc] at n1);(try rw [World.size_alloc] at nB1);(try (have m0 : _ = some _:=(n1.cell 0).trans rfl;have m1 : _ = some _:=(n1.cell 1).trans rfl;have f0':=n1.frozen 0;have f1':=n1.frozen 1)))
      | ((refine goes Try.func29 (by kernel_rfl) rfl #[.agg #[.int .u64 th,.int .u64 tl],.agg #[.int .u64 y0,.int .u64 y1]] (by rfl) rfl rfl ?_ ?_;((try simp only [List.map_toArray,List.map_cons,List.map_nil]);rfl);(with_reducible refine ((HS2.out _)).mono ?_);rintro e w2 ⟨rfl,hb2⟩;refine ⟨_,rfl,?_⟩);go_split_ands;(try first|(have n1:=Blk.keep n1 hb2)|with_reducible (have nB1:=blk_le (B:=w.heap.size) (by with_reducible assumption) (show 25 ≠ 79 by decide) (by omega);have n1:=new_keep (t:=25) rfl hb2)|with_reducible (have nB1:=blk_le_drew (B:=w.heap.size) (by with_reducible assumption) (show 25 ≠ 79 by decide) (by omega);have n1:=new_keep_drew (t:=25) rfl hb2));(try rw [World.size_alloc] at n1);(try rw [World.size_alloc] at nB1);(try (have m0 : _ = some _:=(n1.cell 0).trans rfl;have m1 : _ = some _:=(n1.cell 1).trans rfl;have f0':=n1.frozen 0;have f1':=n1.frozen 1))))
    all_goals
     go_wp2_with fail
     go_meet
     go_split_ands
     refine ⟨_,rfl,rfl,(by first|exact two_set n1|exact Blk.new _ _ _),?_,(by first|with_reducible assumption|exact far_two (by with_reducible assumption) n1 (by decide) _ _),(by first|with_reducible assumption|exact far_two (by with_reducible assumption) n1 (by decide) _ _),(by first|with_reducible assumption|exact far_two_below (by with_reducible assumption) nB1 _ _)⟩
     first|(with_reducible assumption)|exact blk_le (g:=w.heap.size+1+1) (by with_reducible assumption) (by decide) (by omega)
   case rest =>
    obtain ⟨g,rfl,rfl,nb,hg,b6,b4,hB⟩:=hcut
    have hne : w.heap.size+1+1 ≠ w2.heap.size∧w.heap.size ≤ w2.heap.size:=by
     have h1:=HB.out.2.2.lt
     have h2:=hb1.size
     have h3:=hb2.size
     simp at h3
     omega
    have m0:=nb.cell 0
    have m1:=nb.cell 1
    have e0:=nb.frozen 0
    have e1:=nb.frozen 1
    have k0:=b6.cell 0
    have k1:=b6.cell 1
    have z0:=b6.frozen 0
    have z1:=b6.frozen 1
    simp at m0 m1 k0 k1
    have hgn : g ≠ w2.heap.size:=nb.ne_ b6 (by decide)
    have hgm:=hgn.symm
    have P:=HQ'.out
    cases f2
    ·simp only [Bool.false_eq_true,if_false,Option.some.injEq,Prod.mk.injEq] at P
     obtain ⟨rfl,rfl⟩:=P
     go_wp2
     go_roundw
     case rel =>
      refine ⟨2,_,_,by go_num,Or.inr (Or.inr ⟨rfl,rfl,rfl⟩),two_set4 (far_two b6 nb (by decide) _ _),(((far_two b4 nb (by decide) _ _).far hne.1 _).far hne.1 _),(((hB.setCell (by simp;omega) _).setCell (by simp;omega) _).setCell (by simp;omega) _).setCell (by simp;omega) _⟩
     case measure => simp [intOf]
    ·simp only [if_true,Option.some.injEq,Prod.mk.injEq] at P
     obtain ⟨rfl,rfl⟩:=P
     go_wp2
     go_roundw
     case rel =>
      refine ⟨2,_,_,by go_num,Or.inr (Or.inr ⟨rfl,rfl,rfl⟩),two_set4 b6,((b4.far hne.1 _).far hne.1 _),((hB.setCell (by simp;omega) _).setCell (by simp;omega) _)⟩
     case measure => simp [intOf]
  ·have y0:=b4.cell 0
   have y1:=b4.cell 1
   have y2:=b4.cell 2
   have y3:=b4.cell 3
   have z0:=b4.frozen 0
   have z1:=b4.frozen 1
   have z2:=b4.frozen 2
   have z3:=b4.frozen 3
   simp at y0 y1 y2 y3
   go_wp2
   refine bodyPost_ret (v:=.agg #[.int .u64 th,.int .u64 tl,.int .u64 s2,.int .u64 s3]) (by simp [results,Try.results63,go_sem, *]) rfl ⟨rfl,?_⟩
   exact (((hB.setCell (by simp;omega) _).setCell (by simp;omega) _).setCell (by simp;omega) _).setCell (by simp;omega) _
end Go.Proofs.Ythlhmijgbjcloaa.A
end
section
namespace Go.Proofs.Ythlhmijgbjcloaa.A
open Go.RowKit Go.Proofs.YthlhmijgbjcloaaW.PrintWords Go.Proofs.YthlhmijgbjcloaaW.PrintLast Go.Proofs.YthlhmijgbjcloaaW.PrintMore
attribute [local go_sem] max2_int min2_int max_two min_two max_three min_three max_four min_four   -- for this text's walks alone
mutual
def key_seeds.l0 : Nat → List (S35) → Int → Int → Int → Int → Int → Int → Int → Int → Option (Int × Int)
  | 0, _, _, _, _, _, _, _, _, _ => none
  | k + 1, x0, x4, x5, x18, x19, x135000, x135001, x135002, x135003 => if x19 < x18 then (key_seeds.l1 k x0 x4 x5 x19 (wrap64 (x19 + 1)) x18 x19 x135000 x135001 x135002 x135003) else (some (x4, x5))
def key_seeds.l1 : Nat → List (S35) → Int → Int → Int → Int → Int → Int → Int → Int → Int → Int → Option (Int × Int)
  | 0, _, _, _, _, _, _, _, _, _, _, _ => none
  | k + 1, x0, x4, x5, x7, x8, x18, x19, x135000, x135001, x135002, x135003 => if x8 < (x0.length : Int) then (if (wrap64 (x7 + 1)) = (x0.length : Int) then (some (x4, x5)) else (if 0 ≤ x7 then (if x7 < (x0.length : Int) then (if 0 ≤ x8 then ((key_waste.f ((rd_T35 x0 x7).f0) ((rd_T35 x0 x7).f1) ((rd_T35 x0 x7).f2) ((rd_T35 x0 x7).f3) ((rd_T35 x0 x8).f0) ((rd_T35 x0 x8).f1) ((rd_T35 x0 x8).f2) ((rd_T35 x0 x8).f3)).bind fun bt137 => ((key_size_below.f x135000 x135001 x135002 x135003 bt137.1 bt137.2.1 bt137.2.2.1 bt137.2.2.2).bind fun t142 => (if t142 = true then (key_seeds.l1 k x0 x7 x8 x7 (wrap64 (x8 + 1)) x18 x19 bt137.1 bt137.2.1 bt137.2.2.1 bt137.2.2.2) else (key_seeds.l1 k x0 x4 x5 x7 (wrap64 (x8 + 1)) x18 x19 x135000 x135001 x135002 x135003)))) else (none)) else (none)) else (none))) else (key_seeds.l0 k x0 x4 x5 x18 (wrap64 (x19 + 1)) x135000 x135001 x135002 x135003)
end
def key_seeds.f (k : Nat) (l0 : List (S35)) : Option (Int × Int) := if 0 < (l0.length : Int) then (if 1 < (l0.length : Int) then ((key_waste.f ((rd_T35 l0 0).f0) ((rd_T35 l0 0).f1) ((rd_T35 l0 0).f2) ((rd_T35 l0 0).f3) ((rd_T35 l0 1).f0) ((rd_T35 l0 1).f1) ((rd_T35 l0 1).f2) ((rd_T35 l0 1).f3)).bind fun bt130 => (key_seeds.l0 k l0 0 1 (l0.length : Int) 0 bt130.1 bt130.2.1 bt130.2.2.1 bt130.2.2.2)) else (none)) else (none)
def key_seeds.T2 : Bool × List (List Nat × List Nat) := (true, [([], []), ([0], [0]), ([1], [1]), ([], []), ([3], [3]), ([4], [4]), ([2, 5], [2, 5]), ([], []), ([7, 6, 6, 0, 1, 2, 3, 4, 5, 6, 7], [6, 7])])
def key_seeds.B2 : List Nat := [0, 1, 3, 0, 8, 24, 63, 0, 255]
theorem key_seeds.tab2 : rtab .any (opsOf Try.f53 2) = key_seeds.T2 := by kernel_rfl
theorem key_seeds.bits2 : waitsOk key_seeds.T2.2 key_seeds.B2 = true := by kernel_rfl
def key_seeds.T10 : Bool × List (List Nat × List Nat) := (true, [([], []), ([], []), ([0, 1], [0, 1]), ([2], [2]), ([], []), ([], []), ([4, 5], [4, 5]), ([6], [6]), ([3, 7], [3, 7]), ([], []), ([9, 8, 8, 0, 1, 2, 3, 4, 5, 6, 7, 8, 9], [8, 9])])
def key_seeds.B10 : List Nat := [0, 0, 3, 7, 0, 0, 48, 112, 255, 0, 1023]
theorem key_seeds.tab10 : rtab .any (opsOf Try.f53 10) = key_seeds.T10 := by kernel_rfl
theorem key_seeds.bits10 : waitsOk key_seeds.T10.2 key_seeds.B10 = true := by kernel_rfl
set_option maxHeartbeats 8000000 in
set_option maxRecDepth 100000 in
theorem key_seeds.calls (k : Nat) (A0 : Option Addr) (c0 : Nat) (l0 : List (S35)) (r1 : Int) (r2 : Int) (w : World) (hr0 : Kd.C k35 w A0 l0.length l0) (hc0 : l0.length ≤ c0) (h : key_seeds.f k l0 = some (r1,r2)) :
  Calls Try.prog 53 #[.slice A0 l0.length c0] w fun e w' => e = .returned (.tuple #[.int .i64 r1,.int .i64 r2])∧Below w.heap.size w w':=by
 have hu35:=Try.underlying35
 have hu79:=Try.underlying79
 have HR0:=Ak hr0
 have HC0:=Ak hc0
 clear hr0 hc0
 have HB:=Ak (Below.refl w.heap.size w)
 have H : (if 0 < (l0.length : Int) then (if 1 < (l0.length : Int) then ((key_waste.f ((rd_T35 l0 0).f0) ((rd_T35 l0 0).f1) ((rd_T35 l0 0).f2) ((rd_T35 l0 0).f3) ((rd_T35 l0 1).f0) ((rd_T35 l0 1).f1) ((rd_T35 l0 1).f2) ((rd_T35 l0 1).f3)).bind fun bt130 => (key_seeds.l0 k l0 0 1 (l0.length : Int) 0 bt130.1 bt130.2.1 bt130.2.2.1 bt130.2.2.2)) else (none)) else (none)) = some (r1,r2):=h
 clear h
 by_cases c2 : 0 < (l0.length : Int)
 ·rw [if_pos c2] at H
  have c2b0 : decide (0 < (l0.length : Int)) = true:=decide_eq_true c2
  have c2b1 : decide (0 < l0.length) = true:=decide_eq_true (by omega)
  clear c2
  by_cases c3 : 1 < (l0.length : Int)
  ·rw [if_pos c3] at H
   have c3b0 : decide (1 < (l0.length : Int)) = true:=decide_eq_true c3
   have c3b1 : decide (1 < l0.length) = true:=decide_eq_true (by omega)
   clear c3
   replace H:=Option.bind_eq_some_iff.mp H
   obtain ⟨⟨t130,t131,t132,t133⟩,A40,H⟩:=H
   replace H : (key_seeds.l0 k l0 0 1 (l0.length : Int) 0 t130 t131 t132 t133) = some (r1,r2):=H
   have A4:=Ak A40
   clear A40
   have H':=Ak H
   clear H
   go_enter Try.func53,Try.ntmps53
   try (go_wp2;repeat (any_goals (go_step3;go_wp2)))
   have n0_:=Ak (bD HB.out)
   clear HB
   have HB:=n0_
   clear n0_
   have p128 : 0 ≤ (0 : Int):=(by omega)
   have q128 : 0 < (l0.length : Int):=of_decide_eq_true (by first|(with_reducible assumption)|assumption)
   obtain ⟨ad128,e128,hx128_0,hx128_1,hx128_2,hx128_3⟩:=at_T35 HR0.out 0 p128 q128
   have hw128_3:=hx128_3
   (try rw [show ((0 : Int)).toNat = 0 from rfl] at hw128_3)
   (try rw [show 0*4 = 0 from rfl] at hw128_3)
   (try rw [Addr.add_zero'] at hw128_3)
   have hw128_2:=hx128_2
   (try rw [show ((0 : Int)).toNat = 0 from rfl] at hw128_2)
   (try rw [show 0*4 = 0 from rfl] at hw128_2)
   (try rw [Addr.add_zero'] at hw128_2)
   have hw128_1:=hx128_1
   (try rw [show ((0 : Int)).toNat = 0 from rfl] at hw128_1)
   (try rw [show 0*4 = 0 from rfl] at hw128_1)
   (try rw [Addr.add_zero'] at hw128_1)
   have hw128_0:=hx128_0
   (try rw [show ((0 : Int)).toNat = 0 from rfl] at hw128_0)
   (try rw [show 0*4 = 0 from rfl] at hw128_0)
   (try rw [Addr.add_zero'] at hw128_0)
   cases e128
   have qi128 : (0 < l0.length) = True:=eq_true (by omega)
   (try rw [show ((0 : Int)).toNat = 0 from rfl] at hx128_0)
   (try rw [show 0*4 = 0 from rfl] at hx128_0)
   (try rw [Addr.add_zero'] at hx128_0)
   (try rw [show ((0 : Int)).toNat = 0 from rfl] at hx128_1)
   (try rw [show 0*4 = 0 from rfl] at hx128_1)
   (try rw [Addr.add_zero'] at hx128_1)
   (try rw [show ((0 : Int)).toNat = 0 from rfl] at hx128_2)
   (try rw [show 0*4 = 0 from rfl] at hx128_2)
   (try rw [Addr.add_zero'] at hx128_2)
   (try rw [show ((0 : Int)).toNat = 0 from rfl] at hx128_3)
   (try rw [show 0*4 = 0 from rfl] at hx128_3)
   (try rw [Addr.add_zero'] at hx128_3)
   replace hx128_0:=(HB.out.cell (World.block_lt_of_cell? w _ hx128_0)).trans hx128_0
   replace hx128_1:=(HB.out.cell (World.block_lt_of_cell? w _ hx128_1)).trans hx128_1
   replace hx128_2:=(HB.out.cell (World.block_lt_of_cell? w _ hx128_2)).trans hx128_2
   replace hx128_3:=(HB.out.cell (World.block_lt_of_cell? w _ hx128_3)).trans hx128_3
   replace p128:=eq_true p128
   replace q128:=eq_true q128
   have p129 : 0 ≤ (1 : Int):=(by omega)
   have q129 : 1 < (l0.length : Int):=of_decide_eq_true (by first|(with_reducible assumption)|assumption)
   obtain ⟨ad129,e129,hx129_0,hx129_1,hx129_2,hx129_3⟩:=at_T35 HR0.out 1 p129 q129
   have hw129_3:=hx129_3
   (try rw [show ((1 : Int)).toNat = 1 from rfl] at hw129_3)
   (try rw [show 1*4 = 4 from rfl] at hw129_3)
   (try simp only [Nat.reduceMul,Nat.reduceEqDiff,Go.Addr.add,↓reduceIte] at hw129_3)
   have hw129_2:=hx129_2
   (try rw [show ((1 : Int)).toNat = 1 from rfl] at hw129_2)
   (try rw [show 1*4 = 4 from rfl] at hw129_2)
   (try simp only [Nat.reduceMul,Nat.reduceEqDiff,Go.Addr.add,↓reduceIte] at hw129_2)
   have hw129_1:=hx129_1
   (try rw [show ((1 : Int)).toNat = 1 from rfl] at hw129_1)
   (try rw [show 1*4 = 4 from rfl] at hw129_1)
   (try simp only [Nat.reduceMul,Nat.reduceEqDiff,Go.Addr.add,↓reduceIte] at hw129_1)
   have hw129_0:=hx129_0
   (try rw [show ((1 : Int)).toNat = 1 from rfl] at hw129_0)
   (try rw [show 1*4 = 4 from rfl] at hw129_0)
   (try simp only [Nat.reduceMul,Nat.reduceEqDiff,Go.Addr.add,↓reduceIte] at hw129_0)
   obtain rfl : ad128 = ad129:=(by injection e129)
   (try simp only [show (1 : Int).toNat = 1 from rfl,Nat.reduceMul,Nat.reduceEqDiff,Go.Addr.add,↓reduceIte] at hx129_0)
   (try simp only [show (1 : Int).toNat = 1 from rfl,Nat.reduceMul,Nat.reduceEqDiff,Go.Addr.add,↓reduceIte] at hx129_1)
   (try simp only [show (1 : Int).toNat = 1 from rfl,Nat.reduceMul,Nat.reduceEqDiff,Go.Addr.add,↓reduceIte] at hx129_2)
   (try simp only [show (1 : Int).toNat = 1 from rfl,Nat.reduceMul,Nat.reduceEqDiff,Go.Addr.add,↓reduceIte] at hx129_3)
   have qi129 : (1 < l0.length) = True:=eq_true (by omega)
   (try rw [show ((1 : Int)).toNat = 1 from rfl] at hx129_0)
   (try rw [show 1*4 = 4 from rfl] at hx129_0)
   (try rw [show ((1 : Int)).toNat = 1 from rfl] at hx129_1)
   (try rw [show 1*4 = 4 from rfl] at hx129_1)
   (try rw [show ((1 : Int)).toNat = 1 from rfl] at hx129_2)
   (try rw [show 1*4 = 4 from rfl] at hx129_2)
   (try rw [show ((1 : Int)).toNat = 1 from rfl] at hx129_3)
   (try rw [show 1*4 = 4 from rfl] at hx129_3)
   replace hx129_0:=(HB.out.cell (World.block_lt_of_cell? w _ hx129_0)).trans hx129_0
   replace hx129_1:=(HB.out.cell (World.block_lt_of_cell? w _ hx129_1)).trans hx129_1
   replace hx129_2:=(HB.out.cell (World.block_lt_of_cell? w _ hx129_2)).trans hx129_2
   replace hx129_3:=(HB.out.cell (World.block_lt_of_cell? w _ hx129_3)).trans hx129_3
   replace p129:=eq_true p129
   replace q129:=eq_true q129
   refine start_ (n:=9) (S:=fun w' => w'.cell? ad128 = some (.int .i64 ((rd_T35 l0 0).f0))∧w'.cell? ⟨ad128.block,ad128.off+1,none⟩ = some (.int .i64 ((rd_T35 l0 0).f1))∧w'.cell? ⟨ad128.block,ad128.off+2,none⟩ = some (.int .i64 ((rd_T35 l0 0).f2))∧w'.cell? ⟨ad128.block,ad128.off+3,none⟩ = some (.int .i64 ((rd_T35 l0 0).f3))∧w'.cell? ⟨ad128.block,ad128.off+4,none⟩ = some (.int .i64 ((rd_T35 l0 1).f0))∧w'.cell? ⟨ad128.block,ad128.off+4+1,none⟩ = some (.int .i64 ((rd_T35 l0 1).f1))∧w'.cell? ⟨ad128.block,ad128.off+4+2,none⟩ = some (.int .i64 ((rd_T35 l0 1).f2))∧w'.cell? ⟨ad128.block,ad128.off+4+3,none⟩ = some (.int .i64 ((rd_T35 l0 1).f3))) (ds:=[]) #[ff,ff,ff,ff,ff,ff,ff,ff,ff] (by kernel_rfl) rfl rfl ⟨((HB.out.cell (World.block_lt_of_cell? w _ hw128_0)).trans hw128_0),((HB.out.cell (World.block_lt_of_cell? w _ hw128_1)).trans hw128_1),((HB.out.cell (World.block_lt_of_cell? w _ hw128_2)).trans hw128_2),((HB.out.cell (World.block_lt_of_cell? w _ hw128_3)).trans hw128_3),((HB.out.cell (World.block_lt_of_cell? w _ hw129_0)).trans hw129_0),((HB.out.cell (World.block_lt_of_cell? w _ hw129_1)).trans hw129_1),((HB.out.cell (World.block_lt_of_cell? w _ hw129_2)).trans hw129_2),((HB.out.cell (World.block_lt_of_cell? w _ hw129_3)).trans hw129_3)⟩ (fun hHeld => ?_);refine with_tabW key_seeds.tab2 key_seeds.bits2 (fun HT_ HW_ => ?_)
   generalize w.drew = w5 at HB hx128_0 hx128_1 hx128_2 hx128_3 hx129_0 hx129_1 hx129_2 hx129_3 hHeld ⊢
   refine pure_ (i:=0) (N:=some 10) (v:=?_) (a':=?_) #[tt,ff,ff,ff,ff,ff,ff,ff,ff] rfl rfl (any_of HT_.out (by kernel_rfl)) (fun _ _ _ h => h) (Or.inl ⟨by rfl,?_⟩) ?_ ?_
   rotate_left
   ·intro w'
    go_simp
    with_reducible rfl
   rotate_left
   ·simp only [Act.put,sA,sZ,sS,i64_w,i32_w]
    rfl
   refine pure_ (i:=1) (N:=some 11) (v:=?_) (a':=?_) #[tt,tt,ff,ff,ff,ff,ff,ff,ff] rfl rfl (any_of HT_.out (by kernel_rfl)) (fun _ _ _ h => h) (Or.inl ⟨by rfl,?_⟩) ?_ ?_
   rotate_left
   ·intro w'
    go_simp
    with_reducible rfl
   rotate_left
   ·simp only [Act.put,sA,sZ,sS,i64_w,i32_w]
    rfl
   refine pure_ (i:=3) (N:=some 13) (v:=?_) (a':=?_) #[tt,tt,ff,tt,ff,ff,ff,ff,ff] rfl rfl (any_of HT_.out (by kernel_rfl)) (fun _ _ _ h => h) (Or.inl ⟨by rfl,?_⟩) ?_ ?_
   rotate_left
   ·intro w'
    go_simp
    with_reducible rfl
   rotate_left
   ·simp only [Act.put,sA,sZ,sS,i64_w,i32_w]
    rfl
   refine pure_ (i:=4) (N:=some 14) (v:=?_) (a':=?_) #[tt,tt,ff,tt,tt,ff,ff,ff,ff] rfl rfl (any_of HT_.out (by kernel_rfl)) (fun _ _ _ h => h) (Or.inl ⟨by rfl,?_⟩) ?_ ?_
   rotate_left
   ·intro w'
    go_simp
    with_reducible rfl
   rotate_left
   ·simp only [Act.put,sA,sZ,sS,i64_w,i32_w]
    rfl
   refine take_ (i:=2) (N:=some 12) (v:=?_) (a':=?_) #[tt,tt,tt,tt,tt,ff,ff,ff,ff] rfl rfl (take_ofW HT_.out HW_.out (by kernel_rfl)) (fun _ _ _ h => h) (Or.inl ⟨by rfl,?_⟩) hHeld ?_ ?_
   rotate_left
   ·rintro w' ⟨s0,s1,s2,s3,s4,s5,s6,s7⟩
    go_simp
    with_reducible rfl
   rotate_left
   ·simp only [Act.put,sA,sZ,sS,i64_w,i32_w]
    rfl
   refine take_ (i:=5) (N:=some 15) (v:=?_) (a':=?_) #[tt,tt,tt,tt,tt,tt,ff,ff,ff] rfl rfl (take_ofW HT_.out HW_.out (by kernel_rfl)) (fun _ _ _ h => h) (Or.inl ⟨by rfl,?_⟩) hHeld ?_ ?_
   rotate_left
   ·rintro w' ⟨s0,s1,s2,s3,s4,s5,s6,s7⟩
    go_simp
    with_reducible rfl
   rotate_left
   ·simp only [Act.put,sA,sZ,sS,i64_w,i32_w]
    rfl
   refine join_ (σ:=Nat) 1 #[tt,tt,tt,tt,tt,tt,tt,tt,ff] (fun s_ => [(16,.agg #[.int .u64 t130,.int .u64 t131,.int .u64 t132,.int .u64 t133]),(6,.pointer (some ⟨s_,0,none⟩))]) (fun s_ w' => (w'.cell? ad128 = some (.int .i64 ((rd_T35 l0 0).f0))∧w'.cell? ⟨ad128.block,ad128.off+1,none⟩ = some (.int .i64 ((rd_T35 l0 0).f1))∧w'.cell? ⟨ad128.block,ad128.off+2,none⟩ = some (.int .i64 ((rd_T35 l0 0).f2))∧w'.cell? ⟨ad128.block,ad128.off+3,none⟩ = some (.int .i64 ((rd_T35 l0 0).f3))∧w'.cell? ⟨ad128.block,ad128.off+4,none⟩ = some (.int .i64 ((rd_T35 l0 1).f0))∧w'.cell? ⟨ad128.block,ad128.off+4+1,none⟩ = some (.int .i64 ((rd_T35 l0 1).f1))∧w'.cell? ⟨ad128.block,ad128.off+4+2,none⟩ = some (.int .i64 ((rd_T35 l0 1).f2))∧w'.cell? ⟨ad128.block,ad128.off+4+3,none⟩ = some (.int .i64 ((rd_T35 l0 1).f3)))∧(w'.heap[s_]? = some (.cells #[.int .u64 0,.int .u64 0,.int .u64 0,.int .u64 0] 79 (0,0)))∧(w.heap.size ≤ s_)∧(w.heap.size ≤ s_)∧(Below w.heap.size w w')) ?_ ?_
   rotate_left
   ·intro hCont
    refine two_ (i:=6) (j:=7) (Ni:=some 16) (Nj:=some 6) #[tt,tt,tt,tt,tt,tt,tt,ff,ff] #[tt,tt,tt,tt,tt,tt,ff,tt,ff] rfl rfl rfl rfl (two_of HT_.out (by kernel_rfl)) (by decide) (by decide) (fun K hK => ?_) (fun K hK => ?_)
    ·skip
     refine goes_ Try.func63 (by kernel_rfl) rfl #[.agg #[.int .i64 ((rd_T35 l0 0).f0),.int .i64 ((rd_T35 l0 0).f1),.int .i64 ((rd_T35 l0 0).f2),.int .i64 ((rd_T35 l0 0).f3)],.agg #[.int .i64 ((rd_T35 l0 1).f0),.int .i64 ((rd_T35 l0 1).f1),.int .i64 ((rd_T35 l0 1).f2),.int .i64 ((rd_T35 l0 1).f3)]] (by rfl) rfl rfl (by (try simp only [List.map_toArray,List.map_cons,List.map_nil]);first|done|rfl|(simp only [List.length_drop,List.length_take];rfl)) ?_
     with_reducible refine (key_waste.calls ((rd_T35 l0 0).f0) ((rd_T35 l0 0).f1) ((rd_T35 l0 0).f2) ((rd_T35 l0 0).f3) ((rd_T35 l0 1).f0) ((rd_T35 l0 1).f1) ((rd_T35 l0 1).f2) ((rd_T35 l0 1).f3) t130 t131 t132 t133 _ A4.out).mono ?_
     rintro e w6 ⟨rfl,hb⟩
     refine ⟨_,rfl,?_⟩
     have n0_:=Kh HB hb
     clear HB
     have HB:=n0_
     clear n0_
     (try clear hb)
     (try clear hb2)
     (try clear hk)
     (try clear hi)
     refine hK.out _ _ ⟨((HB.out.cell (World.block_lt_of_cell? w _ hw128_0)).trans hw128_0),((HB.out.cell (World.block_lt_of_cell? w _ hw128_1)).trans hw128_1),((HB.out.cell (World.block_lt_of_cell? w _ hw128_2)).trans hw128_2),((HB.out.cell (World.block_lt_of_cell? w _ hw128_3)).trans hw128_3),((HB.out.cell (World.block_lt_of_cell? w _ hw129_0)).trans hw129_0),((HB.out.cell (World.block_lt_of_cell? w _ hw129_1)).trans hw129_1),((HB.out.cell (World.block_lt_of_cell? w _ hw129_2)).trans hw129_2),((HB.out.cell (World.block_lt_of_cell? w _ hw129_3)).trans hw129_3)⟩ (fun hHeld => ?_)
     clear hK K
     refine norm_ (a':=?_) ?_ ?_
     rotate_left
     ·show Act.put _ (some 16) _ = _
      simp only [Act.put,sA,sZ,sS,i64_w,i32_w]
      rfl
     refine one_ (i:=7) (N:=some 6) #[tt,tt,tt,tt,tt,tt,tt,tt,ff] rfl rfl (one_of HT_.out (by kernel_rfl)) (by decide) (fun K hK => ?_)
     refine box_step ?hg (N:=6) ?hd (cs:=#[.int .u64 0,.int .u64 0,.int .u64 0,.int .u64 0]) (t:=79) ?hr ?_;(case hd => rfl);(case hg => rfl);(case hr => first|(go_simp;done)|(go_simp;rfl))
     intro gb134 hg w7 hbox hb
     have n0_:=Kh HB hb
     have n1_:=Ak (hbox)
     have n2_:=Kz hg HB
     have n3_:=Kz hg HB
     clear HB
     have HB:=n0_;have BK134:=n1_;have GW134:=n2_;have GE134:=n3_
     clear n0_ n1_ n2_ n3_ hb hbox hg
     refine hK.out _ _ ⟨((HB.out.cell (World.block_lt_of_cell? w _ hw128_0)).trans hw128_0),((HB.out.cell (World.block_lt_of_cell? w _ hw128_1)).trans hw128_1),((HB.out.cell (World.block_lt_of_cell? w _ hw128_2)).trans hw128_2),((HB.out.cell (World.block_lt_of_cell? w _ hw128_3)).trans hw128_3),((HB.out.cell (World.block_lt_of_cell? w _ hw129_0)).trans hw129_0),((HB.out.cell (World.block_lt_of_cell? w _ hw129_1)).trans hw129_1),((HB.out.cell (World.block_lt_of_cell? w _ hw129_2)).trans hw129_2),((HB.out.cell (World.block_lt_of_cell? w _ hw129_3)).trans hw129_3)⟩ (fun hHeld => ?_)
     clear hK K
     refine norm_ (a':=?_) ?_ ?_
     rotate_left
     ·show Act.put _ (some 6) _ = _
      simp only [Act.put,sA,sZ,sS,i64_w,i32_w]
      rfl
     exact norm_ (by simp only [putAll,Act.put,sA,sZ,sS]) (hCont (gb134) _ ⟨hHeld,BK134.out,GW134.out,GE134.out,HB.out⟩)
    ·skip
     refine box_step ?hg (N:=6) ?hd (cs:=#[.int .u64 0,.int .u64 0,.int .u64 0,.int .u64 0]) (t:=79) ?hr ?_;(case hd => rfl);(case hg => rfl);(case hr => first|(go_simp;done)|(go_simp;rfl))
     intro gb134 hg w6 hbox hb
     have n0_:=Kh HB hb
     have n1_:=Ak (hbox)
     have n2_:=Kz hg HB
     have n3_:=Kz hg HB
     clear HB
     have HB:=n0_;have BK134:=n1_;have GW134:=n2_;have GE134:=n3_
     clear n0_ n1_ n2_ n3_ hb hbox hg
     refine hK.out _ _ ⟨((HB.out.cell (World.block_lt_of_cell? w _ hw128_0)).trans hw128_0),((HB.out.cell (World.block_lt_of_cell? w _ hw128_1)).trans hw128_1),((HB.out.cell (World.block_lt_of_cell? w _ hw128_2)).trans hw128_2),((HB.out.cell (World.block_lt_of_cell? w _ hw128_3)).trans hw128_3),((HB.out.cell (World.block_lt_of_cell? w _ hw129_0)).trans hw129_0),((HB.out.cell (World.block_lt_of_cell? w _ hw129_1)).trans hw129_1),((HB.out.cell (World.block_lt_of_cell? w _ hw129_2)).trans hw129_2),((HB.out.cell (World.block_lt_of_cell? w _ hw129_3)).trans hw129_3)⟩ (fun hHeld => ?_)
     clear hK K
     refine norm_ (a':=?_) ?_ ?_
     rotate_left
     ·show Act.put _ (some 6) _ = _
      simp only [Act.put,sA,sZ,sS,i64_w,i32_w]
      rfl
     refine one_ (i:=6) (N:=some 16) #[tt,tt,tt,tt,tt,tt,tt,tt,ff] rfl rfl (one_of HT_.out (by kernel_rfl)) (by decide) (fun K hK => ?_)
     refine goes_ Try.func63 (by kernel_rfl) rfl #[.agg #[.int .i64 ((rd_T35 l0 0).f0),.int .i64 ((rd_T35 l0 0).f1),.int .i64 ((rd_T35 l0 0).f2),.int .i64 ((rd_T35 l0 0).f3)],.agg #[.int .i64 ((rd_T35 l0 1).f0),.int .i64 ((rd_T35 l0 1).f1),.int .i64 ((rd_T35 l0 1).f2),.int .i64 ((rd_T35 l0 1).f3)]] (by rfl) rfl rfl (by (try simp only [List.map_toArray,List.map_cons,List.map_nil]);first|done|rfl|(simp only [List.length_drop,List.length_take];rfl)) ?_
     with_reducible refine (key_waste.calls ((rd_T35 l0 0).f0) ((rd_T35 l0 0).f1) ((rd_T35 l0 0).f2) ((rd_T35 l0 0).f3) ((rd_T35 l0 1).f0) ((rd_T35 l0 1).f1) ((rd_T35 l0 1).f2) ((rd_T35 l0 1).f3) t130 t131 t132 t133 _ A4.out).mono ?_
     rintro e w7 ⟨rfl,hb⟩
     refine ⟨_,rfl,?_⟩
     have n0_:=Kb BK134 hb
     have n1_:=Kh HB hb
     clear BK134 HB
     have BK134:=n0_;have HB:=n1_
     clear n0_ n1_
     (try clear hb)
     (try clear hb2)
     (try clear hk)
     (try clear hi)
     refine hK.out _ _ ⟨((HB.out.cell (World.block_lt_of_cell? w _ hw128_0)).trans hw128_0),((HB.out.cell (World.block_lt_of_cell? w _ hw128_1)).trans hw128_1),((HB.out.cell (World.block_lt_of_cell? w _ hw128_2)).trans hw128_2),((HB.out.cell (World.block_lt_of_cell? w _ hw128_3)).trans hw128_3),((HB.out.cell (World.block_lt_of_cell? w _ hw129_0)).trans hw129_0),((HB.out.cell (World.block_lt_of_cell? w _ hw129_1)).trans hw129_1),((HB.out.cell (World.block_lt_of_cell? w _ hw129_2)).trans hw129_2),((HB.out.cell (World.block_lt_of_cell? w _ hw129_3)).trans hw129_3)⟩ (fun hHeld => ?_)
     clear hK K
     refine norm_ (a':=?_) ?_ ?_
     rotate_left
     ·show Act.put _ (some 16) _ = _
      simp only [Act.put,sA,sZ,sS,i64_w,i32_w]
      rfl
     exact norm_ (by simp only [putAll,Act.put,sA,sZ,sS]) (hCont (gb134) _ ⟨hHeld,BK134.out,GW134.out,GE134.out,HB.out⟩)
   rintro gb134 w8 ⟨hS_,h0_,h1_,h2_,h3_⟩
   have n0_ : Aside0 (w8.heap[gb134]? = some (.cells #[.int .u64 0,.int .u64 0,.int .u64 0,.int .u64 0] 79 (0,0))):=⟨h0_⟩
   have n1_ : Aside0 (w.heap.size ≤ gb134):=⟨h1_⟩
   have n2_ : Aside0 (w.heap.size ≤ gb134):=⟨h2_⟩
   have n3_ : Aside0 (Below w.heap.size w w8):=⟨h3_⟩
   clear HB h0_ h1_ h2_ h3_
   have BK134:=n0_;have GW134:=n1_;have GE134:=n2_;have HB:=n3_
   clear n0_ n1_ n2_ n3_
   have hHeld : w8.cell? ad128 = some (.int .i64 ((rd_T35 l0 0).f0))∧w8.cell? ⟨ad128.block,ad128.off+1,none⟩ = some (.int .i64 ((rd_T35 l0 0).f1))∧w8.cell? ⟨ad128.block,ad128.off+2,none⟩ = some (.int .i64 ((rd_T35 l0 0).f2))∧w8.cell? ⟨ad128.block,ad128.off+3,none⟩ = some (.int .i64 ((rd_T35 l0 0).f3))∧w8.cell? ⟨ad128.block,ad128.off+4,none⟩ = some (.int .i64 ((rd_T35 l0 1).f0))∧w8.cell? ⟨ad128.block,ad128.off+4+1,none⟩ = some (.int .i64 ((rd_T35 l0 1).f1))∧w8.cell? ⟨ad128.block,ad128.off+4+2,none⟩ = some (.int .i64 ((rd_T35 l0 1).f2))∧w8.cell? ⟨ad128.block,ad128.off+4+3,none⟩ = some (.int .i64 ((rd_T35 l0 1).f3)):=hS_
   refine norm_ (a':=?_) ?_ ?_
   rotate_left
   ·simp only [putAll,Act.put,sA,sZ,sS]
    rfl
   refine one_ (i:=8) (N:=none) #[tt,tt,tt,tt,tt,tt,tt,tt,tt] rfl rfl (one_of HT_.out (by kernel_rfl)) (by decide) (fun K hK => ?_)
   have hs9 : w8.cell? ⟨gb134,0,none⟩ = some (.int .u64 0):=(kC BK134.out 0).trans rfl
   have hfs9:=blk_frozen BK134.out 0
   have hs10 : w8.cell? ⟨gb134,1,none⟩ = some (.int .u64 0):=(kC BK134.out 1).trans rfl
   have hfs10:=blk_frozen BK134.out 1
   have hs11 : w8.cell? ⟨gb134,2,none⟩ = some (.int .u64 0):=(kC BK134.out 2).trans rfl
   have hfs11:=blk_frozen BK134.out 2
   have hs12 : w8.cell? ⟨gb134,3,none⟩ = some (.int .u64 0):=(kC BK134.out 3).trans rfl
   have hfs12:=blk_frozen BK134.out 3
   refine skip_ (w1:=?_) (by rfl) rfl ?_ ?_
   rotate_left
   ·go_simp
    rfl
   refine hK.out _ _ ⟨((cell_far (p:=⟨gb134,_,none⟩) (Ke hw128_0 GW134) _).trans (((cell_far (p:=⟨gb134,_,none⟩) (Ke hw128_0 GW134) _).trans (((cell_far (p:=⟨gb134,_,none⟩) (Ke hw128_0 GW134) _).trans (((cell_far (p:=⟨gb134,_,none⟩) (Ke hw128_0 GW134) _).trans (hHeld.1)))))))),((cell_far (p:=⟨gb134,_,none⟩) (Ke hw128_1 GW134) _).trans (((cell_far (p:=⟨gb134,_,none⟩) (Ke hw128_1 GW134) _).trans (((cell_far (p:=⟨gb134,_,none⟩) (Ke hw128_1 GW134) _).trans (((cell_far (p:=⟨gb134,_,none⟩) (Ke hw128_1 GW134) _).trans (hHeld.2.1)))))))),((cell_far (p:=⟨gb134,_,none⟩) (Ke hw128_2 GW134) _).trans (((cell_far (p:=⟨gb134,_,none⟩) (Ke hw128_2 GW134) _).trans (((cell_far (p:=⟨gb134,_,none⟩) (Ke hw128_2 GW134) _).trans (((cell_far (p:=⟨gb134,_,none⟩) (Ke hw128_2 GW134) _).trans (hHeld.2.2.1)))))))),((cell_far (p:=⟨gb134,_,none⟩) (Ke hw128_3 GW134) _).trans (((cell_far (p:=⟨gb134,_,none⟩) (Ke hw128_3 GW134) _).trans (((cell_far (p:=⟨gb134,_,none⟩) (Ke hw128_3 GW134) _).trans (((cell_far (p:=⟨gb134,_,none⟩) (Ke hw128_3 GW134) _).trans (hHeld.2.2.2.1)))))))),((cell_far (p:=⟨gb134,_,none⟩) (Ke hw129_0 GW134) _).trans (((cell_far (p:=⟨gb134,_,none⟩) (Ke hw129_0 GW134) _).trans (((cell_far (p:=⟨gb134,_,none⟩) (Ke hw129_0 GW134) _).trans (((cell_far (p:=⟨gb134,_,none⟩) (Ke hw129_0 GW134) _).trans (hHeld.2.2.2.2.1)))))))),((cell_far (p:=⟨gb134,_,none⟩) (Ke hw129_1 GW134) _).trans (((cell_far (p:=⟨gb134,_,none⟩) (Ke hw129_1 GW134) _).trans (((cell_far (p:=⟨gb134,_,none⟩) (Ke hw129_1 GW134) _).trans (((cell_far (p:=⟨gb134,_,none⟩) (Ke hw129_1 GW134) _).trans (hHeld.2.2.2.2.2.1)))))))),((cell_far (p:=⟨gb134,_,none⟩) (Ke hw129_2 GW134) _).trans (((cell_far (p:=⟨gb134,_,none⟩) (Ke hw129_2 GW134) _).trans (((cell_far (p:=⟨gb134,_,none⟩) (Ke hw129_2 GW134) _).trans (((cell_far (p:=⟨gb134,_,none⟩) (Ke hw129_2 GW134) _).trans (hHeld.2.2.2.2.2.2.1)))))))),((cell_far (p:=⟨gb134,_,none⟩) (Ke hw129_3 GW134) _).trans (((cell_far (p:=⟨gb134,_,none⟩) (Ke hw129_3 GW134) _).trans (((cell_far (p:=⟨gb134,_,none⟩) (Ke hw129_3 GW134) _).trans (((cell_far (p:=⟨gb134,_,none⟩) (Ke hw129_3 GW134) _).trans (hHeld.2.2.2.2.2.2.2))))))))⟩ (fun hHeld => ?_)
   clear hK K
   refine done_ (done_of HT_.out (by kernel_rfl)) ?_
   try (go_wp2;repeat (any_goals (go_step3;go_wp2)))
   go_loopg [4,5,19] k (fun kq v4 v5 v19 w' => ∃ (x4_1 : Int) (x5_1 : Int) (x19_1 : Int) (x135000_1 : Int) (x135001_1 : Int) (x135002_1 : Int) (x135003_1 : Int),v4 = .int .i64 x4_1∧v5 = .int .i64 x5_1∧v19 = .int .i64 x19_1∧Aside0 (key_seeds.l0 kq l0 x4_1 x5_1 (l0.length : Int) x19_1 x135000_1 x135001_1 x135002_1 x135003_1 = some (r1,r2))∧Aside0 (kq ≤ k)∧Aside0 (w'.heap[gb134]? = some (.cells #[.int .u64 x135000_1,.int .u64 x135001_1,.int .u64 x135002_1,.int .u64 x135003_1] 79 (0,0)))∧Aside0 (Below w.heap.size w w'))
   case atStart => exact ⟨(0),(1),(0),(t130),(t131),(t132),(t133),(by first|rfl|(simp;done)|(simp [*];done)),(by first|rfl|(simp;done)|(simp [*];done)),(by first|rfl|(simp;done)|(simp [*];done)),H',⟨Nat.le_refl _⟩,⟨by (with_reducible repeat (first|refine kN ?_ _|refine kD ?_|refine kA ?_ _));refine blk_put (cs:=#[.int .u64 t130,.int .u64 t131,.int .u64 t132,.int .u64 0]) ?_ 3 _ rfl;(with_reducible repeat (first|refine kN ?_ _|refine kD ?_|refine kA ?_ _));refine blk_put (cs:=#[.int .u64 t130,.int .u64 t131,.int .u64 0,.int .u64 0]) ?_ 2 _ rfl;(with_reducible repeat (first|refine kN ?_ _|refine kD ?_|refine kA ?_ _));refine blk_put (cs:=#[.int .u64 t130,.int .u64 0,.int .u64 0,.int .u64 0]) ?_ 1 _ rfl;(with_reducible repeat (first|refine kN ?_ _|refine kD ?_|refine kA ?_ _));refine blk_put (cs:=#[.int .u64 0,.int .u64 0,.int .u64 0,.int .u64 0]) ?_ 0 _ rfl;(with_reducible repeat (first|refine kN ?_ _|refine kD ?_|refine kA ?_ _));exact BK134.out⟩,⟨by repeat (first|(with_reducible first|exact HB.out|apply bA|apply bN|apply bD|refine bS ?_ GE134.out)|exact HB.out)⟩⟩
   case round =>
    clear H'
    try clear p1
    try clear q1
    try clear hx1
    try clear qi1
    try clear c2
    try clear c2b0
    try clear c2b1
    try clear p2
    try clear c3
    try clear c3b0
    try clear c3b1
    try clear c5
    try clear c6
    try clear p12
    try clear q12
    try clear hx12
    try clear qi12
    try clear hx128_0
    try clear hx128_1
    try clear hx128_2
    try clear hx128_3
    try clear hx129_0
    try clear hx129_1
    try clear hx129_2
    try clear hx129_3
    try clear p128
    try clear p129
    try clear q128
    try clear q129
    obtain ⟨x4_1,x5_1,x19_1,x135000_1,x135001_1,x135002_1,x135003_1,rfl,rfl,rfl,HA,HK1,BK134,HB⟩:=hrel
    cases gk with
    | zero => exact absurd HA.out (by simp [key_seeds.l0])
    | succ k1 =>
     have H:=HA.out
     clear HA
     simp only [key_seeds.l0] at H
     by_cases c13 : x19_1 < (l0.length : Int)
     ·rw [if_pos c13] at H
      have c13b0 : decide (x19_1 < (l0.length : Int)) = true:=decide_eq_true c13
      clear c13
      have H':=Ak H
      clear H
      (go_wp2;repeat (any_goals (go_step3;go_wp2)))
      go_loopg [4,5,8] k1 (fun kq v4 v5 v8 w' => ∃ (x4_2 : Int) (x5_2 : Int) (x8_2 : Int) (x135000_2 : Int) (x135001_2 : Int) (x135002_2 : Int) (x135003_2 : Int),v4 = .int .i64 x4_2∧v5 = .int .i64 x5_2∧v8 = .int .i64 x8_2∧Aside0 (key_seeds.l1 kq l0 x4_2 x5_2 x19_1 x8_2 (l0.length : Int) x19_1 x135000_2 x135001_2 x135002_2 x135003_2 = some (r1,r2))∧Aside0 (kq ≤ k1)∧Aside0 (w'.heap[gb134]? = some (.cells #[.int .u64 x135000_2,.int .u64 x135001_2,.int .u64 x135002_2,.int .u64 x135003_2] 79 (0,0)))∧Aside0 (Below w.heap.size w w'))
      case atStart => exact ⟨(x4_1),(x5_1),(wrap64 (x19_1+1)),(x135000_1),(x135001_1),(x135002_1),(x135003_1),(by first|rfl|(simp;done)|(simp [*];done)),(by first|rfl|(simp;done)|(simp [*];done)),(by first|rfl|(simp;done)|(simp [*];done)),H',⟨Nat.le_refl _⟩,⟨by (with_reducible repeat (first|refine kN ?_ _|refine kD ?_|refine kA ?_ _));exact BK134.out⟩,⟨by repeat (first|(with_reducible first|exact HB.out|apply bA|apply bN|apply bD|refine bS ?_ GE134.out)|exact HB.out)⟩⟩
      case round =>
       clear H'
       try clear c1
       try clear p1
       try clear q1
       try clear hx1
       try clear qi1
       try clear c2
       try clear c2b0
       try clear c2b1
       try clear p2
       try clear c3
       try clear c3b0
       try clear c3b1
       try clear c5
       try clear c6
       try clear p6
       try clear p12
       try clear q12
       try clear hx12
       try clear qi12
       try clear c13
       try clear c13b0
       try clear hx128_0
       try clear hx128_1
       try clear hx128_2
       try clear hx128_3
       try clear hx129_0
       try clear hx129_1
       try clear hx129_2
       try clear hx129_3
       try clear p1
       try clear p12
       try clear p128
       try clear p129
       try clear p2
       try clear q1
       try clear q12
       try clear q128
       try clear q129
       obtain ⟨x4_2,x5_2,x8_2,x135000_2,x135001_2,x135002_2,x135003_2,rfl,rfl,rfl,HA,HK2,BK134,HB⟩:=hrel
       cases gk with
       | zero => exact absurd HA.out (by simp [key_seeds.l1])
       | succ k2 =>
        have H:=HA.out
        clear HA
        simp only [key_seeds.l1] at H
        by_cases c14 : x8_2 < (l0.length : Int)
        ·rw [if_pos c14] at H
         have c14b0 : decide (x8_2 < (l0.length : Int)) = true:=decide_eq_true c14
         clear c14
         by_cases c15 : (wrap64 (x19_1+1)) = (l0.length : Int)
         ·rw [if_pos c15] at H
          have c15b0 : ((wrap64 (x19_1+1)) == (l0.length : Int)) = true:=beq_iff_eq.mpr c15
          have c15b1 : ((wrap64 (x19_1+1)) != (l0.length : Int)) = false:=bne_eq_false_iff_eq.mpr c15
          clear c15
          simp only [Option.some.injEq,Prod.mk.injEq] at H
          obtain ⟨rfl,rfl⟩:=H
          (go_wp2;repeat (any_goals (go_step3;go_wp2)))
          ((try rw [Exit.noGoto_ret]);go_ret2)
          exact ⟨by first|rfl|(simp [errW_none,errW_some] <;> rfl)|(simp [*,errW_none,errW_some] <;> rfl),by repeat (first|(with_reducible first|exact HB.out|apply bA|apply bN|apply bD|refine bS ?_ GE134.out)|exact HB.out)⟩
         ·rw [if_neg c15] at H
          have c15b0 : ((wrap64 (x19_1+1)) == (l0.length : Int)) = false:=beq_eq_false_iff_ne.mpr c15
          have c15b1 : ((wrap64 (x19_1+1)) != (l0.length : Int)) = true:=bne_iff_ne.mpr c15
          by_cases c16 : 0 ≤ x19_1
          ·rw [if_pos c16] at H
           have c16b0 : decide (0 ≤ x19_1) = true:=decide_eq_true c16
           clear c16
           by_cases c17 : x19_1 < (l0.length : Int)
           ·rw [if_pos c17] at H
            have c17b0 : decide (x19_1 < (l0.length : Int)) = true:=decide_eq_true c17
            clear c17
            by_cases c18 : 0 ≤ x8_2
            ·rw [if_pos c18] at H
             have c18b0 : decide (0 ≤ x8_2) = true:=decide_eq_true c18
             clear c18
             replace H:=Option.bind_eq_some_iff.mp H
             obtain ⟨⟨t137,t138,t139,t140⟩,A190,H⟩:=H
             replace H : ((key_size_below.f x135000_2 x135001_2 x135002_2 x135003_2 t137 t138 t139 t140).bind fun t142 => (if t142 = true then (key_seeds.l1 k2 l0 x19_1 x8_2 x19_1 (wrap64 (x8_2+1)) (l0.length : Int) x19_1 t137 t138 t139 t140) else (key_seeds.l1 k2 l0 x4_2 x5_2 x19_1 (wrap64 (x8_2+1)) (l0.length : Int) x19_1 x135000_2 x135001_2 x135002_2 x135003_2))) = some (r1,r2):=H
             have A19:=Ak A190
             clear A190
             replace H:=Option.bind_eq_some_iff.mp H
             obtain ⟨t142,A200,H⟩:=H
             replace H : (if t142 = true then (key_seeds.l1 k2 l0 x19_1 x8_2 x19_1 (wrap64 (x8_2+1)) (l0.length : Int) x19_1 t137 t138 t139 t140) else (key_seeds.l1 k2 l0 x4_2 x5_2 x19_1 (wrap64 (x8_2+1)) (l0.length : Int) x19_1 x135000_2 x135001_2 x135002_2 x135003_2)) = some (r1,r2):=H
             have A20:=Ak A200
             clear A200
             by_cases c21 : t142 = true
             ·subst c21
              have H1 : (key_seeds.l1 k2 l0 x19_1 x8_2 x19_1 (wrap64 (x8_2+1)) (l0.length : Int) x19_1 t137 t138 t139 t140) = some (r1,r2):=by rw [if_pos rfl] at H;exact H
              clear H
              have H:=H1
              clear H1
              have H':=Ak H
              clear H
              try (go_wp2;repeat (any_goals (go_step3;go_wp2)))
              have n0_:=Ak (kD BK134.out)
              have n1_:=Ak (bD HB.out)
              clear BK134 HB
              have BK134:=n0_;have HB:=n1_
              clear n0_ n1_
              have p135 : 0 ≤ (x19_1 : Int):=of_decide_eq_true (by first|(with_reducible assumption)|assumption)
              have q135 : x19_1 < (l0.length : Int):=of_decide_eq_true (by first|(with_reducible assumption)|assumption)
              obtain ⟨ad135,e135,hx135_0,hx135_1,hx135_2,hx135_3⟩:=at_T35 HR0.out x19_1 p135 q135
              have hw135_3:=hx135_3
              have hw135_2:=hx135_2
              have hw135_1:=hx135_1
              have hw135_0:=hx135_0
              obtain rfl : ad128 = ad135:=(by injection e135)
              replace hx135_0:=(HB.out.cell (World.block_lt_of_cell? w _ hx135_0)).trans hx135_0
              replace hx135_1:=(HB.out.cell (World.block_lt_of_cell? w _ hx135_1)).trans hx135_1
              replace hx135_2:=(HB.out.cell (World.block_lt_of_cell? w _ hx135_2)).trans hx135_2
              replace hx135_3:=(HB.out.cell (World.block_lt_of_cell? w _ hx135_3)).trans hx135_3
              replace p135:=eq_true p135
              replace q135:=eq_true q135
              have p136 : 0 ≤ (x8_2 : Int):=of_decide_eq_true (by first|(with_reducible assumption)|assumption)
              have q136 : x8_2 < (l0.length : Int):=of_decide_eq_true (by first|(with_reducible assumption)|assumption)
              obtain ⟨ad136,e136,hx136_0,hx136_1,hx136_2,hx136_3⟩:=at_T35 HR0.out x8_2 p136 q136
              have hw136_3:=hx136_3
              have hw136_2:=hx136_2
              have hw136_1:=hx136_1
              have hw136_0:=hx136_0
              obtain rfl : ad128 = ad136:=(by injection e136)
              replace hx136_0:=(HB.out.cell (World.block_lt_of_cell? w _ hx136_0)).trans hx136_0
              replace hx136_1:=(HB.out.cell (World.block_lt_of_cell? w _ hx136_1)).trans hx136_1
              replace hx136_2:=(HB.out.cell (World.block_lt_of_cell? w _ hx136_2)).trans hx136_2
              replace hx136_3:=(HB.out.cell (World.block_lt_of_cell? w _ hx136_3)).trans hx136_3
              replace p136:=eq_true p136
              replace q136:=eq_true q136
              refine start_ (n:=11) (S:=fun w' => w'.cell? (ad128.add ((x19_1).toNat*4)) = some (.int .i64 ((rd_T35 l0 x19_1).f0))∧w'.cell? ⟨(ad128.add ((x19_1).toNat*4)).block,(ad128.add ((x19_1).toNat*4)).off+1,none⟩ = some (.int .i64 ((rd_T35 l0 x19_1).f1))∧w'.cell? ⟨(ad128.add ((x19_1).toNat*4)).block,(ad128.add ((x19_1).toNat*4)).off+2,none⟩ = some (.int .i64 ((rd_T35 l0 x19_1).f2))∧w'.cell? ⟨(ad128.add ((x19_1).toNat*4)).block,(ad128.add ((x19_1).toNat*4)).off+3,none⟩ = some (.int .i64 ((rd_T35 l0 x19_1).f3))∧w'.cell? (ad128.add ((x8_2).toNat*4)) = some (.int .i64 ((rd_T35 l0 x8_2).f0))∧w'.cell? ⟨(ad128.add ((x8_2).toNat*4)).block,(ad128.add ((x8_2).toNat*4)).off+1,none⟩ = some (.int .i64 ((rd_T35 l0 x8_2).f1))∧w'.cell? ⟨(ad128.add ((x8_2).toNat*4)).block,(ad128.add ((x8_2).toNat*4)).off+2,none⟩ = some (.int .i64 ((rd_T35 l0 x8_2).f2))∧w'.cell? ⟨(ad128.add ((x8_2).toNat*4)).block,(ad128.add ((x8_2).toNat*4)).off+3,none⟩ = some (.int .i64 ((rd_T35 l0 x8_2).f3))) (ds:=[]) #[ff,ff,ff,ff,ff,ff,ff,ff,ff,ff,ff] (by kernel_rfl) rfl rfl ⟨((HB.out.cell (World.block_lt_of_cell? w _ hw135_0)).trans hw135_0),((HB.out.cell (World.block_lt_of_cell? w _ hw135_1)).trans hw135_1),((HB.out.cell (World.block_lt_of_cell? w _ hw135_2)).trans hw135_2),((HB.out.cell (World.block_lt_of_cell? w _ hw135_3)).trans hw135_3),((HB.out.cell (World.block_lt_of_cell? w _ hw136_0)).trans hw136_0),((HB.out.cell (World.block_lt_of_cell? w _ hw136_1)).trans hw136_1),((HB.out.cell (World.block_lt_of_cell? w _ hw136_2)).trans hw136_2),((HB.out.cell (World.block_lt_of_cell? w _ hw136_3)).trans hw136_3)⟩ (fun hHeld => ?_);refine with_tabW key_seeds.tab10 key_seeds.bits10 (fun HT_ HW_ => ?_)
              generalize wr.drew = w22 at BK134 HB hx135_0 hx135_1 hx135_2 hx135_3 hx136_0 hx136_1 hx136_2 hx136_3 hHeld ⊢
              refine pure_ (i:=0) (N:=some 35) (v:=?_) (a':=?_) #[tt,ff,ff,ff,ff,ff,ff,ff,ff,ff,ff] rfl rfl (any_of HT_.out (by kernel_rfl)) (fun _ _ _ h => h) (Or.inl ⟨by rfl,?_⟩) ?_ ?_
              rotate_left
              ·intro w'
               go_simp
               with_reducible rfl
              rotate_left
              ·simp only [Act.put,sA,sZ,sS,i64_w,i32_w]
               rfl
              refine pure_ (i:=1) (N:=some 36) (v:=?_) (a':=?_) #[tt,tt,ff,ff,ff,ff,ff,ff,ff,ff,ff] rfl rfl (any_of HT_.out (by kernel_rfl)) (fun _ _ _ h => h) (Or.inl ⟨by rfl,?_⟩) ?_ ?_
              rotate_left
              ·intro w'
               go_simp
               with_reducible rfl
              rotate_left
              ·simp only [Act.put,sA,sZ,sS,i64_w,i32_w]
               rfl
              refine pure_ (i:=2) (N:=some 37) (v:=?_) (a':=?_) #[tt,tt,tt,ff,ff,ff,ff,ff,ff,ff,ff] rfl rfl (any_of HT_.out (by kernel_rfl)) (fun _ _ _ h => h) (Or.inl ⟨by rfl,?_⟩) ?_ ?_
              rotate_left
              ·intro w'
               go_simp
               with_reducible rfl
              rotate_left
              ·simp only [Act.put,sA,sZ,sS,i64_w,i32_w]
               rfl
              refine pure_ (i:=4) (N:=some 39) (v:=?_) (a':=?_) #[tt,tt,tt,ff,tt,ff,ff,ff,ff,ff,ff] rfl rfl (any_of HT_.out (by kernel_rfl)) (fun _ _ _ h => h) (Or.inl ⟨by rfl,?_⟩) ?_ ?_
              rotate_left
              ·intro w'
               go_simp
               with_reducible rfl
              rotate_left
              ·simp only [Act.put,sA,sZ,sS,i64_w,i32_w]
               rfl
              refine pure_ (i:=5) (N:=some 40) (v:=?_) (a':=?_) #[tt,tt,tt,ff,tt,tt,ff,ff,ff,ff,ff] rfl rfl (any_of HT_.out (by kernel_rfl)) (fun _ _ _ h => h) (Or.inl ⟨by rfl,?_⟩) ?_ ?_
              rotate_left
              ·intro w'
               go_simp
               with_reducible rfl
              rotate_left
              ·simp only [Act.put,sA,sZ,sS,i64_w,i32_w]
               rfl
              refine pure_ (i:=6) (N:=some 41) (v:=?_) (a':=?_) #[tt,tt,tt,ff,tt,tt,tt,ff,ff,ff,ff] rfl rfl (any_of HT_.out (by kernel_rfl)) (fun _ _ _ h => h) (Or.inl ⟨by rfl,?_⟩) ?_ ?_
              rotate_left
              ·intro w'
               go_simp
               with_reducible rfl
              rotate_left
              ·simp only [Act.put,sA,sZ,sS,i64_w,i32_w]
               rfl
              refine take_ (i:=3) (N:=some 38) (v:=?_) (a':=?_) #[tt,tt,tt,tt,tt,tt,tt,ff,ff,ff,ff] rfl rfl (take_ofW HT_.out HW_.out (by kernel_rfl)) (fun _ _ _ h => h) (Or.inl ⟨by rfl,?_⟩) hHeld ?_ ?_
              rotate_left
              ·rintro w' ⟨s0,s1,s2,s3,s4,s5,s6,s7⟩
               go_simp
               with_reducible rfl
              rotate_left
              ·simp only [Act.put,sA,sZ,sS,i64_w,i32_w]
               rfl
              refine take_ (i:=7) (N:=some 42) (v:=?_) (a':=?_) #[tt,tt,tt,tt,tt,tt,tt,tt,ff,ff,ff] rfl rfl (take_ofW HT_.out HW_.out (by kernel_rfl)) (fun _ _ _ h => h) (Or.inl ⟨by rfl,?_⟩) hHeld ?_ ?_
              rotate_left
              ·rintro w' ⟨s0,s1,s2,s3,s4,s5,s6,s7⟩
               go_simp
               with_reducible rfl
              rotate_left
              ·simp only [Act.put,sA,sZ,sS,i64_w,i32_w]
               rfl
              refine join_ (σ:=Nat) 1 #[tt,tt,tt,tt,tt,tt,tt,tt,tt,tt,ff] (fun s_ => [(43,.agg #[.int .u64 t137,.int .u64 t138,.int .u64 t139,.int .u64 t140]),(9,.pointer (some ⟨s_,0,none⟩))]) (fun s_ w' => (w'.cell? (ad128.add ((x19_1).toNat*4)) = some (.int .i64 ((rd_T35 l0 x19_1).f0))∧w'.cell? ⟨(ad128.add ((x19_1).toNat*4)).block,(ad128.add ((x19_1).toNat*4)).off+1,none⟩ = some (.int .i64 ((rd_T35 l0 x19_1).f1))∧w'.cell? ⟨(ad128.add ((x19_1).toNat*4)).block,(ad128.add ((x19_1).toNat*4)).off+2,none⟩ = some (.int .i64 ((rd_T35 l0 x19_1).f2))∧w'.cell? ⟨(ad128.add ((x19_1).toNat*4)).block,(ad128.add ((x19_1).toNat*4)).off+3,none⟩ = some (.int .i64 ((rd_T35 l0 x19_1).f3))∧w'.cell? (ad128.add ((x8_2).toNat*4)) = some (.int .i64 ((rd_T35 l0 x8_2).f0))∧w'.cell? ⟨(ad128.add ((x8_2).toNat*4)).block,(ad128.add ((x8_2).toNat*4)).off+1,none⟩ = some (.int .i64 ((rd_T35 l0 x8_2).f1))∧w'.cell? ⟨(ad128.add ((x8_2).toNat*4)).block,(ad128.add ((x8_2).toNat*4)).off+2,none⟩ = some (.int .i64 ((rd_T35 l0 x8_2).f2))∧w'.cell? ⟨(ad128.add ((x8_2).toNat*4)).block,(ad128.add ((x8_2).toNat*4)).off+3,none⟩ = some (.int .i64 ((rd_T35 l0 x8_2).f3)))∧(w'.heap[gb134]? = some (.cells #[.int .u64 x135000_2,.int .u64 x135001_2,.int .u64 x135002_2,.int .u64 x135003_2] 79 (0,0)))∧(w'.heap[s_]? = some (.cells #[.int .u64 0,.int .u64 0,.int .u64 0,.int .u64 0] 79 (0,0)))∧(w.heap.size ≤ s_)∧(w.heap.size ≤ s_)∧(gb134 ≠ s_)∧(s_ ≠ gb134)∧(Below w.heap.size w w')) ?_ ?_
              rotate_left
              ·intro hCont
               refine two_ (i:=8) (j:=9) (Ni:=some 43) (Nj:=some 9) #[tt,tt,tt,tt,tt,tt,tt,tt,tt,ff,ff] #[tt,tt,tt,tt,tt,tt,tt,tt,ff,tt,ff] rfl rfl rfl rfl (two_of HT_.out (by kernel_rfl)) (by decide) (by decide) (fun K hK => ?_) (fun K hK => ?_)
               ·skip
                refine goes_ Try.func63 (by kernel_rfl) rfl #[.agg #[.int .i64 ((rd_T35 l0 x19_1).f0),.int .i64 ((rd_T35 l0 x19_1).f1),.int .i64 ((rd_T35 l0 x19_1).f2),.int .i64 ((rd_T35 l0 x19_1).f3)],.agg #[.int .i64 ((rd_T35 l0 x8_2).f0),.int .i64 ((rd_T35 l0 x8_2).f1),.int .i64 ((rd_T35 l0 x8_2).f2),.int .i64 ((rd_T35 l0 x8_2).f3)]] (by rfl) rfl rfl (by (try simp only [List.map_toArray,List.map_cons,List.map_nil]);first|done|rfl|(simp only [List.length_drop,List.length_take];rfl)) ?_
                with_reducible refine (key_waste.calls ((rd_T35 l0 x19_1).f0) ((rd_T35 l0 x19_1).f1) ((rd_T35 l0 x19_1).f2) ((rd_T35 l0 x19_1).f3) ((rd_T35 l0 x8_2).f0) ((rd_T35 l0 x8_2).f1) ((rd_T35 l0 x8_2).f2) ((rd_T35 l0 x8_2).f3) t137 t138 t139 t140 _ A19.out).mono ?_
                rintro e w23 ⟨rfl,hb⟩
                refine ⟨_,rfl,?_⟩
                have n0_:=Kb BK134 hb
                have n1_:=Kh HB hb
                clear BK134 HB
                have BK134:=n0_;have HB:=n1_
                clear n0_ n1_
                (try clear hb)
                (try clear hb2)
                (try clear hk)
                (try clear hi)
                refine hK.out _ _ ⟨((HB.out.cell (World.block_lt_of_cell? w _ hw135_0)).trans hw135_0),((HB.out.cell (World.block_lt_of_cell? w _ hw135_1)).trans hw135_1),((HB.out.cell (World.block_lt_of_cell? w _ hw135_2)).trans hw135_2),((HB.out.cell (World.block_lt_of_cell? w _ hw135_3)).trans hw135_3),((HB.out.cell (World.block_lt_of_cell? w _ hw136_0)).trans hw136_0),((HB.out.cell (World.block_lt_of_cell? w _ hw136_1)).trans hw136_1),((HB.out.cell (World.block_lt_of_cell? w _ hw136_2)).trans hw136_2),((HB.out.cell (World.block_lt_of_cell? w _ hw136_3)).trans hw136_3)⟩ (fun hHeld => ?_)
                clear hK K
                refine norm_ (a':=?_) ?_ ?_
                rotate_left
                ·show Act.put _ (some 43) _ = _
                 simp only [Act.put,sA,sZ,sS,i64_w,i32_w]
                 rfl
                refine one_ (i:=9) (N:=some 9) #[tt,tt,tt,tt,tt,tt,tt,tt,tt,tt,ff] rfl rfl (one_of HT_.out (by kernel_rfl)) (by decide) (fun K hK => ?_)
                refine box_step ?hg (N:=9) ?hd (cs:=#[.int .u64 0,.int .u64 0,.int .u64 0,.int .u64 0]) (t:=79) ?hr ?_;(case hd => rfl);(case hg => rfl);(case hr => first|(go_simp;done)|(go_simp;rfl))
                intro gb141 hg w24 hbox hb
                have n0_:=Kb BK134 hb
                have n1_:=Kh HB hb
                have n2_:=Ak (hbox)
                have n3_:=Kz hg HB
                have n4_:=Kz hg HB
                have n5_:=Kl hg BK134
                have n6_:=Km hg BK134
                clear BK134 HB
                have BK134:=n0_;have HB:=n1_;have BK141:=n2_;have GW141:=n3_;have GE141:=n4_;have NB134_141:=n5_;have NB141_134:=n6_
                clear n0_ n1_ n2_ n3_ n4_ n5_ n6_ hb hbox hg
                refine hK.out _ _ ⟨((HB.out.cell (World.block_lt_of_cell? w _ hw135_0)).trans hw135_0),((HB.out.cell (World.block_lt_of_cell? w _ hw135_1)).trans hw135_1),((HB.out.cell (World.block_lt_of_cell? w _ hw135_2)).trans hw135_2),((HB.out.cell (World.block_lt_of_cell? w _ hw135_3)).trans hw135_3),((HB.out.cell (World.block_lt_of_cell? w _ hw136_0)).trans hw136_0),((HB.out.cell (World.block_lt_of_cell? w _ hw136_1)).trans hw136_1),((HB.out.cell (World.block_lt_of_cell? w _ hw136_2)).trans hw136_2),((HB.out.cell (World.block_lt_of_cell? w _ hw136_3)).trans hw136_3)⟩ (fun hHeld => ?_)
                clear hK K
                refine norm_ (a':=?_) ?_ ?_
                rotate_left
                ·show Act.put _ (some 9) _ = _
                 simp only [Act.put,sA,sZ,sS,i64_w,i32_w]
                 rfl
                exact norm_ (by simp only [putAll,Act.put,sA,sZ,sS]) (hCont (gb141) _ ⟨hHeld,BK134.out,BK141.out,GW141.out,GE141.out,NB134_141.out,NB141_134.out,HB.out⟩)
               ·skip
                refine box_step ?hg (N:=9) ?hd (cs:=#[.int .u64 0,.int .u64 0,.int .u64 0,.int .u64 0]) (t:=79) ?hr ?_;(case hd => rfl);(case hg => rfl);(case hr => first|(go_simp;done)|(go_simp;rfl))
                intro gb141 hg w23 hbox hb
                have n0_:=Kb BK134 hb
                have n1_:=Kh HB hb
                have n2_:=Ak (hbox)
                have n3_:=Kz hg HB
                have n4_:=Kz hg HB
                have n5_:=Kl hg BK134
                have n6_:=Km hg BK134
                clear BK134 HB
                have BK134:=n0_;have HB:=n1_;have BK141:=n2_;have GW141:=n3_;have GE141:=n4_;have NB134_141:=n5_;have NB141_134:=n6_
                clear n0_ n1_ n2_ n3_ n4_ n5_ n6_ hb hbox hg
                refine hK.out _ _ ⟨((HB.out.cell (World.block_lt_of_cell? w _ hw135_0)).trans hw135_0),((HB.out.cell (World.block_lt_of_cell? w _ hw135_1)).trans hw135_1),((HB.out.cell (World.block_lt_of_cell? w _ hw135_2)).trans hw135_2),((HB.out.cell (World.block_lt_of_cell? w _ hw135_3)).trans hw135_3),((HB.out.cell (World.block_lt_of_cell? w _ hw136_0)).trans hw136_0),((HB.out.cell (World.block_lt_of_cell? w _ hw136_1)).trans hw136_1),((HB.out.cell (World.block_lt_of_cell? w _ hw136_2)).trans hw136_2),((HB.out.cell (World.block_lt_of_cell? w _ hw136_3)).trans hw136_3)⟩ (fun hHeld => ?_)
                clear hK K
                refine norm_ (a':=?_) ?_ ?_
                rotate_left
                ·show Act.put _ (some 9) _ = _
                 simp only [Act.put,sA,sZ,sS,i64_w,i32_w]
                 rfl
                refine one_ (i:=8) (N:=some 43) #[tt,tt,tt,tt,tt,tt,tt,tt,tt,tt,ff] rfl rfl (one_of HT_.out (by kernel_rfl)) (by decide) (fun K hK => ?_)
                refine goes_ Try.func63 (by kernel_rfl) rfl #[.agg #[.int .i64 ((rd_T35 l0 x19_1).f0),.int .i64 ((rd_T35 l0 x19_1).f1),.int .i64 ((rd_T35 l0 x19_1).f2),.int .i64 ((rd_T35 l0 x19_1).f3)],.agg #[.int .i64 ((rd_T35 l0 x8_2).f0),.int .i64 ((rd_T35 l0 x8_2).f1),.int .i64 ((rd_T35 l0 x8_2).f2),.int .i64 ((rd_T35 l0 x8_2).f3)]] (by rfl) rfl rfl (by (try simp only [List.map_toArray,List.map_cons,List.map_nil]);first|done|rfl|(simp only [List.length_drop,List.length_take];rfl)) ?_
                with_reducible refine (key_waste.calls ((rd_T35 l0 x19_1).f0) ((rd_T35 l0 x19_1).f1) ((rd_T35 l0 x19_1).f2) ((rd_T35 l0 x19_1).f3) ((rd_T35 l0 x8_2).f0) ((rd_T35 l0 x8_2).f1) ((rd_T35 l0 x8_2).f2) ((rd_T35 l0 x8_2).f3) t137 t138 t139 t140 _ A19.out).mono ?_
                rintro e w24 ⟨rfl,hb⟩
                refine ⟨_,rfl,?_⟩
                have n0_:=Kb BK134 hb
                have n1_:=Kb BK141 hb
                have n2_:=Kh HB hb
                clear BK134 BK141 HB
                have BK134:=n0_;have BK141:=n1_;have HB:=n2_
                clear n0_ n1_ n2_
                (try clear hb)
                (try clear hb2)
                (try clear hk)
                (try clear hi)
                refine hK.out _ _ ⟨((HB.out.cell (World.block_lt_of_cell? w _ hw135_0)).trans hw135_0),((HB.out.cell (World.block_lt_of_cell? w _ hw135_1)).trans hw135_1),((HB.out.cell (World.block_lt_of_cell? w _ hw135_2)).trans hw135_2),((HB.out.cell (World.block_lt_of_cell? w _ hw135_3)).trans hw135_3),((HB.out.cell (World.block_lt_of_cell? w _ hw136_0)).trans hw136_0),((HB.out.cell (World.block_lt_of_cell? w _ hw136_1)).trans hw136_1),((HB.out.cell (World.block_lt_of_cell? w _ hw136_2)).trans hw136_2),((HB.out.cell (World.block_lt_of_cell? w _ hw136_3)).trans hw136_3)⟩ (fun hHeld => ?_)
                clear hK K
                refine norm_ (a':=?_) ?_ ?_
                rotate_left
                ·show Act.put _ (some 43) _ = _
                 simp only [Act.put,sA,sZ,sS,i64_w,i32_w]
                 rfl
                exact norm_ (by simp only [putAll,Act.put,sA,sZ,sS]) (hCont (gb141) _ ⟨hHeld,BK134.out,BK141.out,GW141.out,GE141.out,NB134_141.out,NB141_134.out,HB.out⟩)
              rintro gb141 w25 ⟨hS_,h0_,h1_,h2_,h3_,h4_,h5_,h6_⟩
              have n0_ : Aside0 (w25.heap[gb134]? = some (.cells #[.int .u64 x135000_2,.int .u64 x135001_2,.int .u64 x135002_2,.int .u64 x135003_2] 79 (0,0))):=⟨h0_⟩
              have n1_ : Aside0 (w25.heap[gb141]? = some (.cells #[.int .u64 0,.int .u64 0,.int .u64 0,.int .u64 0] 79 (0,0))):=⟨h1_⟩
              have n2_ : Aside0 (w.heap.size ≤ gb141):=⟨h2_⟩
              have n3_ : Aside0 (w.heap.size ≤ gb141):=⟨h3_⟩
              have n4_ : Aside0 (gb134 ≠ gb141):=⟨h4_⟩
              have n5_ : Aside0 (gb141 ≠ gb134):=⟨h5_⟩
              have n6_ : Aside0 (Below w.heap.size w w25):=⟨h6_⟩
              clear BK134 HB h0_ h1_ h2_ h3_ h4_ h5_ h6_
              have BK134:=n0_;have BK141:=n1_;have GW141:=n2_;have GE141:=n3_;have NB134_141:=n4_;have NB141_134:=n5_;have HB:=n6_
              clear n0_ n1_ n2_ n3_ n4_ n5_ n6_
              have hHeld : w25.cell? (ad128.add ((x19_1).toNat*4)) = some (.int .i64 ((rd_T35 l0 x19_1).f0))∧w25.cell? ⟨(ad128.add ((x19_1).toNat*4)).block,(ad128.add ((x19_1).toNat*4)).off+1,none⟩ = some (.int .i64 ((rd_T35 l0 x19_1).f1))∧w25.cell? ⟨(ad128.add ((x19_1).toNat*4)).block,(ad128.add ((x19_1).toNat*4)).off+2,none⟩ = some (.int .i64 ((rd_T35 l0 x19_1).f2))∧w25.cell? ⟨(ad128.add ((x19_1).toNat*4)).block,(ad128.add ((x19_1).toNat*4)).off+3,none⟩ = some (.int .i64 ((rd_T35 l0 x19_1).f3))∧w25.cell? (ad128.add ((x8_2).toNat*4)) = some (.int .i64 ((rd_T35 l0 x8_2).f0))∧w25.cell? ⟨(ad128.add ((x8_2).toNat*4)).block,(ad128.add ((x8_2).toNat*4)).off+1,none⟩ = some (.int .i64 ((rd_T35 l0 x8_2).f1))∧w25.cell? ⟨(ad128.add ((x8_2).toNat*4)).block,(ad128.add ((x8_2).toNat*4)).off+2,none⟩ = some (.int .i64 ((rd_T35 l0 x8_2).f2))∧w25.cell? ⟨(ad128.add ((x8_2).toNat*4)).block,(ad128.add ((x8_2).toNat*4)).off+3,none⟩ = some (.int .i64 ((rd_T35 l0 x8_2).f3)):=hS_
              refine norm_ (a':=?_) ?_ ?_
              rotate_left
              ·simp only [putAll,Act.put,sA,sZ,sS]
               rfl
              refine one_ (i:=10) (N:=none) #[tt,tt,tt,tt,tt,tt,tt,tt,tt,tt,tt] rfl rfl (one_of HT_.out (by kernel_rfl)) (by decide) (fun K hK => ?_)
              have hs26 : w25.cell? ⟨gb141,0,none⟩ = some (.int .u64 0):=(kC BK141.out 0).trans rfl
              have hfs26:=blk_frozen BK141.out 0
              have hns26_0:=NB134_141.out
              have hms26_0:=NB141_134.out
              have hs27 : w25.cell? ⟨gb141,1,none⟩ = some (.int .u64 0):=(kC BK141.out 1).trans rfl
              have hfs27:=blk_frozen BK141.out 1
              have hns27_0:=NB134_141.out
              have hms27_0:=NB141_134.out
              have hs28 : w25.cell? ⟨gb141,2,none⟩ = some (.int .u64 0):=(kC BK141.out 2).trans rfl
              have hfs28:=blk_frozen BK141.out 2
              have hns28_0:=NB134_141.out
              have hms28_0:=NB141_134.out
              have hs29 : w25.cell? ⟨gb141,3,none⟩ = some (.int .u64 0):=(kC BK141.out 3).trans rfl
              have hfs29:=blk_frozen BK141.out 3
              have hns29_0:=NB134_141.out
              have hms29_0:=NB141_134.out
              refine skip_ (w1:=?_) (by rfl) rfl ?_ ?_
              rotate_left
              ·go_simp
               rfl
              refine hK.out _ _ ⟨((cell_far (p:=⟨gb141,_,none⟩) (Ke hw135_0 GW141) _).trans (((cell_far (p:=⟨gb141,_,none⟩) (Ke hw135_0 GW141) _).trans (((cell_far (p:=⟨gb141,_,none⟩) (Ke hw135_0 GW141) _).trans (((cell_far (p:=⟨gb141,_,none⟩) (Ke hw135_0 GW141) _).trans (hHeld.1)))))))),((cell_far (p:=⟨gb141,_,none⟩) (Ke hw135_1 GW141) _).trans (((cell_far (p:=⟨gb141,_,none⟩) (Ke hw135_1 GW141) _).trans (((cell_far (p:=⟨gb141,_,none⟩) (Ke hw135_1 GW141) _).trans (((cell_far (p:=⟨gb141,_,none⟩) (Ke hw135_1 GW141) _).trans (hHeld.2.1)))))))),((cell_far (p:=⟨gb141,_,none⟩) (Ke hw135_2 GW141) _).trans (((cell_far (p:=⟨gb141,_,none⟩) (Ke hw135_2 GW141) _).trans (((cell_far (p:=⟨gb141,_,none⟩) (Ke hw135_2 GW141) _).trans (((cell_far (p:=⟨gb141,_,none⟩) (Ke hw135_2 GW141) _).trans (hHeld.2.2.1)))))))),((cell_far (p:=⟨gb141,_,none⟩) (Ke hw135_3 GW141) _).trans (((cell_far (p:=⟨gb141,_,none⟩) (Ke hw135_3 GW141) _).trans (((cell_far (p:=⟨gb141,_,none⟩) (Ke hw135_3 GW141) _).trans (((cell_far (p:=⟨gb141,_,none⟩) (Ke hw135_3 GW141) _).trans (hHeld.2.2.2.1)))))))),((cell_far (p:=⟨gb141,_,none⟩) (Ke hw136_0 GW141) _).trans (((cell_far (p:=⟨gb141,_,none⟩) (Ke hw136_0 GW141) _).trans (((cell_far (p:=⟨gb141,_,none⟩) (Ke hw136_0 GW141) _).trans (((cell_far (p:=⟨gb141,_,none⟩) (Ke hw136_0 GW141) _).trans (hHeld.2.2.2.2.1)))))))),((cell_far (p:=⟨gb141,_,none⟩) (Ke hw136_1 GW141) _).trans (((cell_far (p:=⟨gb141,_,none⟩) (Ke hw136_1 GW141) _).trans (((cell_far (p:=⟨gb141,_,none⟩) (Ke hw136_1 GW141) _).trans (((cell_far (p:=⟨gb141,_,none⟩) (Ke hw136_1 GW141) _).trans (hHeld.2.2.2.2.2.1)))))))),((cell_far (p:=⟨gb141,_,none⟩) (Ke hw136_2 GW141) _).trans (((cell_far (p:=⟨gb141,_,none⟩) (Ke hw136_2 GW141) _).trans (((cell_far (p:=⟨gb141,_,none⟩) (Ke hw136_2 GW141) _).trans (((cell_far (p:=⟨gb141,_,none⟩) (Ke hw136_2 GW141) _).trans (hHeld.2.2.2.2.2.2.1)))))))),((cell_far (p:=⟨gb141,_,none⟩) (Ke hw136_3 GW141) _).trans (((cell_far (p:=⟨gb141,_,none⟩) (Ke hw136_3 GW141) _).trans (((cell_far (p:=⟨gb141,_,none⟩) (Ke hw136_3 GW141) _).trans (((cell_far (p:=⟨gb141,_,none⟩) (Ke hw136_3 GW141) _).trans (hHeld.2.2.2.2.2.2.2))))))))⟩ (fun hHeld => ?_)
              clear hK K
              refine done_ (done_of HT_.out (by kernel_rfl)) ?_
              have hnb30:=NB134_141.out
              have hnc30:=NB141_134.out
              have hcz31_0 : w25.cell? ⟨gb134,0,none⟩ = some (.int .u64 x135000_2):=(kC BK134.out 0).trans rfl
              have hcz31_1 : w25.cell? ⟨gb134,1,none⟩ = some (.int .u64 x135001_2):=(kC BK134.out 1).trans rfl
              have hcz31_2 : w25.cell? ⟨gb134,2,none⟩ = some (.int .u64 x135002_2):=(kC BK134.out 2).trans rfl
              have hcz31_3 : w25.cell? ⟨gb134,3,none⟩ = some (.int .u64 x135003_2):=(kC BK134.out 3).trans rfl
              have hfz31_0:=blk_frozen BK134.out 0
              have hfz31_1:=blk_frozen BK134.out 1
              have hfz31_2:=blk_frozen BK134.out 2
              have hfz31_3:=blk_frozen BK134.out 3
              have hcz32_0 : w25.cell? ⟨gb141,0,none⟩ = some (.int .u64 0):=(kC BK141.out 0).trans rfl
              have hcz32_1 : w25.cell? ⟨gb141,1,none⟩ = some (.int .u64 0):=(kC BK141.out 1).trans rfl
              have hcz32_2 : w25.cell? ⟨gb141,2,none⟩ = some (.int .u64 0):=(kC BK141.out 2).trans rfl
              have hcz32_3 : w25.cell? ⟨gb141,3,none⟩ = some (.int .u64 0):=(kC BK141.out 3).trans rfl
              have hfz32_0:=blk_frozen BK141.out 0
              have hfz32_1:=blk_frozen BK141.out 1
              have hfz32_2:=blk_frozen BK141.out 2
              have hfz32_3:=blk_frozen BK141.out 3
              try go_wp2_with (first|((with_reducible refine gate_callee (f:=60) rfl ?_);refine goesL_ (some 46) rfl rfl Try.func60 (by kernel_rfl) rfl #[.agg #[.int .u64 x135000_2,.int .u64 x135001_2,.int .u64 x135002_2,.int .u64 x135003_2],.agg #[.int .u64 t137,.int .u64 t138,.int .u64 t139,.int .u64 t140]] rfl (by (try simp only [List.map_toArray,List.map_cons,List.map_nil]);first|done|rfl|(simp only [List.length_drop,List.length_take];rfl)) ?_;(with_reducible refine (key_size_below.calls x135000_2 x135001_2 x135002_2 x135003_2 t137 t138 t139 t140 true _ A20.out).mono ?_);rintro e w33 ⟨rfl,hb⟩;refine ⟨_,rfl,?_⟩;have n0_:=Ak (kB (g:=gb134) (o:=.cells #[.int .u64 x135000_2,.int .u64 x135001_2,.int .u64 x135002_2,.int .u64 x135003_2] 79 (0,0)) (by (with_reducible repeat (first|refine kN ?_ _|refine kD ?_|refine kA ?_ _));refine blk_far ?_ NB134_141.out _;(with_reducible repeat (first|refine kN ?_ _|refine kD ?_|refine kA ?_ _));refine blk_far ?_ NB134_141.out _;(with_reducible repeat (first|refine kN ?_ _|refine kD ?_|refine kA ?_ _));refine blk_far ?_ NB134_141.out _;(with_reducible repeat (first|refine kN ?_ _|refine kD ?_|refine kA ?_ _));refine blk_far ?_ NB134_141.out _;(with_reducible repeat (first|refine kN ?_ _|refine kD ?_|refine kA ?_ _));exact BK134.out) hb);have n1_:=Ak (kB (g:=gb141) (o:=.cells #[.int .u64 t137,.int .u64 t138,.int .u64 t139,.int .u64 t140] 79 (0,0)) (by (with_reducible repeat (first|refine kN ?_ _|refine kD ?_|refine kA ?_ _));refine blk_put (cs:=#[.int .u64 t137,.int .u64 t138,.int .u64 t139,.int .u64 0]) ?_ 3 _ rfl;(with_reducible repeat (first|refine kN ?_ _|refine kD ?_|refine kA ?_ _));refine blk_put (cs:=#[.int .u64 t137,.int .u64 t138,.int .u64 0,.int .u64 0]) ?_ 2 _ rfl;(with_reducible repeat (first|refine kN ?_ _|refine kD ?_|refine kA ?_ _));refine blk_put (cs:=#[.int .u64 t137,.int .u64 0,.int .u64 0,.int .u64 0]) ?_ 1 _ rfl;(with_reducible repeat (first|refine kN ?_ _|refine kD ?_|refine kA ?_ _));refine blk_put (cs:=#[.int .u64 0,.int .u64 0,.int .u64 0,.int .u64 0]) ?_ 0 _ rfl;(with_reducible repeat (first|refine kN ?_ _|refine kD ?_|refine kA ?_ _));exact BK141.out) hb);have n2_:=Ak (below_step (by repeat (first|(with_reducible first|exact HB.out|apply bA|apply bN|apply bD|refine bS ?_ GE134.out|refine bS ?_ GE141.out)|exact HB.out)) hb);clear BK134 BK141 HB;have BK134:=n0_;have BK141:=n1_;have HB:=n2_;clear n0_ n1_ n2_;(try clear hb);(try clear hb2);(try clear hk);(try clear hi)))
              have n0_:=Ak (kD BK134.out)
              have n1_:=Ak (kD BK141.out)
              have n2_:=Ak (bD HB.out)
              clear BK134 BK141 HB
              have BK134:=n0_;have BK141:=n1_;have HB:=n2_
              clear n0_ n1_ n2_
              refine start_ (n:=6) (S:=fun w' => w'.cell? ⟨gb141,0,none⟩ = some (.int .u64 t137)∧w'.cell? ⟨gb141,1,none⟩ = some (.int .u64 t138)∧w'.cell? ⟨gb141,2,none⟩ = some (.int .u64 t139)∧w'.cell? ⟨gb141,3,none⟩ = some (.int .u64 t140)) (ds:=[]) #[ff,ff,ff,ff,ff,ff] (by kernel_rfl) rfl rfl ⟨(kC BK141.out 0).trans rfl,(kC BK141.out 1).trans rfl,(kC BK141.out 2).trans rfl,(kC BK141.out 3).trans rfl⟩ (fun hHeld => ?_)
              generalize w33.drew = w34 at BK134 BK141 HB hHeld ⊢
              refine pure_ (i:=0) (N:=some 47) (v:=?_) (a':=?_) #[tt,ff,ff,ff,ff,ff] rfl rfl (by kernel_rfl) (fun _ _ _ h => h) (Or.inl ⟨by rfl,?_⟩) ?_ ?_
              rotate_left
              ·intro w'
               go_simp
               with_reducible rfl
              rotate_left
              ·simp only [Act.put,sA,sZ,sS,i64_w,i32_w]
               rfl
              refine pure_ (i:=1) (N:=some 48) (v:=?_) (a':=?_) #[tt,tt,ff,ff,ff,ff] rfl rfl (by kernel_rfl) (fun _ _ _ h => h) (Or.inl ⟨by rfl,?_⟩) ?_ ?_
              rotate_left
              ·intro w'
               go_simp
               with_reducible rfl
              rotate_left
              ·simp only [Act.put,sA,sZ,sS,i64_w,i32_w]
               rfl
              refine pure_ (i:=3) (N:=some 4) (v:=?_) (a':=?_) #[tt,tt,ff,tt,ff,ff] rfl rfl (by kernel_rfl) (fun _ _ _ h => h) (Or.inl ⟨by rfl,?_⟩) ?_ ?_
              rotate_left
              ·intro w'
               go_simp
               with_reducible rfl
              rotate_left
              ·simp only [Act.put,sA,sZ,sS,i64_w,i32_w]
               rfl
              refine pure_ (i:=4) (N:=some 5) (v:=?_) (a':=?_) #[tt,tt,ff,tt,tt,ff] rfl rfl (by kernel_rfl) (fun _ _ _ h => h) (Or.inl ⟨by rfl,?_⟩) ?_ ?_
              rotate_left
              ·intro w'
               go_simp
               with_reducible rfl
              rotate_left
              ·simp only [Act.put,sA,sZ,sS,i64_w,i32_w]
               rfl
              refine take_ (i:=2) (N:=some 49) (v:=?_) (a':=?_) #[tt,tt,tt,tt,tt,ff] rfl rfl (by kernel_rfl) (fun _ _ _ h => h) (Or.inl ⟨by rfl,?_⟩) hHeld ?_ ?_
              rotate_left
              ·rintro w' ⟨s0,s1,s2,s3⟩
               go_simp
               with_reducible rfl
              rotate_left
              ·simp only [Act.put,sA,sZ,sS,i64_w,i32_w]
               rfl
              refine one_ (i:=5) (N:=none) #[tt,tt,tt,tt,tt,tt] rfl rfl (by kernel_rfl) (by decide) (fun K hK => ?_)
              have hs35 : w34.cell? ⟨gb134,0,none⟩ = some (.int .u64 x135000_2):=(kC BK134.out 0).trans rfl
              have hfs35:=blk_frozen BK134.out 0
              have hns35_1:=NB141_134.out
              have hms35_1:=NB134_141.out
              have hs36 : w34.cell? ⟨gb134,1,none⟩ = some (.int .u64 x135001_2):=(kC BK134.out 1).trans rfl
              have hfs36:=blk_frozen BK134.out 1
              have hns36_1:=NB141_134.out
              have hms36_1:=NB134_141.out
              have hs37 : w34.cell? ⟨gb134,2,none⟩ = some (.int .u64 x135002_2):=(kC BK134.out 2).trans rfl
              have hfs37:=blk_frozen BK134.out 2
              have hns37_1:=NB141_134.out
              have hms37_1:=NB134_141.out
              have hs38 : w34.cell? ⟨gb134,3,none⟩ = some (.int .u64 x135003_2):=(kC BK134.out 3).trans rfl
              have hfs38:=blk_frozen BK134.out 3
              have hns38_1:=NB141_134.out
              have hms38_1:=NB134_141.out
              refine skip_ (w1:=?_) (by rfl) rfl ?_ ?_
              rotate_left
              ·go_simp
               rfl
              refine hK.out _ _ ⟨((cell_far (p:=⟨gb134,_,none⟩) NB141_134.out _).trans (((cell_far (p:=⟨gb134,_,none⟩) NB141_134.out _).trans (((cell_far (p:=⟨gb134,_,none⟩) NB141_134.out _).trans (((cell_far (p:=⟨gb134,_,none⟩) NB141_134.out _).trans (hHeld.1)))))))),((cell_far (p:=⟨gb134,_,none⟩) NB141_134.out _).trans (((cell_far (p:=⟨gb134,_,none⟩) NB141_134.out _).trans (((cell_far (p:=⟨gb134,_,none⟩) NB141_134.out _).trans (((cell_far (p:=⟨gb134,_,none⟩) NB141_134.out _).trans (hHeld.2.1)))))))),((cell_far (p:=⟨gb134,_,none⟩) NB141_134.out _).trans (((cell_far (p:=⟨gb134,_,none⟩) NB141_134.out _).trans (((cell_far (p:=⟨gb134,_,none⟩) NB141_134.out _).trans (((cell_far (p:=⟨gb134,_,none⟩) NB141_134.out _).trans (hHeld.2.2.1)))))))),((cell_far (p:=⟨gb134,_,none⟩) NB141_134.out _).trans (((cell_far (p:=⟨gb134,_,none⟩) NB141_134.out _).trans (((cell_far (p:=⟨gb134,_,none⟩) NB141_134.out _).trans (((cell_far (p:=⟨gb134,_,none⟩) NB141_134.out _).trans (hHeld.2.2.2))))))))⟩ (fun hHeld => ?_)
              clear hK K
              refine done_ (by kernel_rfl) ?_
              try (go_wp2;repeat (any_goals (go_step3;go_wp2)))
              go_roundg k2
              case measure => have:=HK1.out;have:=HK2.out;omega
              case rel => exact ⟨(x19_1),(x8_2),(wrap64 (x8_2+1)),(t137),(t138),(t139),(t140),(by first|rfl|(simp;done)|(simp [*];done)),(by first|rfl|(simp;done)|(simp [*];done)),(by first|rfl|(simp;done)|(simp [*];done)),H',⟨by have:=HK1.out;have:=HK2.out;omega⟩,⟨by (with_reducible repeat (first|refine kN ?_ _|refine kD ?_|refine kA ?_ _));refine blk_put (cs:=#[.int .u64 t137,.int .u64 t138,.int .u64 t139,.int .u64 x135003_2]) ?_ 3 _ rfl;(with_reducible repeat (first|refine kN ?_ _|refine kD ?_|refine kA ?_ _));refine blk_put (cs:=#[.int .u64 t137,.int .u64 t138,.int .u64 x135002_2,.int .u64 x135003_2]) ?_ 2 _ rfl;(with_reducible repeat (first|refine kN ?_ _|refine kD ?_|refine kA ?_ _));refine blk_put (cs:=#[.int .u64 t137,.int .u64 x135001_2,.int .u64 x135002_2,.int .u64 x135003_2]) ?_ 1 _ rfl;(with_reducible repeat (first|refine kN ?_ _|refine kD ?_|refine kA ?_ _));refine blk_put (cs:=#[.int .u64 x135000_2,.int .u64 x135001_2,.int .u64 x135002_2,.int .u64 x135003_2]) ?_ 0 _ rfl;(with_reducible repeat (first|refine kN ?_ _|refine kD ?_|refine kA ?_ _));exact BK134.out⟩,⟨by repeat (first|(with_reducible first|exact HB.out|apply bA|apply bN|apply bD|refine bS ?_ GE134.out|refine bS ?_ GE141.out)|exact HB.out)⟩⟩
             ·replace c21:=Bool.eq_false_iff.mpr c21
              subst c21
              have H1 : (key_seeds.l1 k2 l0 x4_2 x5_2 x19_1 (wrap64 (x8_2+1)) (l0.length : Int) x19_1 x135000_2 x135001_2 x135002_2 x135003_2) = some (r1,r2):=by rw [if_neg (show ¬ (false = true) by decide)] at H;exact H
              clear H
              have H:=H1
              clear H1
              have H':=Ak H
              clear H
              try (go_wp2;repeat (any_goals (go_step3;go_wp2)))
              have n0_:=Ak (kD BK134.out)
              have n1_:=Ak (bD HB.out)
              clear BK134 HB
              have BK134:=n0_;have HB:=n1_
              clear n0_ n1_
              have p135 : 0 ≤ (x19_1 : Int):=of_decide_eq_true (by first|(with_reducible assumption)|assumption)
              have q135 : x19_1 < (l0.length : Int):=of_decide_eq_true (by first|(with_reducible assumption)|assumption)
              obtain ⟨ad135,e135,hx135_0,hx135_1,hx135_2,hx135_3⟩:=at_T35 HR0.out x19_1 p135 q135
              have hw135_3:=hx135_3
              have hw135_2:=hx135_2
              have hw135_1:=hx135_1
              have hw135_0:=hx135_0
              obtain rfl : ad128 = ad135:=(by injection e135)
              replace hx135_0:=(HB.out.cell (World.block_lt_of_cell? w _ hx135_0)).trans hx135_0
              replace hx135_1:=(HB.out.cell (World.block_lt_of_cell? w _ hx135_1)).trans hx135_1
              replace hx135_2:=(HB.out.cell (World.block_lt_of_cell? w _ hx135_2)).trans hx135_2
              replace hx135_3:=(HB.out.cell (World.block_lt_of_cell? w _ hx135_3)).trans hx135_3
              replace p135:=eq_true p135
              replace q135:=eq_true q135
              have p136 : 0 ≤ (x8_2 : Int):=of_decide_eq_true (by first|(with_reducible assumption)|assumption)
              have q136 : x8_2 < (l0.length : Int):=of_decide_eq_true (by first|(with_reducible assumption)|assumption)
              obtain ⟨ad136,e136,hx136_0,hx136_1,hx136_2,hx136_3⟩:=at_T35 HR0.out x8_2 p136 q136
              have hw136_3:=hx136_3
              have hw136_2:=hx136_2
              have hw136_1:=hx136_1
              have hw136_0:=hx136_0
              obtain rfl : ad128 = ad136:=(by injection e136)
              replace hx136_0:=(HB.out.cell (World.block_lt_of_cell? w _ hx136_0)).trans hx136_0
              replace hx136_1:=(HB.out.cell (World.block_lt_of_cell? w _ hx136_1)).trans hx136_1
              replace hx136_2:=(HB.out.cell (World.block_lt_of_cell? w _ hx136_2)).trans hx136_2
              replace hx136_3:=(HB.out.cell (World.block_lt_of_cell? w _ hx136_3)).trans hx136_3
              replace p136:=eq_true p136
              replace q136:=eq_true q136
              refine start_ (n:=11) (S:=fun w' => w'.cell? (ad128.add ((x19_1).toNat*4)) = some (.int .i64 ((rd_T35 l0 x19_1).f0))∧w'.cell? ⟨(ad128.add ((x19_1).toNat*4)).block,(ad128.add ((x19_1).toNat*4)).off+1,none⟩ = some (.int .i64 ((rd_T35 l0 x19_1).f1))∧w'.cell? ⟨(ad128.add ((x19_1).toNat*4)).block,(ad128.add ((x19_1).toNat*4)).off+2,none⟩ = some (.int .i64 ((rd_T35 l0 x19_1).f2))∧w'.cell? ⟨(ad128.add ((x19_1).toNat*4)).block,(ad128.add ((x19_1).toNat*4)).off+3,none⟩ = some (.int .i64 ((rd_T35 l0 x19_1).f3))∧w'.cell? (ad128.add ((x8_2).toNat*4)) = some (.int .i64 ((rd_T35 l0 x8_2).f0))∧w'.cell? ⟨(ad128.add ((x8_2).toNat*4)).block,(ad128.add ((x8_2).toNat*4)).off+1,none⟩ = some (.int .i64 ((rd_T35 l0 x8_2).f1))∧w'.cell? ⟨(ad128.add ((x8_2).toNat*4)).block,(ad128.add ((x8_2).toNat*4)).off+2,none⟩ = some (.int .i64 ((rd_T35 l0 x8_2).f2))∧w'.cell? ⟨(ad128.add ((x8_2).toNat*4)).block,(ad128.add ((x8_2).toNat*4)).off+3,none⟩ = some (.int .i64 ((rd_T35 l0 x8_2).f3))) (ds:=[]) #[ff,ff,ff,ff,ff,ff,ff,ff,ff,ff,ff] (by kernel_rfl) rfl rfl ⟨((HB.out.cell (World.block_lt_of_cell? w _ hw135_0)).trans hw135_0),((HB.out.cell (World.block_lt_of_cell? w _ hw135_1)).trans hw135_1),((HB.out.cell (World.block_lt_of_cell? w _ hw135_2)).trans hw135_2),((HB.out.cell (World.block_lt_of_cell? w _ hw135_3)).trans hw135_3),((HB.out.cell (World.block_lt_of_cell? w _ hw136_0)).trans hw136_0),((HB.out.cell (World.block_lt_of_cell? w _ hw136_1)).trans hw136_1),((HB.out.cell (World.block_lt_of_cell? w _ hw136_2)).trans hw136_2),((HB.out.cell (World.block_lt_of_cell? w _ hw136_3)).trans hw136_3)⟩ (fun hHeld => ?_);refine with_tabW key_seeds.tab10 key_seeds.bits10 (fun HT_ HW_ => ?_)
              generalize wr.drew = w39 at BK134 HB hx135_0 hx135_1 hx135_2 hx135_3 hx136_0 hx136_1 hx136_2 hx136_3 hHeld ⊢
              refine pure_ (i:=0) (N:=some 35) (v:=?_) (a':=?_) #[tt,ff,ff,ff,ff,ff,ff,ff,ff,ff,ff] rfl rfl (any_of HT_.out (by kernel_rfl)) (fun _ _ _ h => h) (Or.inl ⟨by rfl,?_⟩) ?_ ?_
              rotate_left
              ·intro w'
               go_simp
               with_reducible rfl
              rotate_left
              ·simp only [Act.put,sA,sZ,sS,i64_w,i32_w]
               rfl
              refine pure_ (i:=1) (N:=some 36) (v:=?_) (a':=?_) #[tt,tt,ff,ff,ff,ff,ff,ff,ff,ff,ff] rfl rfl (any_of HT_.out (by kernel_rfl)) (fun _ _ _ h => h) (Or.inl ⟨by rfl,?_⟩) ?_ ?_
              rotate_left
              ·intro w'
               go_simp
               with_reducible rfl
              rotate_left
              ·simp only [Act.put,sA,sZ,sS,i64_w,i32_w]
               rfl
              refine pure_ (i:=2) (N:=some 37) (v:=?_) (a':=?_) #[tt,tt,tt,ff,ff,ff,ff,ff,ff,ff,ff] rfl rfl (any_of HT_.out (by kernel_rfl)) (fun _ _ _ h => h) (Or.inl ⟨by rfl,?_⟩) ?_ ?_
              rotate_left
              ·intro w'
               go_simp
               with_reducible rfl
              rotate_left
              ·simp only [Act.put,sA,sZ,sS,i64_w,i32_w]
               rfl
              refine pure_ (i:=4) (N:=some 39) (v:=?_) (a':=?_) #[tt,tt,tt,ff,tt,ff,ff,ff,ff,ff,ff] rfl rfl (any_of HT_.out (by kernel_rfl)) (fun _ _ _ h => h) (Or.inl ⟨by rfl,?_⟩) ?_ ?_
              rotate_left
              ·intro w'
               go_simp
               with_reducible rfl
              rotate_left
              ·simp only [Act.put,sA,sZ,sS,i64_w,i32_w]
               rfl
              refine pure_ (i:=5) (N:=some 40) (v:=?_) (a':=?_) #[tt,tt,tt,ff,tt,tt,ff,ff,ff,ff,ff] rfl rfl (any_of HT_.out (by kernel_rfl)) (fun _ _ _ h => h) (Or.inl ⟨by rfl,?_⟩) ?_ ?_
              rotate_left
              ·intro w'
               go_simp
               with_reducible rfl
              rotate_left
              ·simp only [Act.put,sA,sZ,sS,i64_w,i32_w]
               rfl
              refine pure_ (i:=6) (N:=some 41) (v:=?_) (a':=?_) #[tt,tt,tt,ff,tt,tt,tt,ff,ff,ff,ff] rfl rfl (any_of HT_.out (by kernel_rfl)) (fun _ _ _ h => h) (Or.inl ⟨by rfl,?_⟩) ?_ ?_
              rotate_left
              ·intro w'
               go_simp
               with_reducible rfl
              rotate_left
              ·simp only [Act.put,sA,sZ,sS,i64_w,i32_w]
               rfl
              refine take_ (i:=3) (N:=some 38) (v:=?_) (a':=?_) #[tt,tt,tt,tt,tt,tt,tt,ff,ff,ff,ff] rfl rfl (take_ofW HT_.out HW_.out (by kernel_rfl)) (fun _ _ _ h => h) (Or.inl ⟨by rfl,?_⟩) hHeld ?_ ?_
              rotate_left
              ·rintro w' ⟨s0,s1,s2,s3,s4,s5,s6,s7⟩
               go_simp
               with_reducible rfl
              rotate_left
              ·simp only [Act.put,sA,sZ,sS,i64_w,i32_w]
               rfl
              refine take_ (i:=7) (N:=some 42) (v:=?_) (a':=?_) #[tt,tt,tt,tt,tt,tt,tt,tt,ff,ff,ff] rfl rfl (take_ofW HT_.out HW_.out (by kernel_rfl)) (fun _ _ _ h => h) (Or.inl ⟨by rfl,?_⟩) hHeld ?_ ?_
              rotate_left
              ·rintro w' ⟨s0,s1,s2,s3,s4,s5,s6,s7⟩
               go_simp
               with_reducible rfl
              rotate_left
              ·simp only [Act.put,sA,sZ,sS,i64_w,i32_w]
               rfl
              refine join_ (σ:=Nat) 1 #[tt,tt,tt,tt,tt,tt,tt,tt,tt,tt,ff] (fun s_ => [(43,.agg #[.int .u64 t137,.int .u64 t138,.int .u64 t139,.int .u64 t140]),(9,.pointer (some ⟨s_,0,none⟩))]) (fun s_ w' => (w'.cell? (ad128.add ((x19_1).toNat*4)) = some (.int .i64 ((rd_T35 l0 x19_1).f0))∧w'.cell? ⟨(ad128.add ((x19_1).toNat*4)).block,(ad128.add ((x19_1).toNat*4)).off+1,none⟩ = some (.int .i64 ((rd_T35 l0 x19_1).f1))∧w'.cell? ⟨(ad128.add ((x19_1).toNat*4)).block,(ad128.add ((x19_1).toNat*4)).off+2,none⟩ = some (.int .i64 ((rd_T35 l0 x19_1).f2))∧w'.cell? ⟨(ad128.add ((x19_1).toNat*4)).block,(ad128.add ((x19_1).toNat*4)).off+3,none⟩ = some (.int .i64 ((rd_T35 l0 x19_1).f3))∧w'.cell? (ad128.add ((x8_2).toNat*4)) = some (.int .i64 ((rd_T35 l0 x8_2).f0))∧w'.cell? ⟨(ad128.add ((x8_2).toNat*4)).block,(ad128.add ((x8_2).toNat*4)).off+1,none⟩ = some (.int .i64 ((rd_T35 l0 x8_2).f1))∧w'.cell? ⟨(ad128.add ((x8_2).toNat*4)).block,(ad128.add ((x8_2).toNat*4)).off+2,none⟩ = some (.int .i64 ((rd_T35 l0 x8_2).f2))∧w'.cell? ⟨(ad128.add ((x8_2).toNat*4)).block,(ad128.add ((x8_2).toNat*4)).off+3,none⟩ = some (.int .i64 ((rd_T35 l0 x8_2).f3)))∧(w'.heap[gb134]? = some (.cells #[.int .u64 x135000_2,.int .u64 x135001_2,.int .u64 x135002_2,.int .u64 x135003_2] 79 (0,0)))∧(w'.heap[s_]? = some (.cells #[.int .u64 0,.int .u64 0,.int .u64 0,.int .u64 0] 79 (0,0)))∧(w.heap.size ≤ s_)∧(w.heap.size ≤ s_)∧(gb134 ≠ s_)∧(s_ ≠ gb134)∧(Below w.heap.size w w')) ?_ ?_
              rotate_left
              ·intro hCont
               refine two_ (i:=8) (j:=9) (Ni:=some 43) (Nj:=some 9) #[tt,tt,tt,tt,tt,tt,tt,tt,tt,ff,ff] #[tt,tt,tt,tt,tt,tt,tt,tt,ff,tt,ff] rfl rfl rfl rfl (two_of HT_.out (by kernel_rfl)) (by decide) (by decide) (fun K hK => ?_) (fun K hK => ?_)
               ·skip
                refine goes_ Try.func63 (by kernel_rfl) rfl #[.agg #[.int .i64 ((rd_T35 l0 x19_1).f0),.int .i64 ((rd_T35 l0 x19_1).f1),.int .i64 ((rd_T35 l0 x19_1).f2),.int .i64 ((rd_T35 l0 x19_1).f3)],.agg #[.int .i64 ((rd_T35 l0 x8_2).f0),.int .i64 ((rd_T35 l0 x8_2).f1),.int .i64 ((rd_T35 l0 x8_2).f2),.int .i64 ((rd_T35 l0 x8_2).f3)]] (by rfl) rfl rfl (by (try simp only [List.map_toArray,List.map_cons,List.map_nil]);first|done|rfl|(simp only [List.length_drop,List.length_take];rfl)) ?_
                with_reducible refine (key_waste.calls ((rd_T35 l0 x19_1).f0) ((rd_T35 l0 x19_1).f1) ((rd_T35 l0 x19_1).f2) ((rd_T35 l0 x19_1).f3) ((rd_T35 l0 x8_2).f0) ((rd_T35 l0 x8_2).f1) ((rd_T35 l0 x8_2).f2) ((rd_T35 l0 x8_2).f3) t137 t138 t139 t140 _ A19.out).mono ?_
                rintro e w40 ⟨rfl,hb⟩
                refine ⟨_,rfl,?_⟩
                have n0_:=Kb BK134 hb
                have n1_:=Kh HB hb
                clear BK134 HB
                have BK134:=n0_;have HB:=n1_
                clear n0_ n1_
                (try clear hb)
                (try clear hb2)
                (try clear hk)
                (try clear hi)
                refine hK.out _ _ ⟨((HB.out.cell (World.block_lt_of_cell? w _ hw135_0)).trans hw135_0),((HB.out.cell (World.block_lt_of_cell? w _ hw135_1)).trans hw135_1),((HB.out.cell (World.block_lt_of_cell? w _ hw135_2)).trans hw135_2),((HB.out.cell (World.block_lt_of_cell? w _ hw135_3)).trans hw135_3),((HB.out.cell (World.block_lt_of_cell? w _ hw136_0)).trans hw136_0),((HB.out.cell (World.block_lt_of_cell? w _ hw136_1)).trans hw136_1),((HB.out.cell (World.block_lt_of_cell? w _ hw136_2)).trans hw136_2),((HB.out.cell (World.block_lt_of_cell? w _ hw136_3)).trans hw136_3)⟩ (fun hHeld => ?_)
                clear hK K
                refine norm_ (a':=?_) ?_ ?_
                rotate_left
                ·show Act.put _ (some 43) _ = _
                 simp only [Act.put,sA,sZ,sS,i64_w,i32_w]
                 rfl
                refine one_ (i:=9) (N:=some 9) #[tt,tt,tt,tt,tt,tt,tt,tt,tt,tt,ff] rfl rfl (one_of HT_.out (by kernel_rfl)) (by decide) (fun K hK => ?_)
                refine box_step ?hg (N:=9) ?hd (cs:=#[.int .u64 0,.int .u64 0,.int .u64 0,.int .u64 0]) (t:=79) ?hr ?_;(case hd => rfl);(case hg => rfl);(case hr => first|(go_simp;done)|(go_simp;rfl))
                intro gb141 hg w41 hbox hb
                have n0_:=Kb BK134 hb
                have n1_:=Kh HB hb
                have n2_:=Ak (hbox)
                have n3_:=Kz hg HB
                have n4_:=Kz hg HB
                have n5_:=Kl hg BK134
                have n6_:=Km hg BK134
                clear BK134 HB
                have BK134:=n0_;have HB:=n1_;have BK141:=n2_;have GW141:=n3_;have GE141:=n4_;have NB134_141:=n5_;have NB141_134:=n6_
                clear n0_ n1_ n2_ n3_ n4_ n5_ n6_ hb hbox hg
                refine hK.out _ _ ⟨((HB.out.cell (World.block_lt_of_cell? w _ hw135_0)).trans hw135_0),((HB.out.cell (World.block_lt_of_cell? w _ hw135_1)).trans hw135_1),((HB.out.cell (World.block_lt_of_cell? w _ hw135_2)).trans hw135_2),((HB.out.cell (World.block_lt_of_cell? w _ hw135_3)).trans hw135_3),((HB.out.cell (World.block_lt_of_cell? w _ hw136_0)).trans hw136_0),((HB.out.cell (World.block_lt_of_cell? w _ hw136_1)).trans hw136_1),((HB.out.cell (World.block_lt_of_cell? w _ hw136_2)).trans hw136_2),((HB.out.cell (World.block_lt_of_cell? w _ hw136_3)).trans hw136_3)⟩ (fun hHeld => ?_)
                clear hK K
                refine norm_ (a':=?_) ?_ ?_
                rotate_left
                ·show Act.put _ (some 9) _ = _
                 simp only [Act.put,sA,sZ,sS,i64_w,i32_w]
                 rfl
                exact norm_ (by simp only [putAll,Act.put,sA,sZ,sS]) (hCont (gb141) _ ⟨hHeld,BK134.out,BK141.out,GW141.out,GE141.out,NB134_141.out,NB141_134.out,HB.out⟩)
               ·skip
                refine box_step ?hg (N:=9) ?hd (cs:=#[.int .u64 0,.int .u64 0,.int .u64 0,.int .u64 0]) (t:=79) ?hr ?_;(case hd => rfl);(case hg => rfl);(case hr => first|(go_simp;done)|(go_simp;rfl))
                intro gb141 hg w40 hbox hb
                have n0_:=Kb BK134 hb
                have n1_:=Kh HB hb
                have n2_:=Ak (hbox)
                have n3_:=Kz hg HB
                have n4_:=Kz hg HB
                have n5_:=Kl hg BK134
                have n6_:=Km hg BK134
                clear BK134 HB
                have BK134:=n0_;have HB:=n1_;have BK141:=n2_;have GW141:=n3_;have GE141:=n4_;have NB134_141:=n5_;have NB141_134:=n6_
                clear n0_ n1_ n2_ n3_ n4_ n5_ n6_ hb hbox hg
                refine hK.out _ _ ⟨((HB.out.cell (World.block_lt_of_cell? w _ hw135_0)).trans hw135_0),((HB.out.cell (World.block_lt_of_cell? w _ hw135_1)).trans hw135_1),((HB.out.cell (World.block_lt_of_cell? w _ hw135_2)).trans hw135_2),((HB.out.cell (World.block_lt_of_cell? w _ hw135_3)).trans hw135_3),((HB.out.cell (World.block_lt_of_cell? w _ hw136_0)).trans hw136_0),((HB.out.cell (World.block_lt_of_cell? w _ hw136_1)).trans hw136_1),((HB.out.cell (World.block_lt_of_cell? w _ hw136_2)).trans hw136_2),((HB.out.cell (World.block_lt_of_cell? w _ hw136_3)).trans hw136_3)⟩ (fun hHeld => ?_)
                clear hK K
                refine norm_ (a':=?_) ?_ ?_
                rotate_left
                ·show Act.put _ (some 9) _ = _
                 simp only [Act.put,sA,sZ,sS,i64_w,i32_w]
                 rfl
                refine one_ (i:=8) (N:=some 43) #[tt,tt,tt,tt,tt,tt,tt,tt,tt,tt,ff] rfl rfl (one_of HT_.out (by kernel_rfl)) (by decide) (fun K hK => ?_)
                refine goes_ Try.func63 (by kernel_rfl) rfl #[.agg #[.int .i64 ((rd_T35 l0 x19_1).f0),.int .i64 ((rd_T35 l0 x19_1).f1),.int .i64 ((rd_T35 l0 x19_1).f2),.int .i64 ((rd_T35 l0 x19_1).f3)],.agg #[.int .i64 ((rd_T35 l0 x8_2).f0),.int .i64 ((rd_T35 l0 x8_2).f1),.int .i64 ((rd_T35 l0 x8_2).f2),.int .i64 ((rd_T35 l0 x8_2).f3)]] (by rfl) rfl rfl (by (try simp only [List.map_toArray,List.map_cons,List.map_nil]);first|done|rfl|(simp only [List.length_drop,List.length_take];rfl)) ?_
                with_reducible refine (key_waste.calls ((rd_T35 l0 x19_1).f0) ((rd_T35 l0 x19_1).f1) ((rd_T35 l0 x19_1).f2) ((rd_T35 l0 x19_1).f3) ((rd_T35 l0 x8_2).f0) ((rd_T35 l0 x8_2).f1) ((rd_T35 l0 x8_2).f2) ((rd_T35 l0 x8_2).f3) t137 t138 t139 t140 _ A19.out).mono ?_
                rintro e w41 ⟨rfl,hb⟩
                refine ⟨_,rfl,?_⟩
                have n0_:=Kb BK134 hb
                have n1_:=Kb BK141 hb
                have n2_:=Kh HB hb
                clear BK134 BK141 HB
                have BK134:=n0_;have BK141:=n1_;have HB:=n2_
                clear n0_ n1_ n2_
                (try clear hb)
                (try clear hb2)
                (try clear hk)
                (try clear hi)
                refine hK.out _ _ ⟨((HB.out.cell (World.block_lt_of_cell? w _ hw135_0)).trans hw135_0),((HB.out.cell (World.block_lt_of_cell? w _ hw135_1)).trans hw135_1),((HB.out.cell (World.block_lt_of_cell? w _ hw135_2)).trans hw135_2),((HB.out.cell (World.block_lt_of_cell? w _ hw135_3)).trans hw135_3),((HB.out.cell (World.block_lt_of_cell? w _ hw136_0)).trans hw136_0),((HB.out.cell (World.block_lt_of_cell? w _ hw136_1)).trans hw136_1),((HB.out.cell (World.block_lt_of_cell? w _ hw136_2)).trans hw136_2),((HB.out.cell (World.block_lt_of_cell? w _ hw136_3)).trans hw136_3)⟩ (fun hHeld => ?_)
                clear hK K
                refine norm_ (a':=?_) ?_ ?_
                rotate_left
                ·show Act.put _ (some 43) _ = _
                 simp only [Act.put,sA,sZ,sS,i64_w,i32_w]
                 rfl
                exact norm_ (by simp only [putAll,Act.put,sA,sZ,sS]) (hCont (gb141) _ ⟨hHeld,BK134.out,BK141.out,GW141.out,GE141.out,NB134_141.out,NB141_134.out,HB.out⟩)
              rintro gb141 w42 ⟨hS_,h0_,h1_,h2_,h3_,h4_,h5_,h6_⟩
              have n0_ : Aside0 (w42.heap[gb134]? = some (.cells #[.int .u64 x135000_2,.int .u64 x135001_2,.int .u64 x135002_2,.int .u64 x135003_2] 79 (0,0))):=⟨h0_⟩
              have n1_ : Aside0 (w42.heap[gb141]? = some (.cells #[.int .u64 0,.int .u64 0,.int .u64 0,.int .u64 0] 79 (0,0))):=⟨h1_⟩
              have n2_ : Aside0 (w.heap.size ≤ gb141):=⟨h2_⟩
              have n3_ : Aside0 (w.heap.size ≤ gb141):=⟨h3_⟩
              have n4_ : Aside0 (gb134 ≠ gb141):=⟨h4_⟩
              have n5_ : Aside0 (gb141 ≠ gb134):=⟨h5_⟩
              have n6_ : Aside0 (Below w.heap.size w w42):=⟨h6_⟩
              clear BK134 HB h0_ h1_ h2_ h3_ h4_ h5_ h6_
              have BK134:=n0_;have BK141:=n1_;have GW141:=n2_;have GE141:=n3_;have NB134_141:=n4_;have NB141_134:=n5_;have HB:=n6_
              clear n0_ n1_ n2_ n3_ n4_ n5_ n6_
              have hHeld : w42.cell? (ad128.add ((x19_1).toNat*4)) = some (.int .i64 ((rd_T35 l0 x19_1).f0))∧w42.cell? ⟨(ad128.add ((x19_1).toNat*4)).block,(ad128.add ((x19_1).toNat*4)).off+1,none⟩ = some (.int .i64 ((rd_T35 l0 x19_1).f1))∧w42.cell? ⟨(ad128.add ((x19_1).toNat*4)).block,(ad128.add ((x19_1).toNat*4)).off+2,none⟩ = some (.int .i64 ((rd_T35 l0 x19_1).f2))∧w42.cell? ⟨(ad128.add ((x19_1).toNat*4)).block,(ad128.add ((x19_1).toNat*4)).off+3,none⟩ = some (.int .i64 ((rd_T35 l0 x19_1).f3))∧w42.cell? (ad128.add ((x8_2).toNat*4)) = some (.int .i64 ((rd_T35 l0 x8_2).f0))∧w42.cell? ⟨(ad128.add ((x8_2).toNat*4)).block,(ad128.add ((x8_2).toNat*4)).off+1,none⟩ = some (.int .i64 ((rd_T35 l0 x8_2).f1))∧w42.cell? ⟨(ad128.add ((x8_2).toNat*4)).block,(ad128.add ((x8_2).toNat*4)).off+2,none⟩ = some (.int .i64 ((rd_T35 l0 x8_2).f2))∧w42.cell? ⟨(ad128.add ((x8_2).toNat*4)).block,(ad128.add ((x8_2).toNat*4)).off+3,none⟩ = some (.int .i64 ((rd_T35 l0 x8_2).f3)):=hS_
              refine norm_ (a':=?_) ?_ ?_
              rotate_left
              ·simp only [putAll,Act.put,sA,sZ,sS]
               rfl
              refine one_ (i:=10) (N:=none) #[tt,tt,tt,tt,tt,tt,tt,tt,tt,tt,tt] rfl rfl (one_of HT_.out (by kernel_rfl)) (by decide) (fun K hK => ?_)
              have hs43 : w42.cell? ⟨gb141,0,none⟩ = some (.int .u64 0):=(kC BK141.out 0).trans rfl
              have hfs43:=blk_frozen BK141.out 0
              have hns43_0:=NB134_141.out
              have hms43_0:=NB141_134.out
              have hs44 : w42.cell? ⟨gb141,1,none⟩ = some (.int .u64 0):=(kC BK141.out 1).trans rfl
              have hfs44:=blk_frozen BK141.out 1
              have hns44_0:=NB134_141.out
              have hms44_0:=NB141_134.out
              have hs45 : w42.cell? ⟨gb141,2,none⟩ = some (.int .u64 0):=(kC BK141.out 2).trans rfl
              have hfs45:=blk_frozen BK141.out 2
              have hns45_0:=NB134_141.out
              have hms45_0:=NB141_134.out
              have hs46 : w42.cell? ⟨gb141,3,none⟩ = some (.int .u64 0):=(kC BK141.out 3).trans rfl
              have hfs46:=blk_frozen BK141.out 3
              have hns46_0:=NB134_141.out
              have hms46_0:=NB141_134.out
              refine skip_ (w1:=?_) (by rfl) rfl ?_ ?_
              rotate_left
              ·go_simp
               rfl
              refine hK.out _ _ ⟨((cell_far (p:=⟨gb141,_,none⟩) (Ke hw135_0 GW141) _).trans (((cell_far (p:=⟨gb141,_,none⟩) (Ke hw135_0 GW141) _).trans (((cell_far (p:=⟨gb141,_,none⟩) (Ke hw135_0 GW141) _).trans (((cell_far (p:=⟨gb141,_,none⟩) (Ke hw135_0 GW141) _).trans (hHeld.1)))))))),((cell_far (p:=⟨gb141,_,none⟩) (Ke hw135_1 GW141) _).trans (((cell_far (p:=⟨gb141,_,none⟩) (Ke hw135_1 GW141) _).trans (((cell_far (p:=⟨gb141,_,none⟩) (Ke hw135_1 GW141) _).trans (((cell_far (p:=⟨gb141,_,none⟩) (Ke hw135_1 GW141) _).trans (hHeld.2.1)))))))),((cell_far (p:=⟨gb141,_,none⟩) (Ke hw135_2 GW141) _).trans (((cell_far (p:=⟨gb141,_,none⟩) (Ke hw135_2 GW141) _).trans (((cell_far (p:=⟨gb141,_,none⟩) (Ke hw135_2 GW141) _).trans (((cell_far (p:=⟨gb141,_,none⟩) (Ke hw135_2 GW141) _).trans (hHeld.2.2.1)))))))),((cell_far (p:=⟨gb141,_,none⟩) (Ke hw135_3 GW141) _).trans (((cell_far (p:=⟨gb141,_,none⟩) (Ke hw135_3 GW141) _).trans (((cell_far (p:=⟨gb141,_,none⟩) (Ke hw135_3 GW141) _).trans (((cell_far (p:=⟨gb141,_,none⟩) (Ke hw135_3 GW141) _).trans (hHeld.2.2.2.1)))))))),((cell_far (p:=⟨gb141,_,none⟩) (Ke hw136_0 GW141) _).trans (((cell_far (p:=⟨gb141,_,none⟩) (Ke hw136_0 GW141) _).trans (((cell_far (p:=⟨gb141,_,none⟩) (Ke hw136_0 GW141) _).trans (((cell_far (p:=⟨gb141,_,none⟩) (Ke hw136_0 GW141) _).trans (hHeld.2.2.2.2.1)))))))),((cell_far (p:=⟨gb141,_,none⟩) (Ke hw136_1 GW141) _).trans (((cell_far (p:=⟨gb141,_,none⟩) (Ke hw136_1 GW141) _).trans (((cell_far (p:=⟨gb141,_,none⟩) (Ke hw136_1 GW141) _).trans (((cell_far (p:=⟨gb141,_,none⟩) (Ke hw136_1 GW141) _).trans (hHeld.2.2.2.2.2.1)))))))),((cell_far (p:=⟨gb141,_,none⟩) (Ke hw136_2 GW141) _).trans (((cell_far (p:=⟨gb141,_,none⟩) (Ke hw136_2 GW141) _).trans (((cell_far (p:=⟨gb141,_,none⟩) (Ke hw136_2 GW141) _).trans (((cell_far (p:=⟨gb141,_,none⟩) (Ke hw136_2 GW141) _).trans (hHeld.2.2.2.2.2.2.1)))))))),((cell_far (p:=⟨gb141,_,none⟩) (Ke hw136_3 GW141) _).trans (((cell_far (p:=⟨gb141,_,none⟩) (Ke hw136_3 GW141) _).trans (((cell_far (p:=⟨gb141,_,none⟩) (Ke hw136_3 GW141) _).trans (((cell_far (p:=⟨gb141,_,none⟩) (Ke hw136_3 GW141) _).trans (hHeld.2.2.2.2.2.2.2))))))))⟩ (fun hHeld => ?_)
              clear hK K
              refine done_ (done_of HT_.out (by kernel_rfl)) ?_
              have hnb47:=NB134_141.out
              have hnc47:=NB141_134.out
              have hcz48_0 : w42.cell? ⟨gb134,0,none⟩ = some (.int .u64 x135000_2):=(kC BK134.out 0).trans rfl
              have hcz48_1 : w42.cell? ⟨gb134,1,none⟩ = some (.int .u64 x135001_2):=(kC BK134.out 1).trans rfl
              have hcz48_2 : w42.cell? ⟨gb134,2,none⟩ = some (.int .u64 x135002_2):=(kC BK134.out 2).trans rfl
              have hcz48_3 : w42.cell? ⟨gb134,3,none⟩ = some (.int .u64 x135003_2):=(kC BK134.out 3).trans rfl
              have hfz48_0:=blk_frozen BK134.out 0
              have hfz48_1:=blk_frozen BK134.out 1
              have hfz48_2:=blk_frozen BK134.out 2
              have hfz48_3:=blk_frozen BK134.out 3
              have hcz49_0 : w42.cell? ⟨gb141,0,none⟩ = some (.int .u64 0):=(kC BK141.out 0).trans rfl
              have hcz49_1 : w42.cell? ⟨gb141,1,none⟩ = some (.int .u64 0):=(kC BK141.out 1).trans rfl
              have hcz49_2 : w42.cell? ⟨gb141,2,none⟩ = some (.int .u64 0):=(kC BK141.out 2).trans rfl
              have hcz49_3 : w42.cell? ⟨gb141,3,none⟩ = some (.int .u64 0):=(kC BK141.out 3).trans rfl
              have hfz49_0:=blk_frozen BK141.out 0
              have hfz49_1:=blk_frozen BK141.out 1
              have hfz49_2:=blk_frozen BK141.out 2
              have hfz49_3:=blk_frozen BK141.out 3
              try go_wp2_with (first|((with_reducible refine gate_callee (f:=60) rfl ?_);refine goesL_ (some 46) rfl rfl Try.func60 (by kernel_rfl) rfl #[.agg #[.int .u64 x135000_2,.int .u64 x135001_2,.int .u64 x135002_2,.int .u64 x135003_2],.agg #[.int .u64 t137,.int .u64 t138,.int .u64 t139,.int .u64 t140]] rfl (by (try simp only [List.map_toArray,List.map_cons,List.map_nil]);first|done|rfl|(simp only [List.length_drop,List.length_take];rfl)) ?_;(with_reducible refine (key_size_below.calls x135000_2 x135001_2 x135002_2 x135003_2 t137 t138 t139 t140 false _ A20.out).mono ?_);rintro e w50 ⟨rfl,hb⟩;refine ⟨_,rfl,?_⟩;have n0_:=Ak (kB (g:=gb134) (o:=.cells #[.int .u64 x135000_2,.int .u64 x135001_2,.int .u64 x135002_2,.int .u64 x135003_2] 79 (0,0)) (by (with_reducible repeat (first|refine kN ?_ _|refine kD ?_|refine kA ?_ _));refine blk_far ?_ NB134_141.out _;(with_reducible repeat (first|refine kN ?_ _|refine kD ?_|refine kA ?_ _));refine blk_far ?_ NB134_141.out _;(with_reducible repeat (first|refine kN ?_ _|refine kD ?_|refine kA ?_ _));refine blk_far ?_ NB134_141.out _;(with_reducible repeat (first|refine kN ?_ _|refine kD ?_|refine kA ?_ _));refine blk_far ?_ NB134_141.out _;(with_reducible repeat (first|refine kN ?_ _|refine kD ?_|refine kA ?_ _));exact BK134.out) hb);have n1_:=Ak (kB (g:=gb141) (o:=.cells #[.int .u64 t137,.int .u64 t138,.int .u64 t139,.int .u64 t140] 79 (0,0)) (by (with_reducible repeat (first|refine kN ?_ _|refine kD ?_|refine kA ?_ _));refine blk_put (cs:=#[.int .u64 t137,.int .u64 t138,.int .u64 t139,.int .u64 0]) ?_ 3 _ rfl;(with_reducible repeat (first|refine kN ?_ _|refine kD ?_|refine kA ?_ _));refine blk_put (cs:=#[.int .u64 t137,.int .u64 t138,.int .u64 0,.int .u64 0]) ?_ 2 _ rfl;(with_reducible repeat (first|refine kN ?_ _|refine kD ?_|refine kA ?_ _));refine blk_put (cs:=#[.int .u64 t137,.int .u64 0,.int .u64 0,.int .u64 0]) ?_ 1 _ rfl;(with_reducible repeat (first|refine kN ?_ _|refine kD ?_|refine kA ?_ _));refine blk_put (cs:=#[.int .u64 0,.int .u64 0,.int .u64 0,.int .u64 0]) ?_ 0 _ rfl;(with_reducible repeat (first|refine kN ?_ _|refine kD ?_|refine kA ?_ _));exact BK141.out) hb);have n2_:=Ak (below_step (by repeat (first|(with_reducible first|exact HB.out|apply bA|apply bN|apply bD|refine bS ?_ GE134.out|refine bS ?_ GE141.out)|exact HB.out)) hb);clear BK134 BK141 HB;have BK134:=n0_;have BK141:=n1_;have HB:=n2_;clear n0_ n1_ n2_;(try clear hb);(try clear hb2);(try clear hk);(try clear hi)))
              go_roundg k2
              case measure => have:=HK1.out;have:=HK2.out;omega
              case rel => exact ⟨(x4_2),(x5_2),(wrap64 (x8_2+1)),(x135000_2),(x135001_2),(x135002_2),(x135003_2),(by first|rfl|(simp;done)|(simp [*];done)),(by first|rfl|(simp;done)|(simp [*];done)),(by first|rfl|(simp;done)|(simp [*];done)),H',⟨by have:=HK1.out;have:=HK2.out;omega⟩,⟨by (with_reducible repeat (first|refine kN ?_ _|refine kD ?_|refine kA ?_ _));exact BK134.out⟩,⟨by repeat (first|(with_reducible first|exact HB.out|apply bA|apply bN|apply bD|refine bS ?_ GE134.out|refine bS ?_ GE141.out)|exact HB.out)⟩⟩
            ·rw [if_neg c18] at H
             exact absurd H (by simp)
           ·rw [if_neg c17] at H
            exact absurd H (by simp)
          ·rw [if_neg c16] at H
           exact absurd H (by simp)
        ·rw [if_neg c14] at H
         have c14b0 : decide (x8_2 < (l0.length : Int)) = false:=decide_eq_false c14
         clear c14
         have H':=Ak H
         clear H
         (go_wp2;repeat (any_goals (go_step3;go_wp2)))
         go_roundg k2
         case measure => have:=HK1.out;have:=HK2.out;omega
         case rel => exact ⟨(x4_2),(x5_2),(wrap64 (x19_1+1)),(x135000_2),(x135001_2),(x135002_2),(x135003_2),(by first|rfl|(simp;done)|(simp [*];done)),(by first|rfl|(simp;done)|(simp [*];done)),(by first|rfl|(simp;done)|(simp [*];done)),H',⟨by have:=HK1.out;have:=HK2.out;omega⟩,⟨by (with_reducible repeat (first|refine kN ?_ _|refine kD ?_|refine kA ?_ _));exact BK134.out⟩,⟨by repeat (first|(with_reducible first|exact HB.out|apply bA|apply bN|apply bD|refine bS ?_ GE134.out)|exact HB.out)⟩⟩
     ·rw [if_neg c13] at H
      have c13b0 : decide (x19_1 < (l0.length : Int)) = false:=decide_eq_false c13
      clear c13
      simp only [Option.some.injEq,Prod.mk.injEq] at H
      obtain ⟨rfl,rfl⟩:=H
      (go_wp2;repeat (any_goals (go_step3;go_wp2)))
      ((try rw [Exit.noGoto_ret]);go_ret2)
      exact ⟨by first|rfl|(simp [errW_none,errW_some] <;> rfl)|(simp [*,errW_none,errW_some] <;> rfl),by repeat (first|(with_reducible first|exact HB.out|apply bA|apply bN|apply bD|refine bS ?_ GE134.out)|exact HB.out)⟩
  ·rw [if_neg c3] at H
   exact absurd H (by simp)
 ·rw [if_neg c2] at H
  exact absurd H (by simp)
end Go.Proofs.Ythlhmijgbjcloaa.A
end
