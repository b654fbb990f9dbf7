/- What the row of this claim reaches. No condition. -/
import Derived.Laws.BytesArg
import Derived.WalkKit
import Derived.Test.YthlhmijgbjcloaaGRowCells
set_option linter.unusedVariables false
set_option linter.unusedSimpArgs false
namespace Go.Proofs.Ythlhmijgbjcloaa
open Go.RowKit
set_option maxHeartbeats 4000000 in
set_option maxRecDepth 100000 in
theorem refadd_n (a b : Nat) (ha : a < 2 ^ 128) (hb : b < 2 ^ 128) (w : World) :
  Calls Try.prog 28 #[wd a,wd b] w fun e w' => e = .returned (.tuple #[wd ((a+b) % 2 ^ 128 : Nat),.bool ((bt (a+b) 128 : Int) == 0)])∧Below w.heap.size w w':=by
 have hz:=zero_row
 obtain ⟨S,hS⟩ : ∃ S,a+b = S:=⟨_,rfl⟩
 obtain ⟨L,hL⟩ : ∃ L,fl (bf S) = L:=⟨_,rfl⟩
 have hbits1 : ∀ W,Hid (Calls Try.prog 48 #[wd a] W fun e w' => e = .returned (.agg (fv (bf a)))∧Below W.heap.size W w'):=fun W => Lib.hid (bits_n a ha W)
 have hbits2 : ∀ W,Hid (Calls Try.prog 48 #[wd b] W fun e w' => e = .returned (.agg (fv (bf b)))∧Below W.heap.size W w'):=fun W => Lib.hid (bits_n b hb W)
 have hplus : ∀ W,Hid (Calls Try.prog 49 #[.agg (fv (bf a)),.agg (fv (bf b)),.int .i64 0] W fun e w' => e = .returned (.agg L.toArray)∧Below W.heap.size W w'):=fun W => Lib.hid (by
  have:=plus_n a b 0 (by omega) W
  rwa [Nat.pow_zero,Nat.mul_one,hS,fv_fl (bf S),hL] at this)
 have hof : ∀ W,Hid (Calls Try.prog 50 #[.agg L.toArray] W fun e w' => e = .returned (wd (S % 2 ^ 128 : Nat))∧Below W.heap.size W w'):=fun W => Lib.hid (by
  have:=of_n S W
  rwa [fv_fl,hL] at this)
 have hn : L.length = 260:=by rw [← hL,fl_length]
 have ho : ∀ v ∈ L,v.oneCell' = true:=by rw [← hL];exact fl_one _
 have hi : (Try.prog.info? 61).map (·.size) = some L.length:=by rw [hn];exact (zero_of_info info_row).2
 have h128 : L[128]? = some (.int .i64 (bf S 128)):=by rw [← hL,fl_get _ (by omega)]
 rw [hS]
 obtain ⟨x,hx⟩ : ∃ x,bt S 128 = x:=⟨_,rfl⟩
 rw [bf,hx] at h128
 rw [hx]
 obtain ⟨T,hT⟩ : ∃ T,S % 2 ^ 128 = T:=⟨_,rfl⟩
 rw [hT] at hof ⊢
 have tnew:=fun W => there_new W (fun _ => 0)
 have tnew1:=fun W o => there_new1 W o (fun _ => 0)
 have talloc:=there_alloc
 have H128:=Lib.hid h128
 clear hS hL ha hb hT h128 hx
 go_enter Try.func28,Try.ntmps28
 go_wp2
 obtain ⟨W0,hW0⟩ : ∃ W,((w.alloc (.cells #[.int .u64 (hi64 (a : Int)),.int .u64 (lo64 (a : Int))] 25)).alloc (.cells #[.int .u64 (hi64 (b : Int)),.int .u64 (lo64 (b : Int))] 25)).alloc (.cells #[.int .u64 0,.int .u64 0] 25) = W:=⟨_,rfl⟩
 have hB : Below w.heap.size w W0:=by rw [← hW0];(repeat (first|exact Below.refl _ _|refine Below.drew ?_|refine below_drewN' ?_|refine Below.alloc ?_ (by simp;try omega) _|refine Below.setCell ?_ (by simp;try omega) _))
 have qa : Blk W0 w.heap.size 25 #[.int .u64 (hi64 (a : Int)),.int .u64 (lo64 (a : Int))]:=by rw [← hW0];exact Blk.alloc (Blk.alloc (Blk.newAt rfl) _) _
 have qb : Blk W0 (w.heap.size+1) 25 #[.int .u64 (hi64 (b : Int)),.int .u64 (lo64 (b : Int))]:=by rw [← hW0];exact Blk.alloc (Blk.newAt (by simp)) _
 have qr : Blk W0 (w.heap.size+1+1) 25 #[.int .u64 0,.int .u64 0]:=by rw [← hW0];exact Blk.newAt (by simp)
 have l2:=qr.lt
 have c0 : W0.cell? ⟨w.heap.size,0,none⟩ = some (.int .u64 (hi64 (a : Int))):=qa.cell 0
 have c1 : W0.cell? ⟨w.heap.size,1,none⟩ = some (.int .u64 (lo64 (a : Int))):=qa.cell 1
 have c2 : W0.cell? ⟨w.heap.size+1,0,none⟩ = some (.int .u64 (hi64 (b : Int))):=qb.cell 0
 have c3 : W0.cell? ⟨w.heap.size+1,1,none⟩ = some (.int .u64 (lo64 (b : Int))):=qb.cell 1
 rw [hW0]
 clear hW0 qa qb
 go_upto_region 1 with fail
 go_cut [6] (fun s6 wx => ∃ g,s6 = .pointer (some ⟨g,0,none⟩)∧wx.rangeAt g 0 L∧g < wx.heap.size∧g ≠ w.heap.size+1+1∧Blk wx (w.heap.size+1+1) 25 #[.int .u64 0,.int .u64 0]∧Below w.heap.size w wx)
 case first =>
  go_region_held3 (fun w' => w'.cell? ⟨w.heap.size,0,none⟩ = some (.int .u64 (hi64 (a : Int)))∧w'.cell? ⟨w.heap.size,1,none⟩ = some (.int .u64 (lo64 (a : Int)))∧w'.cell? ⟨w.heap.size+1,0,none⟩ = some (.int .u64 (hi64 (b : Int)))∧w'.cell? ⟨w.heap.size+1,1,none⟩ = some (.int .u64 (lo64 (b : Int)))∧Blk w' (w.heap.size+1+1) 25 #[.int .u64 0,.int .u64 0]∧Below w.heap.size w w') ((first|(go_split_ands;(repeat' apply And.intro) <;> (first|assumption|exact keep_cell hb2 (by assumption)|exact keep_below (by assumption) hb2|exact Below.drew (by assumption)|exact keep_alloc _ (by assumption)|exact keep_below_alloc _ (by assumption)|exact keep_cells (by assumption) (by first|(simp;done)|(simp;omega))|exact keep_below_cells (by omega) (by assumption)|exact blk_drew_below (by assumption) hb2|exact Blk.alloc (by assumption) _|exact Blk.drew (by assumption)|exact blk_far_cells (by assumption) (by first|(simp;done)|(simp;omega))|exact rng_below (by assumption) (by omega) hb2|exact rng_drew (by assumption)|exact rng_alloc (by assumption) (by omega) _|exact rng_set (rng_set (by assumption) (by first|(simp;done)|(simp;omega)) _) (by first|(simp;done)|(simp;omega)) _|exact keep_below_set2 (by assumption) (by first|(simp;done)|(simp;omega)) (by first|(simp;done)|(simp;omega))|exact keep_set _ (keep_set _ (by assumption) (by first|(simp;done)|(simp;omega))) (by first|(simp;done)|(simp;omega))))|(go_simp;done)|(simp [go_sem, *];done)))
   (first
    | ((refine goes Try.func48 (by kernel_rfl) rfl #[wd a] (by rfl) rfl rfl ?_ ?_;((try simp only [List.map_toArray,List.map_cons,List.map_nil]);rfl);(with_reducible refine ((hbits1 _).out).mono ?_);rintro e w2 ⟨rfl,hb2⟩;refine ⟨_,rfl,?_⟩);have hbk:=there_below hb2;(try (first|have t1:=hbk _ t1|have t1:=hbk _ (there_alloc _ _ _ t1)|have t1:=hbk _ (there_drew t1)|have t1:=hbk _ (there_alloc _ _ _ (there_alloc _ _ _ t1))));(try (first|have t2:=hbk _ t2|have t2:=hbk _ (there_alloc _ _ _ t2)|have t2:=hbk _ (there_drew t2)|have t2:=hbk _ (there_alloc _ _ _ (there_alloc _ _ _ t2))));(try (first|(have t3:=hbk _ (there_new1 _ _ _);have t1:=hbk _ (there_alloc _ _ _ (there_new _ _));have t2:=t3)|(have t3:=hbk _ (there_drew (there_new1 _ _ _));have t1:=hbk _ (there_drew (there_alloc _ _ _ (there_new _ _)));have t2:=t3)|(have t3:=hbk _ (there_new _ _);(try have t1:=t2);have t2:=t3)|(have t3:=hbk _ (there_drew (there_new _ _));(try have t1:=t2);have t2:=t3)));have hsz:=(hb2).size;(try simp only [World.drew] at hsz);(try simp only [World.size_alloc] at hsz))
    | ((refine goes Try.func48 (by kernel_rfl) rfl #[wd b] (by rfl) rfl rfl ?_ ?_;((try simp only [List.map_toArray,List.map_cons,List.map_nil]);rfl);(with_reducible refine ((hbits2 _).out).mono ?_);rintro e w2 ⟨rfl,hb2⟩;refine ⟨_,rfl,?_⟩);have hbk:=there_below hb2;(try (first|have t1:=hbk _ t1|have t1:=hbk _ (there_alloc _ _ _ t1)|have t1:=hbk _ (there_drew t1)|have t1:=hbk _ (there_alloc _ _ _ (there_alloc _ _ _ t1))));(try (first|have t2:=hbk _ t2|have t2:=hbk _ (there_alloc _ _ _ t2)|have t2:=hbk _ (there_drew t2)|have t2:=hbk _ (there_alloc _ _ _ (there_alloc _ _ _ t2))));(try (first|(have t3:=hbk _ (there_new1 _ _ _);have t1:=hbk _ (there_alloc _ _ _ (there_new _ _));have t2:=t3)|(have t3:=hbk _ (there_drew (there_new1 _ _ _));have t1:=hbk _ (there_drew (there_alloc _ _ _ (there_new _ _)));have t2:=t3)|(have t3:=hbk _ (there_new _ _);(try have t1:=t2);have t2:=t3)|(have t3:=hbk _ (there_drew (there_new _ _));(try have t1:=t2);have t2:=t3)));have hsz:=(hb2).size;(try simp only [World.drew] at hsz);(try simp only [World.size_alloc] at hsz))
    | ((refine goes Try.func49 (by kernel_rfl) rfl #[.agg (fv (bf a)),.agg (fv (bf b)),.int .i64 0] (by rfl) rfl rfl ?_ ?_;((try simp only [List.map_toArray,List.map_cons,List.map_nil]);rfl);(with_reducible refine ((hplus _).out).mono ?_);rintro e w2 ⟨rfl,hb2⟩;refine ⟨_,rfl,?_⟩);have hbk:=there_below hb2;(try (first|have t1:=hbk _ t1|have t1:=hbk _ (there_alloc _ _ _ t1)|have t1:=hbk _ (there_drew t1)|have t1:=hbk _ (there_alloc _ _ _ (there_alloc _ _ _ t1))));(try (first|have t2:=hbk _ t2|have t2:=hbk _ (there_alloc _ _ _ t2)|have t2:=hbk _ (there_drew t2)|have t2:=hbk _ (there_alloc _ _ _ (there_alloc _ _ _ t2))));(try (first|(have t3:=hbk _ (there_new1 _ _ _);have t1:=hbk _ (there_alloc _ _ _ (there_new _ _));have t2:=t3)|(have t3:=hbk _ (there_drew (there_new1 _ _ _));have t1:=hbk _ (there_drew (there_alloc _ _ _ (there_new _ _)));have t2:=t3)|(have t3:=hbk _ (there_new _ _);(try have t1:=t2);have t2:=t3)|(have t3:=hbk _ (there_drew (there_new _ _));(try have t1:=t2);have t2:=t3)));have hsz:=(hb2).size;(try simp only [World.drew] at hsz);(try simp only [World.size_alloc] at hsz)))
  all_goals
   go_wp2_with fail
   go_meet
   go_split_ands
   refine ⟨_,rfl,rng_new (by first|exact t1|exact tnew _|(simp only [*];done)) hn,by (try simp only [size_cells,World.size_alloc]);omega,by omega,by assumption,by assumption⟩
 case rest =>
  obtain ⟨g,rfl,hr,hg,hgr,qr,hB⟩:=hcut
  have hu:=Try.underlying61
  have c0:=hr 128 _ H128.out
  rw [Nat.zero_add] at c0
  have hgd : g < wc.drew.heap.size:=hg
  go_wp2_with fail
  go_region_held3 (fun w' => w'.rangeAt g 0 L∧w'.cell? ⟨g,128,none⟩ = some (.int .i64 (x : Int))∧Below w.heap.size w w') ((first|(go_split_ands;(repeat' apply And.intro) <;> (first|assumption|exact keep_cell hb2 (by assumption)|exact keep_below (by assumption) hb2|exact Below.drew (by assumption)|exact keep_alloc _ (by assumption)|exact keep_below_alloc _ (by assumption)|exact keep_cells (by assumption) (by first|(simp;done)|(simp;omega))|exact keep_below_cells (by omega) (by assumption)|exact blk_drew_below (by assumption) hb2|exact Blk.alloc (by assumption) _|exact Blk.drew (by assumption)|exact blk_far_cells (by assumption) (by first|(simp;done)|(simp;omega))|exact rng_below (by assumption) (by omega) hb2|exact rng_drew (by assumption)|exact rng_alloc (by assumption) (by omega) _|exact rng_set (rng_set (by assumption) (by first|(simp;done)|(simp;omega)) _) (by first|(simp;done)|(simp;omega)) _|exact keep_below_set2 (by assumption) (by first|(simp;done)|(simp;omega)) (by first|(simp;done)|(simp;omega))|exact keep_set _ (keep_set _ (by assumption) (by first|(simp;done)|(simp;omega))) (by first|(simp;done)|(simp;omega))))|(go_simp;done)|(simp [go_sem, *];done)))
   (first
    | ((refine goes Try.func50 (by kernel_rfl) rfl #[.agg L.toArray] (by rfl) rfl rfl ?_ ?_;((try simp only [List.map_toArray,List.map_cons,List.map_nil]);rfl);(with_reducible refine ((hof _).out).mono ?_);rintro e w2 ⟨rfl,hb2⟩;refine ⟨_,rfl,?_⟩);replace qr:=blk_drew_below (Blk.drew qr) hb2;have z0 : w2.cell? ⟨w.heap.size+1+1,0,none⟩ = some (.int .u64 0):=qr.cell 0;have z1 : w2.cell? ⟨w.heap.size+1+1,1,none⟩ = some (.int .u64 0):=qr.cell 1;have y0:=qr.frozen 0;have y1:=qr.frozen 1;have l4:=qr.lt))
  go_split_ands
  go_wp2_with fail
  refine bodyPost_ret (v:=.tuple #[wd (T : Nat),.bool ((x : Int) == 0)]) (by simp [results,Try.results28,go_sem, *]) rfl ⟨rfl,by assumption⟩
end Go.Proofs.Ythlhmijgbjcloaa
