/- What the row of this claim reaches. No condition. -/
import Derived.Laws.Bits64b
import Derived.Laws.BytesArg
import Derived.WalkKit
import Derived.Test.YthlhmijgbjcloaaGRefBoxes
import Derived.Test.YthlhmijgbjcloaaGRefCmp
set_option linter.unusedVariables false
set_option linter.unusedSimpArgs false
namespace Go.Proofs.Ythlhmijgbjcloaa
open Go.RowKit
theorem not_u64 (x : Nat) (h : x < 2 ^ 64) : bits .xor .u64 IntKind.u64.max (x : Int) = ((2 ^ 64 - 1 - x : Nat) : Int):=by
 have hm : (IntKind.u64.max : Int) = ((18446744073709551615 : Nat) : Int):=by decide
 rw [hm,bits_xor_u64_nat _ _ (by omega) (by omega)]
 congr 1
 have h1 : (18446744073709551615 ^^^ x) = ((BitVec.allOnes 64) ^^^ (BitVec.ofNat 64 x)).toNat:=by
  rw [BitVec.toNat_xor,BitVec.toNat_allOnes,BitVec.toNat_ofNat,Nat.mod_eq_of_lt h]
 rw [h1,BitVec.allOnes_xor,BitVec.toNat_not,BitVec.toNat_ofNat,Nat.mod_eq_of_lt h]
theorem not_halves (b : Nat) (hb : b < 2 ^ 128) : bits .xor .u64 IntKind.u64.max (hi64 (b : Int)) = hi64 ((2 ^ 128 - 1 - b : Nat) : Int)∧bits .xor .u64 IntKind.u64.max (lo64 (b : Int)) = lo64 ((2 ^ 128 - 1 - b : Nat) : Int):=by
 have e1 : hi64 (b : Int) = ((b / 2 ^ 64 : Nat) : Int):=by unfold hi64;omega
 have e2 : lo64 (b : Int) = ((b % 2 ^ 64 : Nat) : Int):=by unfold lo64;omega
 rw [e1,e2,not_u64 _ (by omega),not_u64 _ (by omega)]
 unfold hi64 lo64
 refine ⟨?_,?_⟩ <;> omega
set_option maxHeartbeats 8000000 in
set_option maxRecDepth 100000 in
theorem refsub_n (a b : Nat) (ha : a < 2 ^ 128) (hb : b < 2 ^ 128) (w : World) :
  Calls Try.prog 30 #[wd a,wd b] w fun e w' => e = .returned (.tuple #[wd (m128 ((a : Int) - b)),.bool (decide ((b : Int) ≤ a))])∧Below w.heap.size w w':=by
 have hz:=zero_row
 obtain ⟨n1,n2⟩:=not_halves b hb
 obtain ⟨c,hc⟩ : ∃ c,2 ^ 128 - 1 - b = c:=⟨_,rfl⟩
 rw [hc] at n1 n2
 obtain ⟨S,hS⟩ : ∃ S,a+c = S:=⟨_,rfl⟩
 obtain ⟨L,hL⟩ : ∃ L,fl (bf S) = L:=⟨_,rfl⟩
 obtain ⟨L1,hL1⟩ : ∃ L,fl (bf 1) = L:=⟨_,rfl⟩
 obtain ⟨D,hD⟩ : ∃ D,m128 ((a : Int) - b) = D:=⟨_,rfl⟩
 obtain ⟨p,hp⟩ : ∃ p,cmpN (a : Int) b = p:=⟨_,rfl⟩
 have hbits1 : ∀ W,Hid (Calls Try.prog 48 #[wd a] W fun e w' => e = .returned (.agg (fv (bf a)))∧Below W.heap.size W w'):=fun W => Lib.hid (bits_n a ha W)
 have hbits2 : ∀ W,Hid (Calls Try.prog 48 #[wd c] W fun e w' => e = .returned (.agg (fv (bf c)))∧Below W.heap.size W w'):=fun W => Lib.hid (bits_n c (by omega) W)
 have hbits3 : ∀ W,Hid (Calls Try.prog 48 #[.agg #[.int .u64 0,.int .u64 1]] W fun e w' => e = .returned (.agg L1.toArray)∧Below W.heap.size W w'):=fun W => Lib.hid (by
  have:=bits_n 1 (by omega) W
  rwa [fv_fl,hL1] at this)
 have hplus1 : ∀ W,Hid (Calls Try.prog 49 #[.agg (fv (bf a)),.agg (fv (bf c)),.int .i64 0] W fun e w' => e = .returned (.agg L.toArray)∧Below W.heap.size W w'):=fun W => Lib.hid (by
  have:=plus_n a c 0 (by omega) W
  rwa [Nat.pow_zero,Nat.mul_one,hS,fv_fl (bf S),hL] at this)
 have hplus2 : ∀ W,Hid (Calls Try.prog 49 #[.agg L.toArray,.agg L1.toArray,.int .i64 0] W fun e w' => e = .returned (.agg (fv (bf (S+1))))∧Below W.heap.size W w'):=fun W => Lib.hid (by
  have:=plus_n S 1 0 (by omega) W
  rwa [Nat.pow_zero,Nat.mul_one,fv_fl (bf S),hL,fv_fl (bf 1),hL1] at this)
 have hof : ∀ W,Hid (Calls Try.prog 50 #[.agg (fv (bf (S+1)))] W fun e w' => e = .returned (wd D)∧Below W.heap.size W w'):=fun W => Lib.hid (by
  have:=of_n (S+1) W
  have e : (((S+1) % 2 ^ 128 : Nat) : Int) = D:=by rw [← hD,← hS,← hc];unfold m128;omega
  rwa [e] at this)
 have hcmp : ∀ W,Hid (Calls Try.prog 31 #[wd a,wd b] W fun e w' => e = .returned (.int .i64 p)∧Below W.heap.size W w'):=fun W => Lib.hid (by
  have:=refcmp_n a b ha hb W
  rwa [hp] at this)
 have hfin : decide ((b : Int) ≤ a) = decide (0 ≤ p):=by
  rw [← hp];unfold cmpN
  by_cases h1 : (a : Int) = b
  ·rw [if_pos h1];simp [h1]
  ·rw [if_neg h1]
   by_cases h2 : (a : Int) < b
   ·rw [if_pos h2,decide_eq_false (by omega),decide_eq_false (by omega)]
   ·rw [if_neg h2,decide_eq_true (by omega),decide_eq_true (by omega)]
 rw [hfin,hD]
 have hn : L.length = 260:=by rw [← hL,fl_length]
 have ho : ∀ v ∈ L,v.oneCell' = true:=by rw [← hL];exact fl_one _
 have hi : (Try.prog.info? 61).map (·.size) = some L.length:=by rw [hn];exact (zero_of_info info_row).2
 have hn1 : L1.length = 260:=by rw [← hL1,fl_length]
 have ho1 : ∀ v ∈ L1,v.oneCell' = true:=by rw [← hL1];exact fl_one _
 have hi1 : (Try.prog.info? 61).map (·.size) = some L1.length:=by rw [hn1];exact (zero_of_info info_row).2
 have tnew:=fun W => there_new W (fun _ => 0)
 have tnew1:=fun W o => there_new1 W o (fun _ => 0)
 have talloc:=there_alloc
 clear hS hL hL1 ha hb hc hD hp hfin
 go_enter Try.func30,Try.ntmps30
 go_wp2
 obtain ⟨W0,hW0⟩ : ∃ W,(((w.alloc (.cells #[.int .u64 (hi64 (a : Int)),.int .u64 (lo64 (a : Int))] 25)).alloc (.cells #[.int .u64 (hi64 (b : Int)),.int .u64 (lo64 (b : Int))] 25)).alloc (.cells #[.int .u64 0,.int .u64 0] 25)).alloc (.cells #[.int .u64 (hi64 (c : Int)),.int .u64 (lo64 (c : Int))] 25) = W:=⟨_,rfl⟩
 have hB : Below w.heap.size w W0:=by rw [← hW0];(repeat (first|exact Below.refl _ _|refine Below.drew ?_|refine below_drewN' ?_|refine Below.alloc ?_ (by simp;try omega) _|refine Below.setCell ?_ (by simp;try omega) _))
 have qa : Blk W0 w.heap.size 25 #[.int .u64 (hi64 (a : Int)),.int .u64 (lo64 (a : Int))]:=by rw [← hW0];exact Blk.alloc (Blk.alloc (Blk.alloc (Blk.newAt rfl) _) _) _
 have qb : Blk W0 (w.heap.size+1) 25 #[.int .u64 (hi64 (b : Int)),.int .u64 (lo64 (b : Int))]:=by rw [← hW0];exact Blk.alloc (Blk.alloc (Blk.newAt (by simp)) _) _
 have qr : Blk W0 (w.heap.size+1+1) 25 #[.int .u64 0,.int .u64 0]:=by rw [← hW0];exact Blk.alloc (Blk.newAt (by simp)) _
 have qc : Blk W0 (w.heap.size+1+1+1) 25 #[.int .u64 (hi64 (c : Int)),.int .u64 (lo64 (c : Int))]:=by rw [← hW0];exact Blk.newAt (by simp)
 have l2:=qc.lt
 have c0 : W0.cell? ⟨w.heap.size,0,none⟩ = some (.int .u64 (hi64 (a : Int))):=qa.cell 0
 have c1 : W0.cell? ⟨w.heap.size,1,none⟩ = some (.int .u64 (lo64 (a : Int))):=qa.cell 1
 have c2 : W0.cell? ⟨w.heap.size+1,0,none⟩ = some (.int .u64 (hi64 (b : Int))):=qb.cell 0
 have c3 : W0.cell? ⟨w.heap.size+1,1,none⟩ = some (.int .u64 (lo64 (b : Int))):=qb.cell 1
 have c4 : W0.cell? ⟨w.heap.size+1+1+1,0,none⟩ = some (.int .u64 (hi64 (c : Int))):=qc.cell 0
 have c5 : W0.cell? ⟨w.heap.size+1+1+1,1,none⟩ = some (.int .u64 (lo64 (c : Int))):=qc.cell 1
 rw [hW0]
 clear hW0 qa qb qc n1 n2
 go_upto_region 2 with fail
 go_cut [7] (fun s7 wx => ∃ g,s7 = .pointer (some ⟨g,0,none⟩)∧wx.rangeAt g 0 L∧g < wx.heap.size∧g ≠ w.heap.size+1+1∧wx.cell? ⟨w.heap.size,0,none⟩ = some (.int .u64 (hi64 (a : Int)))∧wx.cell? ⟨w.heap.size,1,none⟩ = some (.int .u64 (lo64 (a : Int)))∧wx.cell? ⟨w.heap.size+1,0,none⟩ = some (.int .u64 (hi64 (b : Int)))∧wx.cell? ⟨w.heap.size+1,1,none⟩ = some (.int .u64 (lo64 (b : Int)))∧Blk wx (w.heap.size+1+1) 25 #[.int .u64 0,.int .u64 0]∧Below w.heap.size w wx)
 case first =>
  clear hbits3 hplus2 hof hcmp
  go_region_held3 (fun w' => w'.cell? ⟨w.heap.size,0,none⟩ = some (.int .u64 (hi64 (a : Int)))∧w'.cell? ⟨w.heap.size,1,none⟩ = some (.int .u64 (lo64 (a : Int)))∧w'.cell? ⟨w.heap.size+1,0,none⟩ = some (.int .u64 (hi64 (b : Int)))∧w'.cell? ⟨w.heap.size+1,1,none⟩ = some (.int .u64 (lo64 (b : Int)))∧w'.cell? ⟨w.heap.size+1+1+1,0,none⟩ = some (.int .u64 (hi64 (c : Int)))∧w'.cell? ⟨w.heap.size+1+1+1,1,none⟩ = some (.int .u64 (lo64 (c : Int)))∧Blk w' (w.heap.size+1+1) 25 #[.int .u64 0,.int .u64 0]∧Below w.heap.size w w') ((first|(go_split_ands;(repeat' apply And.intro) <;> (first|assumption|exact keep_cell hb2 (by assumption)|exact keep_below (by assumption) hb2|exact Below.drew (by assumption)|exact keep_alloc _ (by assumption)|exact keep_below_alloc _ (by assumption)|exact keep_cells (by assumption) (by first|(simp;done)|(simp;omega))|exact keep_below_cells (by omega) (by assumption)|exact blk_drew_below (by assumption) hb2|exact Blk.alloc (by assumption) _|exact Blk.drew (by assumption)|exact blk_far_cells (by assumption) (by first|(simp;done)|(simp;omega))|exact rng_below (by assumption) (by omega) hb2|exact rng_drew (by assumption)|exact rng_alloc (by assumption) (by omega) _|exact rng_set (rng_set (by assumption) (by first|(simp;done)|(simp;omega)) _) (by first|(simp;done)|(simp;omega)) _|exact keep_below_set2 (by assumption) (by first|(simp;done)|(simp;omega)) (by first|(simp;done)|(simp;omega))|exact keep_set _ (keep_set _ (by assumption) (by first|(simp;done)|(simp;omega))) (by first|(simp;done)|(simp;omega))))|(go_simp;done)|(simp [go_sem, *];done)))
   (first
    | ((refine goes Try.func48 (by kernel_rfl) rfl #[wd a] (by rfl) rfl rfl ?_ ?_;((try simp only [List.map_toArray,List.map_cons,List.map_nil]);rfl);(with_reducible refine ((hbits1 _).out).mono ?_);rintro e w2 ⟨rfl,hb2⟩;refine ⟨_,rfl,?_⟩);have hbk:=there_below hb2;(try (first|have t1:=hbk _ t1|have t1:=hbk _ (there_alloc _ _ _ t1)|have t1:=hbk _ (there_drew t1)|have t1:=hbk _ (there_alloc _ _ _ (there_alloc _ _ _ t1))));(try (first|have t2:=hbk _ t2|have t2:=hbk _ (there_alloc _ _ _ t2)|have t2:=hbk _ (there_drew t2)|have t2:=hbk _ (there_alloc _ _ _ (there_alloc _ _ _ t2))));(try (first|(have t3:=hbk _ (there_new1 _ _ _);have t1:=hbk _ (there_alloc _ _ _ (there_new _ _));have t2:=t3)|(have t3:=hbk _ (there_drew (there_new1 _ _ _));have t1:=hbk _ (there_drew (there_alloc _ _ _ (there_new _ _)));have t2:=t3)|(have t3:=hbk _ (there_new _ _);(try have t1:=t2);have t2:=t3)|(have t3:=hbk _ (there_drew (there_new _ _));(try have t1:=t2);have t2:=t3)));have hsz:=(hb2).size;(try simp only [World.drew] at hsz);(try simp only [World.size_alloc] at hsz))
    | ((refine goes Try.func48 (by kernel_rfl) rfl #[wd c] (by rfl) rfl rfl ?_ ?_;((try simp only [List.map_toArray,List.map_cons,List.map_nil]);rfl);(with_reducible refine ((hbits2 _).out).mono ?_);rintro e w2 ⟨rfl,hb2⟩;refine ⟨_,rfl,?_⟩);have hbk:=there_below hb2;(try (first|have t1:=hbk _ t1|have t1:=hbk _ (there_alloc _ _ _ t1)|have t1:=hbk _ (there_drew t1)|have t1:=hbk _ (there_alloc _ _ _ (there_alloc _ _ _ t1))));(try (first|have t2:=hbk _ t2|have t2:=hbk _ (there_alloc _ _ _ t2)|have t2:=hbk _ (there_drew t2)|have t2:=hbk _ (there_alloc _ _ _ (there_alloc _ _ _ t2))));(try (first|(have t3:=hbk _ (there_new1 _ _ _);have t1:=hbk _ (there_alloc _ _ _ (there_new _ _));have t2:=t3)|(have t3:=hbk _ (there_drew (there_new1 _ _ _));have t1:=hbk _ (there_drew (there_alloc _ _ _ (there_new _ _)));have t2:=t3)|(have t3:=hbk _ (there_new _ _);(try have t1:=t2);have t2:=t3)|(have t3:=hbk _ (there_drew (there_new _ _));(try have t1:=t2);have t2:=t3)));have hsz:=(hb2).size;(try simp only [World.drew] at hsz);(try simp only [World.size_alloc] at hsz))
    | ((refine goes Try.func49 (by kernel_rfl) rfl #[.agg (fv (bf a)),.agg (fv (bf c)),.int .i64 0] (by rfl) rfl rfl ?_ ?_;((try simp only [List.map_toArray,List.map_cons,List.map_nil]);rfl);(with_reducible refine ((hplus1 _).out).mono ?_);rintro e w2 ⟨rfl,hb2⟩;refine ⟨_,rfl,?_⟩);have hbk:=there_below hb2;(try (first|have t1:=hbk _ t1|have t1:=hbk _ (there_alloc _ _ _ t1)|have t1:=hbk _ (there_drew t1)|have t1:=hbk _ (there_alloc _ _ _ (there_alloc _ _ _ t1))));(try (first|have t2:=hbk _ t2|have t2:=hbk _ (there_alloc _ _ _ t2)|have t2:=hbk _ (there_drew t2)|have t2:=hbk _ (there_alloc _ _ _ (there_alloc _ _ _ t2))));(try (first|(have t3:=hbk _ (there_new1 _ _ _);have t1:=hbk _ (there_alloc _ _ _ (there_new _ _));have t2:=t3)|(have t3:=hbk _ (there_drew (there_new1 _ _ _));have t1:=hbk _ (there_drew (there_alloc _ _ _ (there_new _ _)));have t2:=t3)|(have t3:=hbk _ (there_new _ _);(try have t1:=t2);have t2:=t3)|(have t3:=hbk _ (there_drew (there_new _ _));(try have t1:=t2);have t2:=t3)));have hsz:=(hb2).size;(try simp only [World.drew] at hsz);(try simp only [World.size_alloc] at hsz)))
  all_goals
   go_wp2_with fail
   go_meet
   go_split_ands
   refine ⟨_,rfl,rng_new (by (first|assumption|exact tnew _|exact tnew1 _ _|exact talloc _ _ _ (by assumption)|exact talloc _ _ _ (tnew _)|exact talloc _ _ _ (talloc _ _ _ (by assumption)))) hn,by (try simp only [size_cells,World.size_alloc]);omega,by omega,?_⟩
   (repeat' apply And.intro) <;> assumption
 case rest =>
  obtain ⟨g,rfl,hr,hg,hgr,c0,c1,c2,c3,qr,hB⟩:=hcut
  clear hbits1 hbits2 hplus1
  go_wp2_with (first
   | (go_at_call 48;(with_reducible refine (hbits3 _).out.mono ?_);rintro e w3 ⟨rfl,hb3⟩)
   | (have hq : Blk (w3.alloc (.cells (fv fun _ => 0) 61)) w3.heap.size 61 (fv fun _ => 0):=Blk.newAt rfl;refine wpList_store_row rfl 61 _ _ rfl w3.heap.size L1.toArray rfl rfl 61 _ hq (by simpa using hi1) (by rw [fv_size];simp [hn1]) (all_oneCell_toArray ho1) ?_;clear hq))
  obtain ⟨W,hW⟩ : ∃ W,(w3.alloc (.cells (fv fun _ => 0) 61)).setRow w3.heap.size L1.toArray = W:=⟨_,rfl⟩
  have hs3:=hb3.size
  have ql:=qr.lt
  have hr1 : W.rangeAt w3.heap.size 0 L1:=by
   have hq : Blk W w3.heap.size 61 L1.toArray:=by rw [← hW];exact (Blk.newAt rfl).setRow _
   intro j v hv
   rw [Nat.zero_add,hq.cell]
   simpa using hv
  have hWs : W.heap.size = w3.heap.size+1:=by rw [← hW];simp
  replace hr : W.rangeAt g 0 L:=by
   have h3:=rng_alloc (rng_below hr hg hb3) (by omega) (.cells (fv fun _ => 0) 61)
   intro j v hv
   rw [← hW,cell_setRow_other _ _ _ _ (by simp;omega)]
   exact h3 j v hv
  replace qr : Blk W (w.heap.size+1+1) 25 #[.int .u64 0,.int .u64 0]:=by
   rw [← hW]
   exact ((blk_drew_below qr hb3).alloc _).farRow (by omega) _
  have hk : ∀ b o v,b < wc.heap.size→wc.cell? ⟨b,o,none⟩ = some v→W.cell? ⟨b,o,none⟩ = some v:=fun b o v hp h => by
   rw [← hW,cell_setRow_other _ _ _ _ (by simp;omega)]
   exact keep_alloc _ (keep_cell hb3 h)
  replace c0:=hk _ _ _ (lt_cell c0) c0
  replace c1:=hk _ _ _ (lt_cell c1) c1
  replace c2:=hk _ _ _ (lt_cell c2) c2
  replace c3:=hk _ _ _ (lt_cell c3) c3
  replace hB : Below w.heap.size w W:=by
   rw [← hW]
   exact below_setRow (Below.alloc (Below.step hB hb3 hB.size) (by have:=hB.size;omega) _) (by have:=hB.size;omega) _
  have hg8 : w3.heap.size < W.drew.heap.size:=by show _ < W.heap.size;omega
  have hgd : g < W.drew.heap.size:=by show _ < W.heap.size;omega
  have hne8 : w3.heap.size ≠ w.heap.size+1+1:=by omega
  rw [hW]
  clear hW hk hWs hs3 hb3 ql hbits3
  have hu:=Try.underlying61
  refine wp_region_noPanic ?_
  refine wp_region_held_drew (S:=(fun w' => w'.rangeAt g 0 L∧w'.rangeAt w3.heap.size 0 L1∧w'.cell? ⟨w.heap.size,0,none⟩ = some (.int .u64 (hi64 (a : Int)))∧w'.cell? ⟨w.heap.size,1,none⟩ = some (.int .u64 (lo64 (a : Int)))∧w'.cell? ⟨w.heap.size+1,0,none⟩ = some (.int .u64 (hi64 (b : Int)))∧w'.cell? ⟨w.heap.size+1,1,none⟩ = some (.int .u64 (lo64 (b : Int)))∧Below w.heap.size w w')) (by kernel_rfl) ?_ (fun hHeld => ?_)
  ·(try dsimp only)
   exact ⟨hr,hr1,c0,c1,c2,c3,hB.drew⟩
  refine wpAnyH_take (i:=0) (oi:=_) (v:=_) rfl (by kernel_rfl) (by kernel_rfl) (by kernel_rfl) (fun _ _ _ h => h) (yieldsIf_load_mid (by rfl) _ _ rfl g 0 rfl L _ (fun w hw => hw.1) hu rfl hi) (by assumption) ?_
  simp only [Act.put,List.setIfInBounds_toArray,List.set_cons_zero,List.set_cons_succ]
  refine wpAnyH_take (i:=1) (oi:=_) (v:=_) rfl (by kernel_rfl) (by kernel_rfl) (by kernel_rfl) (fun _ _ _ h => h) (yieldsIf_load_mid (by rfl) _ _ rfl w3.heap.size 0 rfl L1 _ (fun w hw => hw.2.1) hu rfl hi1) (by assumption) ?_
  simp only [Act.put,List.setIfInBounds_toArray,List.set_cons_zero,List.set_cons_succ]
  refine wpAnyH_take (i:=4) (oi:=_) (v:=wd a) rfl (by kernel_rfl) (by kernel_rfl) (by kernel_rfl) (fun _ _ _ h => h) (Or.inl ⟨by rfl,by (intro w hSw;(try dsimp only at hSw);go_split_ands;go_simp)⟩) (by assumption) ?_
  simp only [Act.put,List.setIfInBounds_toArray,List.set_cons_zero,List.set_cons_succ]
  refine wpAnyH_take (i:=5) (oi:=_) (v:=wd b) rfl (by kernel_rfl) (by kernel_rfl) (by kernel_rfl) (fun _ _ _ h => h) (Or.inl ⟨by rfl,by (intro w hSw;(try dsimp only at hSw);go_split_ands;go_simp)⟩) (by assumption) ?_
  simp only [Act.put,List.setIfInBounds_toArray,List.set_cons_zero,List.set_cons_succ]
  refine wpAnyH_ready (rs:=[2]) (by kernel_rfl) (by simp) ?_
  refine AllReadyH.cons (o:=_) rfl (fun K hK => ?_) AllReadyH.nil
  ((refine goes Try.func49 (by kernel_rfl) rfl #[.agg L.toArray,.agg L1.toArray,.int .i64 0] (by rfl) rfl rfl ?_ ?_;((try simp only [List.map_toArray,List.map_cons,List.map_nil]);rfl);(with_reducible refine ((hplus2 _).out).mono ?_);rintro e w2 ⟨rfl,hb2⟩;refine ⟨_,rfl,?_⟩);replace qr:=blk_drew_below (Blk.drew qr) hb2;have hsz:=hb2.size)
  refine hK.out _ _ ?_ (fun hHeld => ?_)
  ·(try dsimp only)
   (first|(go_split_ands;(repeat' apply And.intro) <;> (first|assumption|exact keep_cell hb2 (by assumption)|exact keep_below (by assumption) hb2|exact Below.drew (by assumption)|exact keep_alloc _ (by assumption)|exact keep_below_alloc _ (by assumption)|exact keep_cells (by assumption) (by first|(simp;done)|(simp;omega))|exact keep_below_cells (by omega) (by assumption)|exact blk_drew_below (by assumption) hb2|exact Blk.alloc (by assumption) _|exact Blk.drew (by assumption)|exact blk_far_cells (by assumption) (by first|(simp;done)|(simp;omega))|exact rng_below (by assumption) (by omega) hb2|exact rng_drew (by assumption)|exact rng_alloc (by assumption) (by omega) _|exact rng_set (rng_set (by assumption) (by first|(simp;done)|(simp;omega)) _) (by first|(simp;done)|(simp;omega)) _|exact keep_below_set2 (by assumption) (by first|(simp;done)|(simp;omega)) (by first|(simp;done)|(simp;omega))|exact keep_set _ (keep_set _ (by assumption) (by first|(simp;done)|(simp;omega))) (by first|(simp;done)|(simp;omega))))|(go_simp;done)|(simp [go_sem, *];done))
  clear hK K
  (try simp only [Act.put,List.setIfInBounds_toArray,List.set_cons_zero,List.set_cons_succ])
  refine wpAnyH_ready (rs:=[3]) (by kernel_rfl) (by simp) ?_
  refine AllReadyH.cons (o:=_) rfl (fun K hK => ?_) AllReadyH.nil
  ((refine goes Try.func50 (by kernel_rfl) rfl #[.agg (fv (bf (S+1)))] (by rfl) rfl rfl ?_ ?_;((try simp only [List.map_toArray,List.map_cons,List.map_nil]);rfl);(with_reducible refine ((hof _).out).mono ?_);rintro e w2 ⟨rfl,hb2⟩;refine ⟨_,rfl,?_⟩);replace qr:=blk_drew_below qr hb2;have hsz:=hb2.size)
  refine hK.out _ _ ?_ (fun hHeld => ?_)
  ·(try dsimp only)
   (first|(go_split_ands;(repeat' apply And.intro) <;> (first|assumption|exact keep_cell hb2 (by assumption)|exact keep_below (by assumption) hb2|exact Below.drew (by assumption)|exact keep_alloc _ (by assumption)|exact keep_below_alloc _ (by assumption)|exact keep_cells (by assumption) (by first|(simp;done)|(simp;omega))|exact keep_below_cells (by omega) (by assumption)|exact blk_drew_below (by assumption) hb2|exact Blk.alloc (by assumption) _|exact Blk.drew (by assumption)|exact blk_far_cells (by assumption) (by first|(simp;done)|(simp;omega))|exact rng_below (by assumption) (by omega) hb2|exact rng_drew (by assumption)|exact rng_alloc (by assumption) (by omega) _|exact rng_set (rng_set (by assumption) (by first|(simp;done)|(simp;omega)) _) (by first|(simp;done)|(simp;omega)) _|exact keep_below_set2 (by assumption) (by first|(simp;done)|(simp;omega)) (by first|(simp;done)|(simp;omega))|exact keep_set _ (keep_set _ (by assumption) (by first|(simp;done)|(simp;omega))) (by first|(simp;done)|(simp;omega))))|(go_simp;done)|(simp [go_sem, *];done))
  clear hK K
  (try simp only [Act.put,List.setIfInBounds_toArray,List.set_cons_zero,List.set_cons_succ])
  refine wpAnyH_ready (rs:=[6]) (by kernel_rfl) (by simp) ?_
  refine AllReadyH.cons (o:=_) rfl (fun K hK => ?_) AllReadyH.nil
  ((refine goes Try.func31 (by kernel_rfl) rfl #[wd a,wd b] (by rfl) rfl rfl ?_ ?_;((try simp only [List.map_toArray,List.map_cons,List.map_nil]);rfl);(with_reducible refine ((hcmp _).out).mono ?_);rintro e w2 ⟨rfl,hb2⟩;refine ⟨_,rfl,?_⟩);replace qr:=blk_drew_below qr hb2;have z0 : w2.cell? ⟨w.heap.size+1+1,0,none⟩ = some (.int .u64 0):=qr.cell 0;have z1 : w2.cell? ⟨w.heap.size+1+1,1,none⟩ = some (.int .u64 0):=qr.cell 1;have y0:=qr.frozen 0;have y1:=qr.frozen 1;have l4:=qr.lt;have hsz:=hb2.size)
  refine hK.out _ _ ?_ (fun hHeld => ?_)
  ·(try dsimp only)
   (first|(go_split_ands;(repeat' apply And.intro) <;> (first|assumption|exact keep_cell hb2 (by assumption)|exact keep_below (by assumption) hb2|exact Below.drew (by assumption)|exact keep_alloc _ (by assumption)|exact keep_below_alloc _ (by assumption)|exact keep_cells (by assumption) (by first|(simp;done)|(simp;omega))|exact keep_below_cells (by omega) (by assumption)|exact blk_drew_below (by assumption) hb2|exact Blk.alloc (by assumption) _|exact Blk.drew (by assumption)|exact blk_far_cells (by assumption) (by first|(simp;done)|(simp;omega))|exact rng_below (by assumption) (by omega) hb2|exact rng_drew (by assumption)|exact rng_alloc (by assumption) (by omega) _|exact rng_set (rng_set (by assumption) (by first|(simp;done)|(simp;omega)) _) (by first|(simp;done)|(simp;omega)) _|exact keep_below_set2 (by assumption) (by first|(simp;done)|(simp;omega)) (by first|(simp;done)|(simp;omega))|exact keep_set _ (keep_set _ (by assumption) (by first|(simp;done)|(simp;omega))) (by first|(simp;done)|(simp;omega))))|(go_simp;done)|(simp [go_sem, *];done))
  clear hK K
  (try simp only [Act.put,List.setIfInBounds_toArray,List.set_cons_zero,List.set_cons_succ])
  refine wpAnyH_take (i:=7) (oi:=_) (v:=.bool (decide (0 ≤ p))) rfl (by kernel_rfl) (by kernel_rfl) (by kernel_rfl) (fun _ _ _ h => h) (Or.inl ⟨by rfl,by (intro w hSw;(try dsimp only at hSw);go_split_ands;go_simp)⟩) (by assumption) ?_
  simp only [Act.put,List.setIfInBounds_toArray,List.set_cons_zero,List.set_cons_succ]
  refine wpAnyH_ready (rs:=[8]) (by kernel_rfl) (by simp) ?_
  refine AllReadyH.cons (o:=_) rfl (fun K hK => ?_) AllReadyH.nil
  go_simp
  refine hK.out _ _ ?_ (fun hHeld => ?_)
  ·(try dsimp only)
   clear z0 z1 y0 y1
   go_split_ands
   refine ⟨?_,?_,?_,?_,?_,?_,?_⟩
   ·exact rng_set (rng_set (by assumption) (by first|(simp;done)|(simp;omega)) _) (by first|(simp;done)|(simp;omega)) _
   ·exact rng_set (rng_set (by assumption) (by first|(simp;done)|(simp;omega)) _) (by first|(simp;done)|(simp;omega)) _
   ·exact keep_set _ (keep_set _ (by assumption) (by first|(simp;done)|(simp;omega))) (by first|(simp;done)|(simp;omega))
   ·exact keep_set _ (keep_set _ (by assumption) (by first|(simp;done)|(simp;omega))) (by first|(simp;done)|(simp;omega))
   ·exact keep_set _ (keep_set _ (by assumption) (by first|(simp;done)|(simp;omega))) (by first|(simp;done)|(simp;omega))
   ·exact keep_set _ (keep_set _ (by assumption) (by first|(simp;done)|(simp;omega))) (by first|(simp;done)|(simp;omega))
   ·exact keep_below_set2 (by assumption) (by first|(simp;done)|(simp;omega)) (by first|(simp;done)|(simp;omega))
  clear hK K
  (try simp only [Act.put,List.setIfInBounds_toArray,List.set_cons_zero,List.set_cons_succ])
  refine wpAnyH_ready (rs:=[9]) (by kernel_rfl) (by simp) ?_
  refine AllReadyH.cons (o:=_) rfl (fun K hK => ?_) AllReadyH.nil
  go_simp
  refine hK.out _ _ ?_ (fun hHeld => ?_)
  ·(try dsimp only)
   (first|(go_split_ands;(repeat' apply And.intro) <;> (first|assumption|exact keep_cell hb2 (by assumption)|exact keep_below (by assumption) hb2|exact Below.drew (by assumption)|exact keep_alloc _ (by assumption)|exact keep_below_alloc _ (by assumption)|exact keep_cells (by assumption) (by first|(simp;done)|(simp;omega))|exact keep_below_cells (by omega) (by assumption)|exact blk_drew_below (by assumption) hb2|exact Blk.alloc (by assumption) _|exact Blk.drew (by assumption)|exact blk_far_cells (by assumption) (by first|(simp;done)|(simp;omega))|exact rng_below (by assumption) (by omega) hb2|exact rng_drew (by assumption)|exact rng_alloc (by assumption) (by omega) _|exact rng_set (rng_set (by assumption) (by first|(simp;done)|(simp;omega)) _) (by first|(simp;done)|(simp;omega)) _|exact keep_below_set2 (by assumption) (by first|(simp;done)|(simp;omega)) (by first|(simp;done)|(simp;omega))|exact keep_set _ (keep_set _ (by assumption) (by first|(simp;done)|(simp;omega))) (by first|(simp;done)|(simp;omega))))|(go_simp;done)|(simp [go_sem, *];done))
  clear hK K
  (try simp only [Act.put,List.setIfInBounds_toArray,List.set_cons_zero,List.set_cons_succ])
  refine wpAnyH_done (by kernel_rfl) ?_ _
  refine NoPanic.normal ?_
  go_split_ands
  go_wp2_with fail
  refine bodyPost_ret (v:=.tuple #[wd D,.bool (decide (0 ≤ p))]) (by simp [results,Try.results30,go_sem, *]) rfl ⟨rfl,by assumption⟩
end Go.Proofs.Ythlhmijgbjcloaa
