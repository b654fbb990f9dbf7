/- What the row of this claim reaches. No condition. -/
import Derived.StillTailTactics
import Derived.Laws.BytesArg
import Derived.WalkKit
import Derived.Test.YthlhmijgbjcloaaGPlus
set_option linter.unusedVariables false
set_option linter.unusedSimpArgs false
namespace Go.Proofs.Ythlhmijgbjcloaa
open Go.RowKit
theorem or_bit (n i : Nat) (h : i < 64) : bits .or .u64 ((n % 2 ^ i : Nat) : Int) (IntKind.u64.wrap ((bt n i : Int) * 2 ^ i)) = ((n % 2 ^ (i+1) : Nat) : Int):=by
 have hb:=bt_le n i
 have hp : (2 : Nat) ^ i ≤ 2 ^ 63:=Nat.pow_le_pow_right (by omega) (by omega)
 have hlt : n % 2 ^ i < 2 ^ i:=Nat.mod_lt _ (Nat.pos_of_ne_zero (by simp))
 have e : (bt n i : Int) * 2 ^ i = ((bt n i * 2 ^ i : Nat) : Int):=by simp
 have hm : bt n i * 2 ^ i ≤ 2 ^ i:=by
  have : bt n i = 0∨bt n i = 1:=by omega
  rcases this with h|h <;> rw [h] <;> omega
 rw [mod_succ,e,IntKind.wrap_u64,Int.emod_eq_of_lt (by omega) (by omega),Nat.mul_comm (2 ^ i)]
 have hor : bt n i * 2 ^ i+n % 2 ^ i = (bt n i * 2 ^ i) ||| (n % 2 ^ i):=by
  rw [Nat.mul_comm];exact Nat.two_pow_add_eq_or_of_lt hlt _
 rw [bits_or_u64_nat _ _ (by omega) (by omega),Nat.add_comm,hor,Nat.or_comm]
theorem Blk.wide_set1 {W : World} {g : Nat} {t : TypeId} {a b : Value} (h : Blk W g t #[a,b]) (u : Value) : Blk (W.setCell ⟨g,1,none⟩ u) g t #[a,u]:=h.set_ 1 u
theorem Blk.wide_set0 {W : World} {g : Nat} {t : TypeId} {a b : Value} (h : Blk W g t #[a,b]) (u : Value) : Blk (W.setCell ⟨g,0,none⟩ u) g t #[u,b]:=h.set_ 0 u
set_option maxHeartbeats 1000000 in
set_option maxRecDepth 100000 in
theorem of_n (N : Nat) (w : World) :
  Calls Try.prog 50 #[.agg (fv (bf N))] w fun e w' => e = .returned (wd (N % 2 ^ 128 : Nat))∧Below w.heap.size w w':=by
 go_enter Try.func50,Try.ntmps50
 go_wp2
 go_loopw [4] (fun v4 wr => ∃ i : Nat,i ≤ 64∧v4 = .int .i64 (i : Int)∧Blk wr w.heap.size 61 (fv (bf N)) ∧
   Blk wr (w.heap.size+1+1) 25 #[.int .u64 ((N / 2 ^ 64 % 2 ^ i : Nat) : Int),.int .u64 ((N % 2 ^ i : Nat) : Int)] ∧
   Blk wr (w.heap.size+1) 25 #[.int .u64 0,.int .u64 0]∧Below w.heap.size w wr) (fun v4 _ => 64 - (intOf v4).toNat)
 case atStart =>
  refine ⟨0,by omega,by go_num,Blk.alloc (Blk.alloc (Blk.newAt rfl) _) _,?_,Blk.alloc (Blk.newAt (by simp)) _,by (repeat (first|exact Below.refl _ _|refine Below.drew ?_|refine below_drewN' ?_|refine Below.alloc ?_ (by simp;try omega) _|refine Below.setCell ?_ (by simp;try omega) _))⟩
  simp only [Nat.pow_zero,Nat.mod_one]
  exact Blk.newAt (by simp)
 case round =>
  obtain ⟨i,hi,rfl,hr,hX,hZ,hB⟩:=hrel
  by_cases hlt : i < 64
  ·obtain ⟨x,hx⟩ : ∃ x,bt N i = x:=⟨_,rfl⟩
   obtain ⟨y,hy⟩ : ∃ y,bt N (64+i) = y:=⟨_,rfl⟩
   have hx1:=bt_le N i
   have hy1:=bt_le N (64+i)
   rw [hx] at hx1
   rw [hy] at hy1
   obtain ⟨p,hp⟩ : ∃ p,N % 2 ^ i = p:=⟨_,rfl⟩
   obtain ⟨q,hq⟩ : ∃ q,N / 2 ^ 64 % 2 ^ i = q:=⟨_,rfl⟩
   rw [hp,hq] at hX
   have f1:=(hr.cell i).trans (fv_get _ (by omega))
   rw [bf,hx] at f1
   obtain ⟨p',hp'⟩ : ∃ p,N % 2 ^ (i+1) = p:=⟨_,rfl⟩
   obtain ⟨q',hq'⟩ : ∃ q,N / 2 ^ 64 % 2 ^ (i+1) = q:=⟨_,rfl⟩
   have e1:=or_bit N i hlt
   have e2:=or_bit (N / 2 ^ 64) i hlt
   rw [hp,hp',hx] at e1
   rw [hq,hq',show bt (N / 2 ^ 64) i = bt N (64+i) by unfold bt;rw [Nat.div_div_eq_div_mul,← Nat.pow_add],hy] at e2
   have HP':=Lib.hid hp'
   have HQ':=Lib.hid hq'
   have HX:=Lib.hid hx
   have HY:=Lib.hid hy
   have HP:=Lib.hid hp
   have HQ:=Lib.hid hq
   clear hx hy hp hq hp' hq'
   have l0:=hr.lt
   have l1:=hX.lt
   have c1 : wr.cell? ⟨w.heap.size+1+1,1,none⟩ = some (.int .u64 (p : Int)):=hX.cell 1
   have d1:=hX.frozen 1
   have i1 : (i : Int) < 260:=by omega
   have i2 : (64 : Int)+i < 260:=by omega
   have i3 : IntKind.i64.wrap (64+(i : Int)) = 64+i:=by simp only [IntKind.wrap_i64];omega
   have i4 : (0 : Int) ≤ 64+i:=by omega
   have i5 : (64+(i : Int)).toNat = 64+i:=by omega
   go_wp2
   refine wp_region_still_tail 10 (by kernel_rfl) (by kernel_rfl) ?_;simp only [List.take_succ_cons,List.take_zero,List.drop_succ_cons,List.drop_zero];change wpStill _ _ (World.drew wr) (fun a' => wpList _ _ _ _ a' (World.drew wr)) _ _;(iterate 10 still_step);refine wpStill_nil ?_
   go_wp2
   obtain ⟨W,hW⟩ : ∃ W,(wr.setCell ⟨w.heap.size+1+1,1,none⟩ (.int .u64 (p' : Int))).drew = W:=⟨_,rfl⟩
   replace hX : Blk W (w.heap.size+1+1) 25 #[.int .u64 (q : Int),.int .u64 (p' : Int)]:=by rw [← hW];exact (Blk.wide_set1 hX _).drew
   replace hr : Blk W w.heap.size 61 (fv (bf N)):=by rw [← hW];exact (hr.far (by simp;omega) _).drew
   replace hZ : Blk W (w.heap.size+1) 25 #[.int .u64 0,.int .u64 0]:=by rw [← hW];exact (hZ.far (by simp) _).drew
   replace hB : Below w.heap.size w W:=by rw [← hW];exact (hB.setCell (by simp;omega) _).drew
   have f2:=(hr.cell (64+i)).trans (fv_get _ (by omega))
   rw [bf,HY.out] at f2
   replace l0:=hr.lt
   replace l1:=hX.lt
   have c0 : W.cell? ⟨w.heap.size+1+1,0,none⟩ = some (.int .u64 (q : Int)):=hX.cell 0
   have d0:=hX.frozen 0
   rw [e1,hW]
   clear hW c1 d1 f1 e1
   refine wp_region_still_tail 11 (by kernel_rfl) (by kernel_rfl) ?_;simp only [List.take_succ_cons,List.take_zero,List.drop_succ_cons,List.drop_zero];change wpStill _ _ (World.drew W) (fun a' => wpList _ _ _ _ a' (World.drew W)) _ _;(iterate 11 still_step);refine wpStill_nil ?_
   go_wp2
   go_roundw
   case rel =>
    refine ⟨i+1,by omega,by go_num,(hr.far (by simp;omega) _).drew,?_,(hZ.far (by simp) _).drew,(hB.setCell (by simp;omega) _).drew⟩
    rw [HP'.out,HQ'.out]
    exact (Blk.wide_set0 hX _).drew
   case measure => simp [intOf];omega
  ·obtain rfl : i = 64:=by omega
   have c0 : wr.cell? ⟨w.heap.size+1+1,0,none⟩ = some (.int .u64 ((N / 2 ^ 64 % 2 ^ 64 : Nat) : Int)):=hX.cell 0
   have c1 : wr.cell? ⟨w.heap.size+1+1,1,none⟩ = some (.int .u64 ((N % 2 ^ 64 : Nat) : Int)):=hX.cell 1
   obtain ⟨p,hp⟩ : ∃ p,N % 2 ^ 64 = p:=⟨_,rfl⟩
   obtain ⟨q,hq⟩ : ∃ q,N / 2 ^ 64 % 2 ^ 64 = q:=⟨_,rfl⟩
   have hv : wd ((N % 2 ^ 128 : Nat) : Int) = .agg #[.int .u64 (q : Int),.int .u64 (p : Int)]:=by
    unfold wd hi64 lo64
    rw [← hp,← hq]
    have e1 : ((N % 2 ^ 128 : Nat) : Int) / 18446744073709551616 = ((N / 2 ^ 64 % 2 ^ 64 : Nat) : Int):=by omega
    have e2 : ((N % 2 ^ 128 : Nat) : Int) % 18446744073709551616 = ((N % 2 ^ 64 : Nat) : Int):=by omega
    rw [e1,e2]
   have HV:=Lib.hid hv
   rw [hp] at c1
   rw [hq] at c0
   have z0 : wr.cell? ⟨w.heap.size+1,0,none⟩ = some (.int .u64 0):=hZ.cell 0
   have z1 : wr.cell? ⟨w.heap.size+1,1,none⟩ = some (.int .u64 0):=hZ.cell 1
   have y0:=hZ.frozen 0
   have y1:=hZ.frozen 1
   have l1:=hX.lt
   have l2:=hZ.lt
   clear hX hp hq hv hZ
   go_wp2
   refine bodyPost_ret (v:=.agg #[.int .u64 (q : Int),.int .u64 (p : Int)]) (by simp [results,Try.results50,go_sem, *]) rfl ⟨HV.out.symm ▸ rfl,?_⟩
   exact (hB.setCell (by simp) _).setCell (by simp) _
end Go.Proofs.Ythlhmijgbjcloaa
