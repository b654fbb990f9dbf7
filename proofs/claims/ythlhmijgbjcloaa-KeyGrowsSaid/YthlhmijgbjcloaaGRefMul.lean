/- What the row of this claim reaches. No condition. -/
import Derived.Laws.BytesArg
import Derived.WalkKit
import Derived.Test.YthlhmijgbjcloaaGOf
set_option linter.unusedVariables false
set_option linter.unusedSimpArgs false
namespace Go.Proofs.Ythlhmijgbjcloaa
open Go.RowKit
theorem Blk.setRow {w : World} {g : Nat} {t : TypeId} {cs : Array Value} (h : Blk w g t cs) (ds : Array Value) : Blk (w.setRow g ds) g t ds:=setRow_heap _ _ _ _ _ _ h
theorem Blk.farRow {w : World} {g k : Nat} {t : TypeId} {cs : Array Value} (h : Blk w g t cs) (hk : g ≠ k) (ds : Array Value) : Blk (w.setRow k ds) g t cs:=(setRow_other _ _ _ _ hk).trans h
theorem mul_step (a b i : Nat) : a * (b % 2 ^ (i+1)) = a * (b % 2 ^ i)+(a * bt b i) * 2 ^ i:=by
 rw [mod_succ,Nat.mul_add,Nat.mul_comm (2 ^ i),Nat.mul_assoc]
set_option maxHeartbeats 1000000 in
set_option maxRecDepth 100000 in
theorem refmul_n (a b : Nat) (ha : a < 2 ^ 64) (hb : b < 2 ^ 64) (w : World) :
  Calls Try.prog 17 #[.int .u64 (a : Int),.int .u64 (b : Int)] w fun e w' => e = .returned (wd (a * b : Nat))∧Below w.heap.size w w':=by
 have hz:=zero_row
 have bits1 : ∀ n : Nat,n < 2 ^ 64→∀ W,Calls Try.prog 48 #[.agg #[.int .u64 0,.int .u64 (n : Int)]] W fun e w' => e = .returned (.agg (fv (bf n)))∧Below W.heap.size W w':=fun n hn W => by
  have h:=bits_n n (by omega) W
  unfold wd hi64 lo64 at h
  rw [show (n : Int) / 18446744073709551616 = 0 by omega,show (n : Int) % 18446744073709551616 = n by omega] at h
  exact h
 have hbits1 : ∀ W,Hid (Calls Try.prog 48 #[.agg #[.int .u64 0,.int .u64 (a : Int)]] W fun e w' => e = .returned (.agg (fv (bf a)))∧Below W.heap.size W w'):=fun W => Lib.hid (bits1 a ha W)
 have hbits2 : ∀ W,Hid (Calls Try.prog 48 #[.agg #[.int .u64 0,.int .u64 (b : Int)]] W fun e w' => e = .returned (.agg (fv (bf b)))∧Below W.heap.size W w'):=fun W => Lib.hid (bits1 b hb W)
 have HA:=Lib.hid ha
 have HBb:=Lib.hid hb
 clear bits1 ha hb
 go_enter Try.func17,Try.ntmps17
 go_wp2_with (first
  | (go_at_call 48;(with_reducible refine (hbits1 _).out.mono ?_);rintro e w1 ⟨rfl,hb1⟩)
  | (go_at_call 48;(with_reducible refine (hbits2 _).out.mono ?_);rintro e w2 ⟨rfl,hb2⟩)
  | (have hq : Blk ((w2.alloc (.cells (fv fun _ => 0) 61)).alloc (.cells (fv fun _ => 0) 61)) w2.heap.size 61 (fv fun _ => 0):=Blk.alloc (Blk.newAt rfl) _;refine wpList_store_row rfl 61 _ _ rfl (w2.heap.size) (fv (bf a)) rfl rfl 61 _ (hq) (size_row _) (by rw [fv_size,fv_size]) (fv_one _) ?_;clear hq)
  | (have hq : Blk (((w2.alloc (.cells (fv fun _ => 0) 61)).alloc (.cells (fv fun _ => 0) 61)).setRow w2.heap.size (fv (bf a))) (w2.heap.size+1) 61 (fv fun _ => 0):=(Blk.newAt (by simp)).farRow (by simp) _;refine wpList_store_row rfl 61 _ _ rfl (w2.heap.size+1) (fv (bf b)) rfl rfl 61 _ (hq) (size_row _) (by rw [fv_size,fv_size]) (fv_one _) ?_;clear hq))
 obtain ⟨W,hW⟩ : ∃ W,(((w2.alloc (.cells (fv fun _ => 0) 61)).alloc (.cells (fv fun _ => 0) 61)).setRow w2.heap.size (fv (bf a))).setRow (w2.heap.size+1) (fv (bf b)) = W:=⟨_,rfl⟩
 have hsz1:=hb1.size
 have hsz2:=hb2.size
 simp at hsz1 hsz2
 have q5 : Blk W w2.heap.size 61 (fv (bf a)):=by rw [← hW];exact ((Blk.alloc (Blk.newAt rfl) _).setRow _).farRow (by omega) _
 have q6 : Blk W (w2.heap.size+1) 61 (fv (bf b)):=by rw [← hW];exact ((Blk.newAt (by simp)).farRow (by omega) _).setRow _
 have q4 : Blk W w.heap.size 25 #[.int .u64 0,.int .u64 0]:=by
  rw [← hW]
  refine (Blk.farRow (Blk.farRow (Blk.alloc (Blk.alloc ?_ _) _) (by omega) _) (by omega) _)
  exact ((Blk.newAt rfl).below hb1 (by simp)).below hb2 (by omega)
 have hB : Below w.heap.size w W:=by
  rw [← hW]
  refine below_setRow (below_setRow (Below.alloc (Below.alloc ?_ (by omega) _) (by simp;omega) _) (by omega) _) (by omega) _
  exact Below.step (Below.step (Below.alloc (Below.refl _ _) (by omega) _) hb1 (by simp)) hb2 (by omega)
 have hWs : W.heap.size = w2.heap.size+1+1:=by rw [← hW];simp
 rw [hW]
 go_loopw [8] (fun v8 wr => ∃ i : Nat,i ≤ 64∧v8 = .int .i64 (i : Int)∧Blk wr w2.heap.size 61 (fv (bf a))∧Blk wr (w2.heap.size+1) 61 (fv (bf b)) ∧
   Blk wr (w2.heap.size+1+1) 61 (fv (bf (a * (b % 2 ^ i))))∧Blk wr w.heap.size 25 #[.int .u64 0,.int .u64 0]∧Below w.heap.size w wr) (fun v8 _ => 64 - (intOf v8).toNat)
 case atStart =>
  refine ⟨0,by omega,by go_num,q5.alloc _,q6.alloc _,?_,q4.alloc _,hB.alloc (by omega) _⟩
  rw [Nat.pow_zero,Nat.mod_one,Nat.mul_zero]
  refine Blk.congr_ (f:=fun _ => 0) ?_ (fun i _ => by unfold bf;rw [bt_zero];rfl)
  exact Blk.newAt hWs
 case round =>
  clear q4 q5 q6 hB hW hWs
  clear W
  obtain ⟨i,hi,rfl,q5,q6,q7,q4,hB⟩:=hrel
  by_cases hlt : i < 64
  ·have f1:=(q6.cell i).trans (fv_get _ (by omega))
   have l1:=q6.lt
   have hb1:=bt_le b i
   have hstep:=mul_step a b i
   have hplus : ∀ W,Hid (Calls Try.prog 49 #[.agg (fv (bf (a * (b % 2 ^ i)))),.agg (fv (bf a)),.int .i64 (i : Int)] W fun e w' => e = .returned (.agg (fv (bf (a * (b % 2 ^ i)+a * 2 ^ i))))∧Below W.heap.size W w') :=
    fun W => Lib.hid (plus_n (a * (b % 2 ^ i)) a i (by omega) W)
   rw [bf] at f1
   by_cases hbit : bt b i = 1
   ·rw [hbit] at f1 hstep
    rw [Nat.mul_one] at hstep
    rw [← hstep] at hplus
    have HS:=Lib.hid hstep
    clear hstep hb1 hbit
    go_wp2_with (first
     | (refine wpList_load_row rfl 61 _ rfl (w2.heap.size+1+1) rfl 61 _ (0,0) _ (q7) Try.underlying61 rfl (size_row _) ?_)
     | (refine wpList_load_row rfl 61 _ rfl (w2.heap.size) rfl 61 _ (0,0) _ (q5) Try.underlying61 rfl (size_row _) ?_)
     | (go_at_call 49;(with_reducible refine (hplus _).out.mono ?_);rintro e w3 ⟨rfl,hb3⟩)
     | (have hq : Blk w3 (w2.heap.size+1+1) 61 (fv (bf (a * (b % 2 ^ i)))):=q7.below hb3 q7.lt;refine wpList_store_row rfl 61 _ _ rfl (w2.heap.size+1+1) (fv (bf (a * (b % 2 ^ (i+1))))) rfl rfl 61 _ (hq) (size_row _) (by rw [fv_size,fv_size]) (fv_one _) ?_;clear hq))
    go_roundw
    case rel =>
     have hs:=hB.size
     have hl4:=q4.lt
     refine ⟨i+1,by omega,by go_num,(q5.below hb3 q5.lt).farRow (by omega) _,(q6.below hb3 q6.lt).farRow (by omega) _,(q7.below hb3 q7.lt).setRow _,(q4.below hb3 q4.lt).farRow (by omega) _,below_setRow (Below.step hB hb3 hs) (by omega) _⟩
    case measure => simp [intOf];omega
   ·have hbit0 : bt b i = 0:=by omega
    rw [hbit0] at f1 hstep
    have hstep2 : a * (b % 2 ^ (i+1)) = a * (b % 2 ^ i):=by rw [hstep];simp
    rw [← hstep2] at q7
    clear hstep2
    clear hstep hb1 hbit hplus
    go_wp2
    go_roundw
    case rel =>
     refine ⟨i+1,by omega,by go_num,q5,q6,q7,q4,hB⟩
    case measure => simp [intOf];omega
  ·obtain rfl : i = 64:=by omega
   rw [Nat.mod_eq_of_lt HBb.out] at q7
   have hof:=fun W => Lib.hid (of_n (a * b) W)
   have hlt2 : a * b < 2 ^ 128:=by
    have:=Nat.mul_lt_mul'' HA.out HBb.out
    omega
   rw [Nat.mod_eq_of_lt hlt2] at hof
   have z0 : wr.cell? ⟨w.heap.size,0,none⟩ = some (.int .u64 0):=q4.cell 0
   go_wp2_with (first
    | (refine wpList_load_row rfl 61 _ rfl (w2.heap.size+1+1) rfl 61 _ (0,0) _ (q7) Try.underlying61 rfl (size_row _) ?_)
    | (go_at_call 50;(with_reducible refine (hof _).out.mono ?_);rintro e w3 ⟨rfl,hb3⟩;replace q4:=q4.below hb3 q4.lt;have z0 : w3.cell? ⟨w.heap.size,0,none⟩ = some (.int .u64 0):=q4.cell 0;have z1 : w3.cell? ⟨w.heap.size,1,none⟩ = some (.int .u64 0):=q4.cell 1;have y0:=q4.frozen 0;have y1:=q4.frozen 1;have l4:=q4.lt))
   have hs:=hB.size
   refine bodyPost_ret (v:=wd (a * b : Nat)) (by simp [results,Try.results17,go_sem, *]) rfl ⟨rfl,?_⟩
   exact ((Below.step hB hb3 hs).setCell (by simp) _).setCell (by simp) _
end Go.Proofs.Ythlhmijgbjcloaa
