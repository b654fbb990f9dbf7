/- What the row of this claim reaches. No condition. -/
import Derived.Test.YtiamkgoajkfofaaDoorXSApp
set_option linter.unusedVariables false
set_option linter.unusedSimpArgs false
namespace Go.Proofs.YtiamkgoajkfofaaDoor.S
open Go.RowKit Go.Proofs.YtiamkgoajkfofaaDoorW.PrintWords Go.Proofs.YtiamkgoajkfofaaDoorW.PrintLast Go.Proofs.YtiamkgoajkfofaaDoorW.PrintMore
def lcp.T1 : Bool × List (List Nat × List Nat) := (true, [([], []), ([], []), ([1], [1]), ([2], [2]), ([0, 3], [0, 3]), ([], []), ([], []), ([6], [6]), ([7], [7]), ([5, 8, 4], [5, 8]), ([], []), ([], []), ([11], [11]), ([10, 12, 9], [10, 12]), ([0, 1, 2, 3, 4, 6, 7, 8, 11, 12], []), ([14, 0, 1, 2, 3, 4, 6, 7, 8, 11, 12], [14]), ([15, 4, 13, 0, 1, 2, 3, 4, 6, 7, 8, 11, 12], [4, 15]), ([0, 1, 2, 3, 4, 5, 6, 7, 8, 9, 11, 12, 14, 15, 16], []), ([17, 0, 1, 2, 3, 4, 5, 6, 7, 8, 9, 11, 12, 14, 15, 16], [17]), ([18, 9, 16, 0, 1, 2, 3, 4, 5, 6, 7, 8, 9, 11, 12, 14, 15, 16], [9, 18]), ([0, 1, 2, 3, 4, 5, 6, 7, 8, 9, 10, 11, 12, 13, 14, 15, 16, 17, 18, 19], []), ([20, 13, 19, 0, 1, 2, 3, 4, 5, 6, 7, 8, 9, 10, 11, 12, 13, 14, 15, 16, 17, 18, 19], [13, 20])])
def lcp.B1 : List Nat := [0, 0, 2, 6, 15, 0, 0, 64, 192, 511, 0, 0, 2048, 8191, 6623, 23007, 65535, 131071, 262143, 524287, 1048575, 2097151]
theorem lcp.tab1 : rtab .any (opsOf Tryd.f14 1) = lcp.T1 := by kernel_rfl
theorem lcp.bits1 : waitsOk lcp.T1.2 lcp.B1 = true := by kernel_rfl
set_option maxHeartbeats 8000000 in
set_option maxRecDepth 100000 in
theorem lcopied_any (s : S33) (p : Pt) (w : World) (hl : Lens s) (hi : In w s p) :
  Calls Tryd.prog 14 #[.agg (sv s p)] w fun e w' => ∃ p',e = .returned (.agg (sv s p'))∧InO w' w.heap.size s p'∧Below w.heap.size w w':=by
 obtain ⟨W,hW⟩ : ∃ W,(w.alloc (.cells (sv s p) 33)).alloc (.cells (sv z33 p0) 33) = W:=⟨_,rfl⟩
 have b : Blk W w.heap.size 33 (sv s p):=by rw [← hW];exact (Blk.new w 33 _).alloc _
 have b2 : Blk W (w.heap.size+1) 33 (sv z33 p0):=by rw [← hW];exact Blk.newAt (by simp)
 have hB : Below w.heap.size w W:=by rw [← hW];exact keep_below_alloc _ (keep_below_alloc _ (Below.refl _ _))
 have HI:=Lib.hid (hi.below hB)
 have HW:=Lib.hid hW
 have HWs:=HW
 clear hW hi
 go_enter Tryd.func14,Tryd.ntmps14
 go_upto_region 1 with fail
 rw [show (w.alloc (.cells (sv s p) 33)).alloc (.cells #[.int .i64 0,.int .u64 0,.bool false,.int .u64 0,.int .i64 0,.bool false,.int .u32 0,.int .i64 0,.int .i64 0,.int .i64 0,.int .i64 0,.int .i64 0,.int .i64 0,.int .i64 0,.int .i64 0,.int .i64 0,.int .i64 0,.slice none 0 0,.slice none 0 0,.slice none 0 0] 33) = W from HW.out]
 clear HW
 have k17:=sc17 b
 have k18:=sc18 b
 have k19:=sc19 b
 refine start_ (n:=22) (S:=(fun w' => Below W.heap.size W w')) (ds:=[16,19,21]) #[ff,ff,ff,ff,ff,ff,ff,ff,ff,ff,ff,ff,ff,ff,ff,ff,ff,ff,ff,ff,ff,ff] (by kernel_rfl) rfl rfl (Below.drew (Below.refl _ _)) (fun hHeld => ?_)
 refine with_tabW lcp.tab1 lcp.bits1 (fun HT_ HW_ => ?_)
 refine pure_ (i:=1) (N:=some 4) (v:=?_) (a':=?_) #[ff,tt,ff,ff,ff,ff,ff,ff,ff,ff,ff,ff,ff,ff,ff,ff,ff,ff,ff,ff,ff,ff] rfl rfl (any_of HT_.out (by kernel_rfl)) (fun _ _ _ h => h) (Or.inl ⟨by rfl,?_⟩) ?_ ?_
 rotate_left
 ·intro w'
  go_simp
  with_reducible rfl
 rotate_left
 ·simp only [Act.put,sA,sZ,sS,i64_w,i32_w]
  rfl
 refine pure_ (i:=2) (N:=some 5) (v:=?_) (a':=?_) #[ff,tt,tt,ff,ff,ff,ff,ff,ff,ff,ff,ff,ff,ff,ff,ff,ff,ff,ff,ff,ff,ff] rfl rfl (any_of HT_.out (by kernel_rfl)) (fun _ _ _ h => h) (Or.inl ⟨by rfl,?_⟩) ?_ ?_
 rotate_left
 ·intro w'
  go_simp
  with_reducible rfl
 rotate_left
 ·simp only [Act.put,sA,sZ,sS,i64_w,i32_w]
  rfl
 refine take_ (i:=3) (N:=some 6) (v:=?_) (a':=?_) #[ff,tt,tt,tt,ff,ff,ff,ff,ff,ff,ff,ff,ff,ff,ff,ff,ff,ff,ff,ff,ff,ff] rfl rfl (take_ofW HT_.out HW_.out (by kernel_rfl)) (fun _ _ _ h => h) (Or.inl ⟨by rfl,?_⟩) hHeld ?_ ?_
 rotate_left
 ·rintro w' s0
  have m17:=keep_cell s0 k17
  have m18:=keep_cell s0 k18
  have m19:=keep_cell s0 k19
  go_simp
  with_reducible rfl
 rotate_left
 ·simp only [Act.put,sA,sZ,sS,i64_w,i32_w]
  rfl
 refine pure_ (i:=6) (N:=some 9) (v:=?_) (a':=?_) #[ff,tt,tt,tt,ff,ff,tt,ff,ff,ff,ff,ff,ff,ff,ff,ff,ff,ff,ff,ff,ff,ff] rfl rfl (any_of HT_.out (by kernel_rfl)) (fun _ _ _ h => h) (Or.inl ⟨by rfl,?_⟩) ?_ ?_
 rotate_left
 ·intro w'
  go_simp
  with_reducible rfl
 rotate_left
 ·simp only [Act.put,sA,sZ,sS,i64_w,i32_w]
  rfl
 refine pure_ (i:=7) (N:=some 10) (v:=?_) (a':=?_) #[ff,tt,tt,tt,ff,ff,tt,tt,ff,ff,ff,ff,ff,ff,ff,ff,ff,ff,ff,ff,ff,ff] rfl rfl (any_of HT_.out (by kernel_rfl)) (fun _ _ _ h => h) (Or.inl ⟨by rfl,?_⟩) ?_ ?_
 rotate_left
 ·intro w'
  go_simp
  with_reducible rfl
 rotate_left
 ·simp only [Act.put,sA,sZ,sS,i64_w,i32_w]
  rfl
 refine take_ (i:=8) (N:=some 11) (v:=?_) (a':=?_) #[ff,tt,tt,tt,ff,ff,tt,tt,tt,ff,ff,ff,ff,ff,ff,ff,ff,ff,ff,ff,ff,ff] rfl rfl (take_ofW HT_.out HW_.out (by kernel_rfl)) (fun _ _ _ h => h) (Or.inl ⟨by rfl,?_⟩) hHeld ?_ ?_
 rotate_left
 ·rintro w' s0
  have m17:=keep_cell s0 k17
  have m18:=keep_cell s0 k18
  have m19:=keep_cell s0 k19
  go_simp
  with_reducible rfl
 rotate_left
 ·simp only [Act.put,sA,sZ,sS,i64_w,i32_w]
  rfl
 refine pure_ (i:=11) (N:=some 14) (v:=?_) (a':=?_) #[ff,tt,tt,tt,ff,ff,tt,tt,tt,ff,ff,tt,ff,ff,ff,ff,ff,ff,ff,ff,ff,ff] rfl rfl (any_of HT_.out (by kernel_rfl)) (fun _ _ _ h => h) (Or.inl ⟨by rfl,?_⟩) ?_ ?_
 rotate_left
 ·intro w'
  go_simp
  with_reducible rfl
 rotate_left
 ·simp only [Act.put,sA,sZ,sS,i64_w,i32_w]
  rfl
 refine take_ (i:=12) (N:=some 15) (v:=?_) (a':=?_) #[ff,tt,tt,tt,ff,ff,tt,tt,tt,ff,ff,tt,tt,ff,ff,ff,ff,ff,ff,ff,ff,ff] rfl rfl (take_ofW HT_.out HW_.out (by kernel_rfl)) (fun _ _ _ h => h) (Or.inl ⟨by rfl,?_⟩) hHeld ?_ ?_
 rotate_left
 ·rintro w' s0
  have m17:=keep_cell s0 k17
  have m18:=keep_cell s0 k18
  have m19:=keep_cell s0 k19
  go_simp
  with_reducible rfl
 rotate_left
 ·simp only [Act.put,sA,sZ,sS,i64_w,i32_w]
  rfl
 refine join_ (σ:=(Nat) × (Option Addr) × (Nat) × (Nat) × (Option Addr) × (Nat) × (Nat) × (Option Addr) × (Nat)) 6 #[tt,tt,tt,tt,tt,tt,tt,tt,tt,tt,tt,tt,tt,tt,tt,tt,ff,ff,ff,ff,ff,ff] (fun s_ => [(3,(.slice (some ⟨s_.1,0,none⟩) 0 0)),(7,(.slice s_.2.1 s.f6.f1.length s_.2.2.1)),(17,(.pointer (some ⟨w.heap.size,13,none⟩))),(18,(.pointer (some ⟨w.heap.size,17,none⟩))),(8,(.slice (some ⟨s_.2.2.2.1,0,none⟩) 0 0)),(12,(.slice s_.2.2.2.2.1 s.f6.f2.length s_.2.2.2.2.2.1)),(13,(.slice (some ⟨s_.2.2.2.2.2.2.1,0,none⟩) 0 0)),(16,(.slice s_.2.2.2.2.2.2.2.1 s.f7.length s_.2.2.2.2.2.2.2.2))]) (fun s_ w' => Below W.heap.size W w'∧(Blk w' s_.1 63 #[])∧(W.heap.size ≤ s_.1)∧(RS w' W.heap.size s_.2.1 s_.2.2.1 s.f6.f1)∧(Blk w' s_.2.2.2.1 23 #[])∧(W.heap.size ≤ s_.2.2.2.1)∧(RU w' W.heap.size s_.2.2.2.2.1 s_.2.2.2.2.2.1 s.f6.f2)∧(Blk w' s_.2.2.2.2.2.2.1 23 #[])∧(W.heap.size ≤ s_.2.2.2.2.2.2.1)∧(RU w' W.heap.size s_.2.2.2.2.2.2.2.1 s_.2.2.2.2.2.2.2.2 s.f7)∧s_.2.2.2.1 ≠ s_.2.2.2.2.2.2.1) ?_ (fun hJ_0_4_5_9_10_13 => ?_)
 rotate_left
 refine join_ (σ:=(Nat) × (Option Addr) × (Nat) × (Nat) × (Option Addr) × (Nat) × (Nat)) 7 #[tt,tt,tt,tt,tt,tt,tt,tt,tt,tt,tt,tt,tt,ff,tt,tt,ff,ff,ff,ff,ff,ff] (fun s_ => [(3,(.slice (some ⟨s_.1,0,none⟩) 0 0)),(7,(.slice s_.2.1 s.f6.f1.length s_.2.2.1)),(17,(.pointer (some ⟨w.heap.size,13,none⟩))),(18,(.pointer (some ⟨w.heap.size,17,none⟩))),(8,(.slice (some ⟨s_.2.2.2.1,0,none⟩) 0 0)),(12,(.slice s_.2.2.2.2.1 s.f6.f2.length s_.2.2.2.2.2.1)),(13,(.slice (some ⟨s_.2.2.2.2.2.2,0,none⟩) 0 0))]) (fun s_ w' => Below W.heap.size W w'∧(Blk w' s_.1 63 #[])∧(W.heap.size ≤ s_.1)∧(RS w' W.heap.size s_.2.1 s_.2.2.1 s.f6.f1)∧(Blk w' s_.2.2.2.1 23 #[])∧(W.heap.size ≤ s_.2.2.2.1)∧(RU w' W.heap.size s_.2.2.2.2.1 s_.2.2.2.2.2.1 s.f6.f2)∧(Blk w' s_.2.2.2.2.2.2 23 #[])∧(W.heap.size ≤ s_.2.2.2.2.2.2)∧s_.2.2.2.1 ≠ s_.2.2.2.2.2.2) ?_ (fun hJ_0_4_5_9_10 => ?_)
 rotate_left
 refine join_ (σ:=(Nat) × (Option Addr) × (Nat) × (Nat) × (Option Addr) × (Nat)) 8 #[tt,tt,tt,tt,tt,tt,tt,tt,tt,tt,ff,tt,tt,ff,tt,tt,ff,ff,ff,ff,ff,ff] (fun s_ => [(3,(.slice (some ⟨s_.1,0,none⟩) 0 0)),(7,(.slice s_.2.1 s.f6.f1.length s_.2.2.1)),(17,(.pointer (some ⟨w.heap.size,13,none⟩))),(18,(.pointer (some ⟨w.heap.size,17,none⟩))),(8,(.slice (some ⟨s_.2.2.2.1,0,none⟩) 0 0)),(12,(.slice s_.2.2.2.2.1 s.f6.f2.length s_.2.2.2.2.2))]) (fun s_ w' => Below W.heap.size W w'∧(Blk w' s_.1 63 #[])∧(W.heap.size ≤ s_.1)∧(RS w' W.heap.size s_.2.1 s_.2.2.1 s.f6.f1)∧(Blk w' s_.2.2.2.1 23 #[])∧(W.heap.size ≤ s_.2.2.2.1)∧(RU w' W.heap.size s_.2.2.2.2.1 s_.2.2.2.2.2 s.f6.f2)) ?_ (fun hJ_0_4_5_9 => ?_)
 rotate_left
 refine join_ (σ:=(Nat) × (Option Addr) × (Nat) × (Nat) × (Nat)) 8 #[tt,tt,tt,tt,tt,tt,tt,tt,tt,ff,tt,tt,tt,ff,tt,tt,ff,ff,ff,ff,ff,ff] (fun s_ => [(3,(.slice (some ⟨s_.1,0,none⟩) 0 0)),(7,(.slice s_.2.1 s.f6.f1.length s_.2.2.1)),(17,(.pointer (some ⟨w.heap.size,13,none⟩))),(18,(.pointer (some ⟨w.heap.size,17,none⟩))),(8,(.slice (some ⟨s_.2.2.2.1,0,none⟩) 0 0)),(13,(.slice (some ⟨s_.2.2.2.2,0,none⟩) 0 0))]) (fun s_ w' => Below W.heap.size W w'∧(Blk w' s_.1 63 #[])∧(W.heap.size ≤ s_.1)∧(RS w' W.heap.size s_.2.1 s_.2.2.1 s.f6.f1)∧(Blk w' s_.2.2.2.1 23 #[])∧(W.heap.size ≤ s_.2.2.2.1)∧(Blk w' s_.2.2.2.2 23 #[])∧(W.heap.size ≤ s_.2.2.2.2)∧s_.2.2.2.1 ≠ s_.2.2.2.2) ?_ (fun hJ_0_4_5_10 => ?_)
 rotate_left
 refine join_ (σ:=(Nat) × (Option Addr) × (Nat) × (Nat)) 9 #[tt,tt,tt,tt,tt,tt,tt,tt,tt,ff,ff,tt,tt,ff,tt,tt,ff,ff,ff,ff,ff,ff] (fun s_ => [(3,(.slice (some ⟨s_.1,0,none⟩) 0 0)),(7,(.slice s_.2.1 s.f6.f1.length s_.2.2.1)),(17,(.pointer (some ⟨w.heap.size,13,none⟩))),(18,(.pointer (some ⟨w.heap.size,17,none⟩))),(8,(.slice (some ⟨s_.2.2.2,0,none⟩) 0 0))]) (fun s_ w' => Below W.heap.size W w'∧(Blk w' s_.1 63 #[])∧(W.heap.size ≤ s_.1)∧(RS w' W.heap.size s_.2.1 s_.2.2.1 s.f6.f1)∧(Blk w' s_.2.2.2 23 #[])∧(W.heap.size ≤ s_.2.2.2)) ?_ (fun hJ_0_4_5 => ?_)
 rotate_left
 refine join_ (σ:=(Nat) × (Option Addr) × (Nat) × (Nat)) 9 #[tt,tt,tt,tt,tt,ff,tt,tt,tt,ff,tt,tt,tt,ff,tt,tt,ff,ff,ff,ff,ff,ff] (fun s_ => [(3,(.slice (some ⟨s_.1,0,none⟩) 0 0)),(7,(.slice s_.2.1 s.f6.f1.length s_.2.2.1)),(17,(.pointer (some ⟨w.heap.size,13,none⟩))),(18,(.pointer (some ⟨w.heap.size,17,none⟩))),(13,(.slice (some ⟨s_.2.2.2,0,none⟩) 0 0))]) (fun s_ w' => Below W.heap.size W w'∧(Blk w' s_.1 63 #[])∧(W.heap.size ≤ s_.1)∧(RS w' W.heap.size s_.2.1 s_.2.2.1 s.f6.f1)∧(Blk w' s_.2.2.2 23 #[])∧(W.heap.size ≤ s_.2.2.2)) ?_ (fun hJ_0_4_10 => ?_)
 rotate_left
 refine join_ (σ:=(Nat) × (Nat) × (Nat)) 11 #[tt,tt,tt,tt,ff,tt,tt,tt,tt,ff,tt,tt,tt,ff,ff,ff,ff,ff,ff,ff,ff,ff] (fun s_ => [(3,(.slice (some ⟨s_.1,0,none⟩) 0 0)),(8,(.slice (some ⟨s_.2.1,0,none⟩) 0 0)),(13,(.slice (some ⟨s_.2.2,0,none⟩) 0 0))]) (fun s_ w' => Below W.heap.size W w'∧(Blk w' s_.1 63 #[])∧(W.heap.size ≤ s_.1)∧(Blk w' s_.2.1 23 #[])∧(W.heap.size ≤ s_.2.1)∧(Blk w' s_.2.2 23 #[])∧(W.heap.size ≤ s_.2.2)∧s_.2.1 ≠ s_.2.2) ?_ (fun hJ_0_5_10 => ?_)
 rotate_left
 refine join_ (σ:=(Nat) × (Option Addr) × (Nat)) 10 #[tt,tt,tt,tt,tt,ff,tt,tt,tt,ff,ff,tt,tt,ff,tt,tt,ff,ff,ff,ff,ff,ff] (fun s_ => [(3,(.slice (some ⟨s_.1,0,none⟩) 0 0)),(7,(.slice s_.2.1 s.f6.f1.length s_.2.2)),(17,(.pointer (some ⟨w.heap.size,13,none⟩))),(18,(.pointer (some ⟨w.heap.size,17,none⟩)))]) (fun s_ w' => Below W.heap.size W w'∧(Blk w' s_.1 63 #[])∧(W.heap.size ≤ s_.1)∧(RS w' W.heap.size s_.2.1 s_.2.2 s.f6.f1)) ?_ (fun hJ_0_4 => ?_)
 rotate_left
 refine join_ (σ:=(Nat) × (Nat)) 12 #[tt,tt,tt,tt,ff,tt,tt,tt,tt,ff,ff,tt,tt,ff,ff,ff,ff,ff,ff,ff,ff,ff] (fun s_ => [(3,(.slice (some ⟨s_.1,0,none⟩) 0 0)),(8,(.slice (some ⟨s_.2,0,none⟩) 0 0))]) (fun s_ w' => Below W.heap.size W w'∧(Blk w' s_.1 63 #[])∧(W.heap.size ≤ s_.1)∧(Blk w' s_.2 23 #[])∧(W.heap.size ≤ s_.2)) ?_ (fun hJ_0_5 => ?_)
 rotate_left
 refine join_ (σ:=(Nat) × (Nat)) 12 #[tt,tt,tt,tt,ff,ff,tt,tt,tt,ff,tt,tt,tt,ff,ff,ff,ff,ff,ff,ff,ff,ff] (fun s_ => [(3,(.slice (some ⟨s_.1,0,none⟩) 0 0)),(13,(.slice (some ⟨s_.2,0,none⟩) 0 0))]) (fun s_ w' => Below W.heap.size W w'∧(Blk w' s_.1 63 #[])∧(W.heap.size ≤ s_.1)∧(Blk w' s_.2 23 #[])∧(W.heap.size ≤ s_.2)) ?_ (fun hJ_0_10 => ?_)
 rotate_left
 refine join_ (σ:=(Nat) × (Nat)) 12 #[ff,tt,tt,tt,ff,tt,tt,tt,tt,ff,tt,tt,tt,ff,ff,ff,ff,ff,ff,ff,ff,ff] (fun s_ => [(8,(.slice (some ⟨s_.1,0,none⟩) 0 0)),(13,(.slice (some ⟨s_.2,0,none⟩) 0 0))]) (fun s_ w' => Below W.heap.size W w'∧(Blk w' s_.1 23 #[])∧(W.heap.size ≤ s_.1)∧(Blk w' s_.2 23 #[])∧(W.heap.size ≤ s_.2)∧s_.1 ≠ s_.2) ?_ (fun hJ_5_10 => ?_)
 rotate_left
 refine join_ (σ:=(Nat)) 13 #[tt,tt,tt,tt,ff,ff,tt,tt,tt,ff,ff,tt,tt,ff,ff,ff,ff,ff,ff,ff,ff,ff] (fun s_ => [(3,(.slice (some ⟨s_,0,none⟩) 0 0))]) (fun s_ w' => Below W.heap.size W w'∧(Blk w' s_ 63 #[])∧(W.heap.size ≤ s_)) ?_ (fun hJ_0 => ?_)
 rotate_left
 refine join_ (σ:=(Nat)) 13 #[ff,tt,tt,tt,ff,tt,tt,tt,tt,ff,ff,tt,tt,ff,ff,ff,ff,ff,ff,ff,ff,ff] (fun s_ => [(8,(.slice (some ⟨s_,0,none⟩) 0 0))]) (fun s_ w' => Below W.heap.size W w'∧(Blk w' s_ 23 #[])∧(W.heap.size ≤ s_)) ?_ (fun hJ_5 => ?_)
 rotate_left
 refine join_ (σ:=(Nat)) 13 #[ff,tt,tt,tt,ff,ff,tt,tt,tt,ff,tt,tt,tt,ff,ff,ff,ff,ff,ff,ff,ff,ff] (fun s_ => [(13,(.slice (some ⟨s_,0,none⟩) 0 0))]) (fun s_ w' => Below W.heap.size W w'∧(Blk w' s_ 23 #[])∧(W.heap.size ≤ s_)) ?_ (fun hJ_10 => ?_)
 rotate_left
 ·have hB_:=hHeld
  refine three_ (i:=0) (j:=5) (k:=10) (Ni:=some 3) (Nj:=some 8) (Nk:=some 13) #[tt,tt,tt,tt,ff,ff,tt,tt,tt,ff,ff,tt,tt,ff,ff,ff,ff,ff,ff,ff,ff,ff] #[ff,tt,tt,tt,ff,tt,tt,tt,tt,ff,ff,tt,tt,ff,ff,ff,ff,ff,ff,ff,ff,ff] #[ff,tt,tt,tt,ff,ff,tt,tt,tt,ff,tt,tt,tt,ff,ff,ff,ff,ff,ff,ff,ff,ff] rfl rfl rfl rfl rfl rfl (three_of HT_.out (by kernel_rfl)) (by decide) (by decide) (by decide) (fun K hK => ?_) (fun K hK => ?_) (fun K hK => ?_)
  ·refine slice_step ?hg (N:=3) ?hd (cs:=#[]) (t:=63) (n:=0) ?hr ?_;(case hd => rfl);(case hg => rfl);(case hr => first|(go_simp;done)|(go_simp;rfl))
   intro g17 hg_ w1_ b_g17 hb_
   have l_g17 : W.heap.size ≤ g17:=by rw [hg_];exact hB_.size
   replace hB_:=keep_below hB_ hb_
   clear hb_ hg_
   refine hK.out _ _ hB_ (fun hHeld => ?_)
   clear hK K
   exact norm_ (by simp only [putAll,Act.put,sA,sZ,sS] <;> rfl) (hJ_0 (g17) _ ⟨hB_,b_g17,l_g17⟩)
  ·refine slice_step ?hg (N:=8) ?hd (cs:=#[]) (t:=23) (n:=0) ?hr ?_;(case hd => rfl);(case hg => rfl);(case hr => first|(go_simp;done)|(go_simp;rfl))
   intro g18 hg_ w1_ b_g18 hb_
   have l_g18 : W.heap.size ≤ g18:=by rw [hg_];exact hB_.size
   replace hB_:=keep_below hB_ hb_
   clear hb_ hg_
   refine hK.out _ _ hB_ (fun hHeld => ?_)
   clear hK K
   exact norm_ (by simp only [putAll,Act.put,sA,sZ,sS] <;> rfl) (hJ_5 (g18) _ ⟨hB_,b_g18,l_g18⟩)
  ·refine slice_step ?hg (N:=13) ?hd (cs:=#[]) (t:=23) (n:=0) ?hr ?_;(case hd => rfl);(case hg => rfl);(case hr => first|(go_simp;done)|(go_simp;rfl))
   intro g19 hg_ w1_ b_g19 hb_
   have l_g19 : W.heap.size ≤ g19:=by rw [hg_];exact hB_.size
   replace hB_:=keep_below hB_ hb_
   clear hb_ hg_
   refine hK.out _ _ hB_ (fun hHeld => ?_)
   clear hK K
   exact norm_ (by simp only [putAll,Act.put,sA,sZ,sS] <;> rfl) (hJ_10 (g19) _ ⟨hB_,b_g19,l_g19⟩)
 rotate_left
 ·rintro ⟨g17,A17,c17,g18,A18,c18,g19⟩ w_ ⟨hB_,b_g17,l_g17,h17,b_g18,l_g18,h18,b_g19,l_g19,n_g18_g19⟩
  have hHeld:=hB_
  refine norm_ (a':=?_) ?_ ?_
  rotate_left
  ·simp only [putAll,Act.put,sA,sZ,sS]
   rfl
  refine one_ (i:=13) (N:=some 16) #[tt,tt,tt,tt,tt,tt,tt,tt,tt,tt,tt,tt,tt,tt,tt,tt,ff,ff,ff,ff,ff,ff] rfl rfl (one_of HT_.out (by kernel_rfl)) (by decide) (fun K hK => ?_)
  ·refine app_step flat_u32 W.heap.size (by rfl) rfl _ _ 29 23 (.int .u32 0) 4 rfl Tryd.underlying29 (by kernel_rfl) rfl (by decide) (by decide) g19 p.A19 p.c19 s.f7 rfl rfl b_g19 l_g19 hB_.size (HI.out.below hB_).2.2.1 hl.2.2 ?_
   intro A19 c19 w1_ h19 hb_
   replace b_g17:=b_g17.keep hb_
   replace h17:=h17.below hb_
   replace b_g18:=b_g18.keep hb_
   replace h18:=h18.below hb_
   replace b_g19:=b_g19.keep hb_
   replace hB_:=keep_below hB_ hb_
   clear hb_
   refine hK.out _ _ hB_ (fun hHeld => ?_)
   clear hK K
   exact norm_ (by simp only [putAll,Act.put,sA,sZ,sS] <;> rfl) (hJ_0_4_5_9_10_13 (g17,A17,c17,g18,A18,c18,g19,A19,c19) _ ⟨hB_,b_g17,l_g17,h17,b_g18,l_g18,h18,b_g19,l_g19,h19,n_g18_g19⟩)
 ·rintro ⟨g17,A17,c17,g18,A18,c18⟩ w_ ⟨hB_,b_g17,l_g17,h17,b_g18,l_g18,h18⟩
  have hHeld:=hB_
  refine norm_ (a':=?_) ?_ ?_
  rotate_left
  ·simp only [putAll,Act.put,sA,sZ,sS]
   rfl
  refine one_ (i:=10) (N:=some 13) #[tt,tt,tt,tt,tt,tt,tt,tt,tt,tt,tt,tt,tt,ff,tt,tt,ff,ff,ff,ff,ff,ff] rfl rfl (one_of HT_.out (by kernel_rfl)) (by decide) (fun K hK => ?_)
  ·refine slice_step ?hg (N:=13) ?hd (cs:=#[]) (t:=23) (n:=0) ?hr ?_;(case hd => rfl);(case hg => rfl);(case hr => first|(go_simp;done)|(go_simp;rfl))
   intro g19 hg_ w1_ b_g19 hb_
   have l_g19 : W.heap.size ≤ g19:=by rw [hg_];exact hB_.size
   have n_g18_g19 : g18 ≠ g19:=by have h_ : g18 < w_.heap.size:=b_g18.lt;omega
   replace b_g17:=b_g17.keep hb_
   replace h17:=h17.below hb_
   replace b_g18:=b_g18.keep hb_
   replace h18:=h18.below hb_
   replace hB_:=keep_below hB_ hb_
   clear hb_ hg_
   refine hK.out _ _ hB_ (fun hHeld => ?_)
   clear hK K
   exact norm_ (by simp only [putAll,Act.put,sA,sZ,sS] <;> rfl) (hJ_0_4_5_9_10 (g17,A17,c17,g18,A18,c18,g19) _ ⟨hB_,b_g17,l_g17,h17,b_g18,l_g18,h18,b_g19,l_g19,n_g18_g19⟩)
 ·rintro ⟨g17,A17,c17,g18,g19⟩ w_ ⟨hB_,b_g17,l_g17,h17,b_g18,l_g18,b_g19,l_g19,n_g18_g19⟩
  have hHeld:=hB_
  refine norm_ (a':=?_) ?_ ?_
  rotate_left
  ·simp only [putAll,Act.put,sA,sZ,sS]
   rfl
  refine one_ (i:=9) (N:=some 12) #[tt,tt,tt,tt,tt,tt,tt,tt,tt,tt,tt,tt,tt,ff,tt,tt,ff,ff,ff,ff,ff,ff] rfl rfl (one_of HT_.out (by kernel_rfl)) (by decide) (fun K hK => ?_)
  ·refine app_step flat_u32 W.heap.size (by rfl) rfl _ _ 29 23 (.int .u32 0) 4 rfl Tryd.underlying29 (by kernel_rfl) rfl (by decide) (by decide) g18 p.A18 p.c18 s.f6.f2 rfl rfl b_g18 l_g18 hB_.size (HI.out.below hB_).2.1.1 hl.2.1 ?_
   intro A18 c18 w1_ h18 hb_
   replace b_g17:=b_g17.keep hb_
   replace h17:=h17.below hb_
   replace b_g18:=b_g18.keep hb_
   replace b_g19:=b_g19.keep hb_
   replace hB_:=keep_below hB_ hb_
   clear hb_
   refine hK.out _ _ hB_ (fun hHeld => ?_)
   clear hK K
   exact norm_ (by simp only [putAll,Act.put,sA,sZ,sS] <;> rfl) (hJ_0_4_5_9_10 (g17,A17,c17,g18,A18,c18,g19) _ ⟨hB_,b_g17,l_g17,h17,b_g18,l_g18,h18,b_g19,l_g19,n_g18_g19⟩)
 ·rintro ⟨g17,A17,c17,g18⟩ w_ ⟨hB_,b_g17,l_g17,h17,b_g18,l_g18⟩
  have hHeld:=hB_
  refine norm_ (a':=?_) ?_ ?_
  rotate_left
  ·simp only [putAll,Act.put,sA,sZ,sS]
   rfl
  refine two_ (i:=9) (j:=10) (Ni:=some 12) (Nj:=some 13) #[tt,tt,tt,tt,tt,tt,tt,tt,tt,tt,ff,tt,tt,ff,tt,tt,ff,ff,ff,ff,ff,ff] #[tt,tt,tt,tt,tt,tt,tt,tt,tt,ff,tt,tt,tt,ff,tt,tt,ff,ff,ff,ff,ff,ff] rfl rfl rfl rfl (two_of HT_.out (by kernel_rfl)) (by decide) (by decide) (fun K hK => ?_) (fun K hK => ?_)
  ·refine app_step flat_u32 W.heap.size (by rfl) rfl _ _ 29 23 (.int .u32 0) 4 rfl Tryd.underlying29 (by kernel_rfl) rfl (by decide) (by decide) g18 p.A18 p.c18 s.f6.f2 rfl rfl b_g18 l_g18 hB_.size (HI.out.below hB_).2.1.1 hl.2.1 ?_
   intro A18 c18 w1_ h18 hb_
   replace b_g17:=b_g17.keep hb_
   replace h17:=h17.below hb_
   replace b_g18:=b_g18.keep hb_
   replace hB_:=keep_below hB_ hb_
   clear hb_
   refine hK.out _ _ hB_ (fun hHeld => ?_)
   clear hK K
   exact norm_ (by simp only [putAll,Act.put,sA,sZ,sS] <;> rfl) (hJ_0_4_5_9 (g17,A17,c17,g18,A18,c18) _ ⟨hB_,b_g17,l_g17,h17,b_g18,l_g18,h18⟩)
  ·refine slice_step ?hg (N:=13) ?hd (cs:=#[]) (t:=23) (n:=0) ?hr ?_;(case hd => rfl);(case hg => rfl);(case hr => first|(go_simp;done)|(go_simp;rfl))
   intro g19 hg_ w1_ b_g19 hb_
   have l_g19 : W.heap.size ≤ g19:=by rw [hg_];exact hB_.size
   have n_g18_g19 : g18 ≠ g19:=by have h_ : g18 < w_.heap.size:=b_g18.lt;omega
   replace b_g17:=b_g17.keep hb_
   replace h17:=h17.below hb_
   replace b_g18:=b_g18.keep hb_
   replace hB_:=keep_below hB_ hb_
   clear hb_ hg_
   refine hK.out _ _ hB_ (fun hHeld => ?_)
   clear hK K
   exact norm_ (by simp only [putAll,Act.put,sA,sZ,sS] <;> rfl) (hJ_0_4_5_10 (g17,A17,c17,g18,g19) _ ⟨hB_,b_g17,l_g17,h17,b_g18,l_g18,b_g19,l_g19,n_g18_g19⟩)
 ·rintro ⟨g17,A17,c17,g19⟩ w_ ⟨hB_,b_g17,l_g17,h17,b_g19,l_g19⟩
  have hHeld:=hB_
  refine norm_ (a':=?_) ?_ ?_
  rotate_left
  ·simp only [putAll,Act.put,sA,sZ,sS]
   rfl
  refine one_ (i:=5) (N:=some 8) #[tt,tt,tt,tt,tt,tt,tt,tt,tt,ff,tt,tt,tt,ff,tt,tt,ff,ff,ff,ff,ff,ff] rfl rfl (one_of HT_.out (by kernel_rfl)) (by decide) (fun K hK => ?_)
  ·refine slice_step ?hg (N:=8) ?hd (cs:=#[]) (t:=23) (n:=0) ?hr ?_;(case hd => rfl);(case hg => rfl);(case hr => first|(go_simp;done)|(go_simp;rfl))
   intro g18 hg_ w1_ b_g18 hb_
   have l_g18 : W.heap.size ≤ g18:=by rw [hg_];exact hB_.size
   have n_g18_g19 : g18 ≠ g19:=by have h_ : g19 < w_.heap.size:=b_g19.lt;omega
   replace b_g17:=b_g17.keep hb_
   replace h17:=h17.below hb_
   replace b_g19:=b_g19.keep hb_
   replace hB_:=keep_below hB_ hb_
   clear hb_ hg_
   refine hK.out _ _ hB_ (fun hHeld => ?_)
   clear hK K
   exact norm_ (by simp only [putAll,Act.put,sA,sZ,sS] <;> rfl) (hJ_0_4_5_10 (g17,A17,c17,g18,g19) _ ⟨hB_,b_g17,l_g17,h17,b_g18,l_g18,b_g19,l_g19,n_g18_g19⟩)
 ·rintro ⟨g17,g18,g19⟩ w_ ⟨hB_,b_g17,l_g17,b_g18,l_g18,b_g19,l_g19,n_g18_g19⟩
  have hHeld:=hB_
  refine norm_ (a':=?_) ?_ ?_
  rotate_left
  ·simp only [putAll,Act.put,sA,sZ,sS]
   rfl
  refine one_ (i:=4) (N:=some 7) #[tt,tt,tt,tt,tt,tt,tt,tt,tt,ff,tt,tt,tt,ff,ff,ff,ff,ff,ff,ff,ff,ff] rfl rfl (one_of HT_.out (by kernel_rfl)) (by decide) (fun K hK => ?_)
  ·refine app_step flat_63 W.heap.size (by rfl) rfl _ _ 28 63 (.agg #[.int .u32 0,.int .u64 0]) 16 rfl Tryd.underlying28 (by kernel_rfl) rfl (by decide) (by decide) g17 p.A17 p.c17 s.f6.f1 rfl rfl b_g17 l_g17 hB_.size (HI.out.below hB_).1.1 hl.1 ?_
   intro A17 c17 w1_ h17 hb_
   replace b_g17:=b_g17.keep hb_
   replace b_g18:=b_g18.keep hb_
   replace b_g19:=b_g19.keep hb_
   replace hB_:=keep_below hB_ hb_
   clear hb_
   refine hK.out _ _ hB_ (fun hHeld => ?_)
   clear hK K
   refine norm_ (a':=?_) ?_ ?_
   rotate_left
   ·show Act.put _ (some 7) _ = _
    simp only [Act.put,sA,sZ,sS]
    rfl
   refine pure_ (i:=14) (N:=some 17) (v:=?_) (a':=?_) #[tt,tt,tt,tt,tt,tt,tt,tt,tt,ff,tt,tt,tt,ff,tt,ff,ff,ff,ff,ff,ff,ff] rfl rfl (any_of HT_.out (by kernel_rfl)) (fun _ _ _ h => h) (Or.inl ⟨by rfl,?_⟩) ?_ ?_
   rotate_left
   ·intro w'
    go_simp
    with_reducible rfl
   rotate_left
   ·simp only [Act.put,sA,sZ,sS,i64_w,i32_w]
    rfl
   refine pure_ (i:=15) (N:=some 18) (v:=?_) (a':=?_) #[tt,tt,tt,tt,tt,tt,tt,tt,tt,ff,tt,tt,tt,ff,tt,tt,ff,ff,ff,ff,ff,ff] rfl rfl (any_of HT_.out (by kernel_rfl)) (fun _ _ _ h => h) (Or.inl ⟨by rfl,?_⟩) ?_ ?_
   rotate_left
   ·intro w'
    go_simp
    with_reducible rfl
   rotate_left
   ·simp only [Act.put,sA,sZ,sS,i64_w,i32_w]
    rfl
   exact norm_ (by simp only [putAll,Act.put,sA,sZ,sS] <;> rfl) (hJ_0_4_5_10 (g17,A17,c17,g18,g19) _ ⟨hB_,b_g17,l_g17,h17,b_g18,l_g18,b_g19,l_g19,n_g18_g19⟩)
 ·rintro ⟨g17,A17,c17⟩ w_ ⟨hB_,b_g17,l_g17,h17⟩
  have hHeld:=hB_
  refine norm_ (a':=?_) ?_ ?_
  rotate_left
  ·simp only [putAll,Act.put,sA,sZ,sS]
   rfl
  refine two_ (i:=5) (j:=10) (Ni:=some 8) (Nj:=some 13) #[tt,tt,tt,tt,tt,tt,tt,tt,tt,ff,ff,tt,tt,ff,tt,tt,ff,ff,ff,ff,ff,ff] #[tt,tt,tt,tt,tt,ff,tt,tt,tt,ff,tt,tt,tt,ff,tt,tt,ff,ff,ff,ff,ff,ff] rfl rfl rfl rfl (two_of HT_.out (by kernel_rfl)) (by decide) (by decide) (fun K hK => ?_) (fun K hK => ?_)
  ·refine slice_step ?hg (N:=8) ?hd (cs:=#[]) (t:=23) (n:=0) ?hr ?_;(case hd => rfl);(case hg => rfl);(case hr => first|(go_simp;done)|(go_simp;rfl))
   intro g18 hg_ w1_ b_g18 hb_
   have l_g18 : W.heap.size ≤ g18:=by rw [hg_];exact hB_.size
   replace b_g17:=b_g17.keep hb_
   replace h17:=h17.below hb_
   replace hB_:=keep_below hB_ hb_
   clear hb_ hg_
   refine hK.out _ _ hB_ (fun hHeld => ?_)
   clear hK K
   exact norm_ (by simp only [putAll,Act.put,sA,sZ,sS] <;> rfl) (hJ_0_4_5 (g17,A17,c17,g18) _ ⟨hB_,b_g17,l_g17,h17,b_g18,l_g18⟩)
  ·refine slice_step ?hg (N:=13) ?hd (cs:=#[]) (t:=23) (n:=0) ?hr ?_;(case hd => rfl);(case hg => rfl);(case hr => first|(go_simp;done)|(go_simp;rfl))
   intro g19 hg_ w1_ b_g19 hb_
   have l_g19 : W.heap.size ≤ g19:=by rw [hg_];exact hB_.size
   replace b_g17:=b_g17.keep hb_
   replace h17:=h17.below hb_
   replace hB_:=keep_below hB_ hb_
   clear hb_ hg_
   refine hK.out _ _ hB_ (fun hHeld => ?_)
   clear hK K
   exact norm_ (by simp only [putAll,Act.put,sA,sZ,sS] <;> rfl) (hJ_0_4_10 (g17,A17,c17,g19) _ ⟨hB_,b_g17,l_g17,h17,b_g19,l_g19⟩)
 ·rintro ⟨g17,g18⟩ w_ ⟨hB_,b_g17,l_g17,b_g18,l_g18⟩
  have hHeld:=hB_
  refine norm_ (a':=?_) ?_ ?_
  rotate_left
  ·simp only [putAll,Act.put,sA,sZ,sS]
   rfl
  refine two_ (i:=4) (j:=10) (Ni:=some 7) (Nj:=some 13) #[tt,tt,tt,tt,tt,tt,tt,tt,tt,ff,ff,tt,tt,ff,ff,ff,ff,ff,ff,ff,ff,ff] #[tt,tt,tt,tt,ff,tt,tt,tt,tt,ff,tt,tt,tt,ff,ff,ff,ff,ff,ff,ff,ff,ff] rfl rfl rfl rfl (two_of HT_.out (by kernel_rfl)) (by decide) (by decide) (fun K hK => ?_) (fun K hK => ?_)
  ·refine app_step flat_63 W.heap.size (by rfl) rfl _ _ 28 63 (.agg #[.int .u32 0,.int .u64 0]) 16 rfl Tryd.underlying28 (by kernel_rfl) rfl (by decide) (by decide) g17 p.A17 p.c17 s.f6.f1 rfl rfl b_g17 l_g17 hB_.size (HI.out.below hB_).1.1 hl.1 ?_
   intro A17 c17 w1_ h17 hb_
   replace b_g17:=b_g17.keep hb_
   replace b_g18:=b_g18.keep hb_
   replace hB_:=keep_below hB_ hb_
   clear hb_
   refine hK.out _ _ hB_ (fun hHeld => ?_)
   clear hK K
   refine norm_ (a':=?_) ?_ ?_
   rotate_left
   ·show Act.put _ (some 7) _ = _
    simp only [Act.put,sA,sZ,sS]
    rfl
   refine pure_ (i:=14) (N:=some 17) (v:=?_) (a':=?_) #[tt,tt,tt,tt,tt,tt,tt,tt,tt,ff,ff,tt,tt,ff,tt,ff,ff,ff,ff,ff,ff,ff] rfl rfl (any_of HT_.out (by kernel_rfl)) (fun _ _ _ h => h) (Or.inl ⟨by rfl,?_⟩) ?_ ?_
   rotate_left
   ·intro w'
    go_simp
    with_reducible rfl
   rotate_left
   ·simp only [Act.put,sA,sZ,sS,i64_w,i32_w]
    rfl
   refine pure_ (i:=15) (N:=some 18) (v:=?_) (a':=?_) #[tt,tt,tt,tt,tt,tt,tt,tt,tt,ff,ff,tt,tt,ff,tt,tt,ff,ff,ff,ff,ff,ff] rfl rfl (any_of HT_.out (by kernel_rfl)) (fun _ _ _ h => h) (Or.inl ⟨by rfl,?_⟩) ?_ ?_
   rotate_left
   ·intro w'
    go_simp
    with_reducible rfl
   rotate_left
   ·simp only [Act.put,sA,sZ,sS,i64_w,i32_w]
    rfl
   exact norm_ (by simp only [putAll,Act.put,sA,sZ,sS] <;> rfl) (hJ_0_4_5 (g17,A17,c17,g18) _ ⟨hB_,b_g17,l_g17,h17,b_g18,l_g18⟩)
  ·refine slice_step ?hg (N:=13) ?hd (cs:=#[]) (t:=23) (n:=0) ?hr ?_;(case hd => rfl);(case hg => rfl);(case hr => first|(go_simp;done)|(go_simp;rfl))
   intro g19 hg_ w1_ b_g19 hb_
   have l_g19 : W.heap.size ≤ g19:=by rw [hg_];exact hB_.size
   have n_g18_g19 : g18 ≠ g19:=by have h_ : g18 < w_.heap.size:=b_g18.lt;omega
   replace b_g17:=b_g17.keep hb_
   replace b_g18:=b_g18.keep hb_
   replace hB_:=keep_below hB_ hb_
   clear hb_ hg_
   refine hK.out _ _ hB_ (fun hHeld => ?_)
   clear hK K
   exact norm_ (by simp only [putAll,Act.put,sA,sZ,sS] <;> rfl) (hJ_0_5_10 (g17,g18,g19) _ ⟨hB_,b_g17,l_g17,b_g18,l_g18,b_g19,l_g19,n_g18_g19⟩)
 ·rintro ⟨g17,g19⟩ w_ ⟨hB_,b_g17,l_g17,b_g19,l_g19⟩
  have hHeld:=hB_
  refine norm_ (a':=?_) ?_ ?_
  rotate_left
  ·simp only [putAll,Act.put,sA,sZ,sS]
   rfl
  refine two_ (i:=4) (j:=5) (Ni:=some 7) (Nj:=some 8) #[tt,tt,tt,tt,tt,ff,tt,tt,tt,ff,tt,tt,tt,ff,ff,ff,ff,ff,ff,ff,ff,ff] #[tt,tt,tt,tt,ff,tt,tt,tt,tt,ff,tt,tt,tt,ff,ff,ff,ff,ff,ff,ff,ff,ff] rfl rfl rfl rfl (two_of HT_.out (by kernel_rfl)) (by decide) (by decide) (fun K hK => ?_) (fun K hK => ?_)
  ·refine app_step flat_63 W.heap.size (by rfl) rfl _ _ 28 63 (.agg #[.int .u32 0,.int .u64 0]) 16 rfl Tryd.underlying28 (by kernel_rfl) rfl (by decide) (by decide) g17 p.A17 p.c17 s.f6.f1 rfl rfl b_g17 l_g17 hB_.size (HI.out.below hB_).1.1 hl.1 ?_
   intro A17 c17 w1_ h17 hb_
   replace b_g17:=b_g17.keep hb_
   replace b_g19:=b_g19.keep hb_
   replace hB_:=keep_below hB_ hb_
   clear hb_
   refine hK.out _ _ hB_ (fun hHeld => ?_)
   clear hK K
   refine norm_ (a':=?_) ?_ ?_
   rotate_left
   ·show Act.put _ (some 7) _ = _
    simp only [Act.put,sA,sZ,sS]
    rfl
   refine pure_ (i:=14) (N:=some 17) (v:=?_) (a':=?_) #[tt,tt,tt,tt,tt,ff,tt,tt,tt,ff,tt,tt,tt,ff,tt,ff,ff,ff,ff,ff,ff,ff] rfl rfl (any_of HT_.out (by kernel_rfl)) (fun _ _ _ h => h) (Or.inl ⟨by rfl,?_⟩) ?_ ?_
   rotate_left
   ·intro w'
    go_simp
    with_reducible rfl
   rotate_left
   ·simp only [Act.put,sA,sZ,sS,i64_w,i32_w]
    rfl
   refine pure_ (i:=15) (N:=some 18) (v:=?_) (a':=?_) #[tt,tt,tt,tt,tt,ff,tt,tt,tt,ff,tt,tt,tt,ff,tt,tt,ff,ff,ff,ff,ff,ff] rfl rfl (any_of HT_.out (by kernel_rfl)) (fun _ _ _ h => h) (Or.inl ⟨by rfl,?_⟩) ?_ ?_
   rotate_left
   ·intro w'
    go_simp
    with_reducible rfl
   rotate_left
   ·simp only [Act.put,sA,sZ,sS,i64_w,i32_w]
    rfl
   exact norm_ (by simp only [putAll,Act.put,sA,sZ,sS] <;> rfl) (hJ_0_4_10 (g17,A17,c17,g19) _ ⟨hB_,b_g17,l_g17,h17,b_g19,l_g19⟩)
  ·refine slice_step ?hg (N:=8) ?hd (cs:=#[]) (t:=23) (n:=0) ?hr ?_;(case hd => rfl);(case hg => rfl);(case hr => first|(go_simp;done)|(go_simp;rfl))
   intro g18 hg_ w1_ b_g18 hb_
   have l_g18 : W.heap.size ≤ g18:=by rw [hg_];exact hB_.size
   have n_g18_g19 : g18 ≠ g19:=by have h_ : g19 < w_.heap.size:=b_g19.lt;omega
   replace b_g17:=b_g17.keep hb_
   replace b_g19:=b_g19.keep hb_
   replace hB_:=keep_below hB_ hb_
   clear hb_ hg_
   refine hK.out _ _ hB_ (fun hHeld => ?_)
   clear hK K
   exact norm_ (by simp only [putAll,Act.put,sA,sZ,sS] <;> rfl) (hJ_0_5_10 (g17,g18,g19) _ ⟨hB_,b_g17,l_g17,b_g18,l_g18,b_g19,l_g19,n_g18_g19⟩)
 ·rintro ⟨g18,g19⟩ w_ ⟨hB_,b_g18,l_g18,b_g19,l_g19,n_g18_g19⟩
  have hHeld:=hB_
  refine norm_ (a':=?_) ?_ ?_
  rotate_left
  ·simp only [putAll,Act.put,sA,sZ,sS]
   rfl
  refine one_ (i:=0) (N:=some 3) #[tt,tt,tt,tt,ff,tt,tt,tt,tt,ff,tt,tt,tt,ff,ff,ff,ff,ff,ff,ff,ff,ff] rfl rfl (one_of HT_.out (by kernel_rfl)) (by decide) (fun K hK => ?_)
  ·refine slice_step ?hg (N:=3) ?hd (cs:=#[]) (t:=63) (n:=0) ?hr ?_;(case hd => rfl);(case hg => rfl);(case hr => first|(go_simp;done)|(go_simp;rfl))
   intro g17 hg_ w1_ b_g17 hb_
   have l_g17 : W.heap.size ≤ g17:=by rw [hg_];exact hB_.size
   replace b_g18:=b_g18.keep hb_
   replace b_g19:=b_g19.keep hb_
   replace hB_:=keep_below hB_ hb_
   clear hb_ hg_
   refine hK.out _ _ hB_ (fun hHeld => ?_)
   clear hK K
   exact norm_ (by simp only [putAll,Act.put,sA,sZ,sS] <;> rfl) (hJ_0_5_10 (g17,g18,g19) _ ⟨hB_,b_g17,l_g17,b_g18,l_g18,b_g19,l_g19,n_g18_g19⟩)
 ·rintro g17 w_ ⟨hB_,b_g17,l_g17⟩
  have hHeld:=hB_
  refine norm_ (a':=?_) ?_ ?_
  rotate_left
  ·simp only [putAll,Act.put,sA,sZ,sS]
   rfl
  refine three_ (i:=4) (j:=5) (k:=10) (Ni:=some 7) (Nj:=some 8) (Nk:=some 13) #[tt,tt,tt,tt,tt,ff,tt,tt,tt,ff,ff,tt,tt,ff,ff,ff,ff,ff,ff,ff,ff,ff] #[tt,tt,tt,tt,ff,tt,tt,tt,tt,ff,ff,tt,tt,ff,ff,ff,ff,ff,ff,ff,ff,ff] #[tt,tt,tt,tt,ff,ff,tt,tt,tt,ff,tt,tt,tt,ff,ff,ff,ff,ff,ff,ff,ff,ff] rfl rfl rfl rfl rfl rfl (three_of HT_.out (by kernel_rfl)) (by decide) (by decide) (by decide) (fun K hK => ?_) (fun K hK => ?_) (fun K hK => ?_)
  ·refine app_step flat_63 W.heap.size (by rfl) rfl _ _ 28 63 (.agg #[.int .u32 0,.int .u64 0]) 16 rfl Tryd.underlying28 (by kernel_rfl) rfl (by decide) (by decide) g17 p.A17 p.c17 s.f6.f1 rfl rfl b_g17 l_g17 hB_.size (HI.out.below hB_).1.1 hl.1 ?_
   intro A17 c17 w1_ h17 hb_
   replace b_g17:=b_g17.keep hb_
   replace hB_:=keep_below hB_ hb_
   clear hb_
   refine hK.out _ _ hB_ (fun hHeld => ?_)
   clear hK K
   refine norm_ (a':=?_) ?_ ?_
   rotate_left
   ·show Act.put _ (some 7) _ = _
    simp only [Act.put,sA,sZ,sS]
    rfl
   refine pure_ (i:=14) (N:=some 17) (v:=?_) (a':=?_) #[tt,tt,tt,tt,tt,ff,tt,tt,tt,ff,ff,tt,tt,ff,tt,ff,ff,ff,ff,ff,ff,ff] rfl rfl (any_of HT_.out (by kernel_rfl)) (fun _ _ _ h => h) (Or.inl ⟨by rfl,?_⟩) ?_ ?_
   rotate_left
   ·intro w'
    go_simp
    with_reducible rfl
   rotate_left
   ·simp only [Act.put,sA,sZ,sS,i64_w,i32_w]
    rfl
   refine pure_ (i:=15) (N:=some 18) (v:=?_) (a':=?_) #[tt,tt,tt,tt,tt,ff,tt,tt,tt,ff,ff,tt,tt,ff,tt,tt,ff,ff,ff,ff,ff,ff] rfl rfl (any_of HT_.out (by kernel_rfl)) (fun _ _ _ h => h) (Or.inl ⟨by rfl,?_⟩) ?_ ?_
   rotate_left
   ·intro w'
    go_simp
    with_reducible rfl
   rotate_left
   ·simp only [Act.put,sA,sZ,sS,i64_w,i32_w]
    rfl
   exact norm_ (by simp only [putAll,Act.put,sA,sZ,sS] <;> rfl) (hJ_0_4 (g17,A17,c17) _ ⟨hB_,b_g17,l_g17,h17⟩)
  ·refine slice_step ?hg (N:=8) ?hd (cs:=#[]) (t:=23) (n:=0) ?hr ?_;(case hd => rfl);(case hg => rfl);(case hr => first|(go_simp;done)|(go_simp;rfl))
   intro g18 hg_ w1_ b_g18 hb_
   have l_g18 : W.heap.size ≤ g18:=by rw [hg_];exact hB_.size
   replace b_g17:=b_g17.keep hb_
   replace hB_:=keep_below hB_ hb_
   clear hb_ hg_
   refine hK.out _ _ hB_ (fun hHeld => ?_)
   clear hK K
   exact norm_ (by simp only [putAll,Act.put,sA,sZ,sS] <;> rfl) (hJ_0_5 (g17,g18) _ ⟨hB_,b_g17,l_g17,b_g18,l_g18⟩)
  ·refine slice_step ?hg (N:=13) ?hd (cs:=#[]) (t:=23) (n:=0) ?hr ?_;(case hd => rfl);(case hg => rfl);(case hr => first|(go_simp;done)|(go_simp;rfl))
   intro g19 hg_ w1_ b_g19 hb_
   have l_g19 : W.heap.size ≤ g19:=by rw [hg_];exact hB_.size
   replace b_g17:=b_g17.keep hb_
   replace hB_:=keep_below hB_ hb_
   clear hb_ hg_
   refine hK.out _ _ hB_ (fun hHeld => ?_)
   clear hK K
   exact norm_ (by simp only [putAll,Act.put,sA,sZ,sS] <;> rfl) (hJ_0_10 (g17,g19) _ ⟨hB_,b_g17,l_g17,b_g19,l_g19⟩)
 ·rintro g18 w_ ⟨hB_,b_g18,l_g18⟩
  have hHeld:=hB_
  refine norm_ (a':=?_) ?_ ?_
  rotate_left
  ·simp only [putAll,Act.put,sA,sZ,sS]
   rfl
  refine two_ (i:=0) (j:=10) (Ni:=some 3) (Nj:=some 13) #[tt,tt,tt,tt,ff,tt,tt,tt,tt,ff,ff,tt,tt,ff,ff,ff,ff,ff,ff,ff,ff,ff] #[ff,tt,tt,tt,ff,tt,tt,tt,tt,ff,tt,tt,tt,ff,ff,ff,ff,ff,ff,ff,ff,ff] rfl rfl rfl rfl (two_of HT_.out (by kernel_rfl)) (by decide) (by decide) (fun K hK => ?_) (fun K hK => ?_)
  ·refine slice_step ?hg (N:=3) ?hd (cs:=#[]) (t:=63) (n:=0) ?hr ?_;(case hd => rfl);(case hg => rfl);(case hr => first|(go_simp;done)|(go_simp;rfl))
   intro g17 hg_ w1_ b_g17 hb_
   have l_g17 : W.heap.size ≤ g17:=by rw [hg_];exact hB_.size
   replace b_g18:=b_g18.keep hb_
   replace hB_:=keep_below hB_ hb_
   clear hb_ hg_
   refine hK.out _ _ hB_ (fun hHeld => ?_)
   clear hK K
   exact norm_ (by simp only [putAll,Act.put,sA,sZ,sS] <;> rfl) (hJ_0_5 (g17,g18) _ ⟨hB_,b_g17,l_g17,b_g18,l_g18⟩)
  ·refine slice_step ?hg (N:=13) ?hd (cs:=#[]) (t:=23) (n:=0) ?hr ?_;(case hd => rfl);(case hg => rfl);(case hr => first|(go_simp;done)|(go_simp;rfl))
   intro g19 hg_ w1_ b_g19 hb_
   have l_g19 : W.heap.size ≤ g19:=by rw [hg_];exact hB_.size
   have n_g18_g19 : g18 ≠ g19:=by have h_ : g18 < w_.heap.size:=b_g18.lt;omega
   replace b_g18:=b_g18.keep hb_
   replace hB_:=keep_below hB_ hb_
   clear hb_ hg_
   refine hK.out _ _ hB_ (fun hHeld => ?_)
   clear hK K
   exact norm_ (by simp only [putAll,Act.put,sA,sZ,sS] <;> rfl) (hJ_5_10 (g18,g19) _ ⟨hB_,b_g18,l_g18,b_g19,l_g19,n_g18_g19⟩)
 ·rintro g19 w_ ⟨hB_,b_g19,l_g19⟩
  have hHeld:=hB_
  refine norm_ (a':=?_) ?_ ?_
  rotate_left
  ·simp only [putAll,Act.put,sA,sZ,sS]
   rfl
  refine two_ (i:=0) (j:=5) (Ni:=some 3) (Nj:=some 8) #[tt,tt,tt,tt,ff,ff,tt,tt,tt,ff,tt,tt,tt,ff,ff,ff,ff,ff,ff,ff,ff,ff] #[ff,tt,tt,tt,ff,tt,tt,tt,tt,ff,tt,tt,tt,ff,ff,ff,ff,ff,ff,ff,ff,ff] rfl rfl rfl rfl (two_of HT_.out (by kernel_rfl)) (by decide) (by decide) (fun K hK => ?_) (fun K hK => ?_)
  ·refine slice_step ?hg (N:=3) ?hd (cs:=#[]) (t:=63) (n:=0) ?hr ?_;(case hd => rfl);(case hg => rfl);(case hr => first|(go_simp;done)|(go_simp;rfl))
   intro g17 hg_ w1_ b_g17 hb_
   have l_g17 : W.heap.size ≤ g17:=by rw [hg_];exact hB_.size
   replace b_g19:=b_g19.keep hb_
   replace hB_:=keep_below hB_ hb_
   clear hb_ hg_
   refine hK.out _ _ hB_ (fun hHeld => ?_)
   clear hK K
   exact norm_ (by simp only [putAll,Act.put,sA,sZ,sS] <;> rfl) (hJ_0_10 (g17,g19) _ ⟨hB_,b_g17,l_g17,b_g19,l_g19⟩)
  ·refine slice_step ?hg (N:=8) ?hd (cs:=#[]) (t:=23) (n:=0) ?hr ?_;(case hd => rfl);(case hg => rfl);(case hr => first|(go_simp;done)|(go_simp;rfl))
   intro g18 hg_ w1_ b_g18 hb_
   have l_g18 : W.heap.size ≤ g18:=by rw [hg_];exact hB_.size
   have n_g18_g19 : g18 ≠ g19:=by have h_ : g19 < w_.heap.size:=b_g19.lt;omega
   replace b_g19:=b_g19.keep hb_
   replace hB_:=keep_below hB_ hb_
   clear hb_ hg_
   refine hK.out _ _ hB_ (fun hHeld => ?_)
   clear hK K
   exact norm_ (by simp only [putAll,Act.put,sA,sZ,sS] <;> rfl) (hJ_5_10 (g18,g19) _ ⟨hB_,b_g18,l_g18,b_g19,l_g19,n_g18_g19⟩)
 rintro ⟨g17,A17,c17,g18,A18,c18,g19,A19,c19⟩ w_ ⟨hB_,b_g17,l_g17,h17,b_g18,l_g18,h18,b_g19,l_g19,h19,n_g18_g19⟩
 have hHeld:=hB_
 refine norm_ (a':=?_) ?_ ?_
 rotate_left
 ·simp only [putAll,Act.put,sA,sZ,sS]
  rfl
 have hO : InO w_ W.heap.size s ⟨A17,c17,A18,c18,A19,c19⟩:=⟨h17,h18,h19⟩
 clear h17 h18 h19
 have b5:=b.keep hB_
 have d5:=b2.keep hB_
 have hB5:=keep_below hB hB_
 have hsz : w.heap.size+2 = W.heap.size:=by rw [← HWs.out];simp
 clear b b2 k17 k18 k19
 have z_:=b5.frozen 17
 have c_ : _ = some _:=(b5.cell 17).trans rfl
 refine last_ (i:=16) (N:=none) #[tt,tt,tt,tt,tt,tt,tt,tt,tt,tt,tt,tt,tt,tt,tt,tt,tt,ff,ff,ff,ff,ff] rfl rfl (one_of HT_.out (by kernel_rfl)) (by decide) (fun K hK => ?_)
 refine skip_ (w1:=?_) (by rfl) rfl ?_ ?_
 rotate_left
 ·go_simp
  with_reducible rfl
 refine hK.out _ _ ?_
 clear hK K
 clear z_ c_
 have b0':=b5.set_ 17 (.slice A17 s.f6.f1.length c17)
 have d0':=d5.far (p:=⟨w.heap.size,17,none⟩) (by simp) (.slice A17 s.f6.f1.length c17)
 have o0':=hO.set (q:=⟨w.heap.size,17,none⟩) (by show w.heap.size < _;omega) (.slice A17 s.f6.f1.length c17)
 have e0':=hB5.setCell (p:=⟨w.heap.size,17,none⟩) (Nat.le_refl _) (.slice A17 s.f6.f1.length c17)
 generalize w_.setCell ⟨w.heap.size,17,none⟩ (.slice A17 s.f6.f1.length c17) = v0 at b0' d0' o0' e0' ⊢
 clear b5 d5 hO hB5
 refine pure_ (i:=17) (N:=some 19) (v:=?_) (a':=?_) #[tt,tt,tt,tt,tt,tt,tt,tt,tt,tt,tt,tt,tt,tt,tt,tt,tt,tt,ff,ff,ff,ff] rfl rfl (any_of HT_.out (by kernel_rfl)) (fun _ _ _ h => h) (Or.inl ⟨by rfl,?_⟩) ?_ ?_
 rotate_left
 ·intro w'
  go_simp
  with_reducible rfl
 rotate_left
 ·simp only [Act.put,sA,sZ,sS,i64_w,i32_w]
  rfl
 refine pure_ (i:=18) (N:=some 20) (v:=?_) (a':=?_) #[tt,tt,tt,tt,tt,tt,tt,tt,tt,tt,tt,tt,tt,tt,tt,tt,tt,tt,tt,ff,ff,ff] rfl rfl (any_of HT_.out (by kernel_rfl)) (fun _ _ _ h => h) (Or.inl ⟨by rfl,?_⟩) ?_ ?_
 rotate_left
 ·intro w'
  go_simp
  with_reducible rfl
 rotate_left
 ·simp only [Act.put,sA,sZ,sS,i64_w,i32_w]
  rfl
 have z_:=b0'.frozen 18
 have c_ : _ = some _:=(b0'.cell 18).trans rfl
 refine last_ (i:=19) (N:=none) #[tt,tt,tt,tt,tt,tt,tt,tt,tt,tt,tt,tt,tt,tt,tt,tt,tt,tt,tt,tt,ff,ff] rfl rfl (one_of HT_.out (by kernel_rfl)) (by decide) (fun K hK => ?_)
 refine skip_ (w1:=?_) (by rfl) rfl ?_ ?_
 rotate_left
 ·go_simp
  with_reducible rfl
 refine hK.out _ _ ?_
 clear hK K
 clear z_ c_
 have b1':=b0'.set_ 18 (.slice A18 s.f6.f2.length c18)
 have d1':=d0'.far (p:=⟨w.heap.size,18,none⟩) (by simp) (.slice A18 s.f6.f2.length c18)
 have o1':=o0'.set (q:=⟨w.heap.size,18,none⟩) (by show w.heap.size < _;omega) (.slice A18 s.f6.f2.length c18)
 have e1':=e0'.setCell (p:=⟨w.heap.size,18,none⟩) (Nat.le_refl _) (.slice A18 s.f6.f2.length c18)
 generalize v0.setCell ⟨w.heap.size,18,none⟩ (.slice A18 s.f6.f2.length c18) = v1 at b1' d1' o1' e1' ⊢
 clear b0' d0' o0' e0'
 refine pure_ (i:=20) (N:=some 21) (v:=?_) (a':=?_) #[tt,tt,tt,tt,tt,tt,tt,tt,tt,tt,tt,tt,tt,tt,tt,tt,tt,tt,tt,tt,tt,ff] rfl rfl (any_of HT_.out (by kernel_rfl)) (fun _ _ _ h => h) (Or.inl ⟨by rfl,?_⟩) ?_ ?_
 rotate_left
 ·intro w'
  go_simp
  with_reducible rfl
 rotate_left
 ·simp only [Act.put,sA,sZ,sS,i64_w,i32_w]
  rfl
 have z_:=b1'.frozen 19
 have c_ : _ = some _:=(b1'.cell 19).trans rfl
 refine last_ (i:=21) (N:=none) #[tt,tt,tt,tt,tt,tt,tt,tt,tt,tt,tt,tt,tt,tt,tt,tt,tt,tt,tt,tt,tt,tt] rfl rfl (one_of HT_.out (by kernel_rfl)) (by decide) (fun K hK => ?_)
 refine skip_ (w1:=?_) (by rfl) rfl ?_ ?_
 rotate_left
 ·go_simp
  with_reducible rfl
 refine hK.out _ _ ?_
 clear hK K
 clear z_ c_
 have b2':=b1'.set_ 19 (.slice A19 s.f7.length c19)
 have d2':=d1'.far (p:=⟨w.heap.size,19,none⟩) (by simp) (.slice A19 s.f7.length c19)
 have o2':=o1'.set (q:=⟨w.heap.size,19,none⟩) (by show w.heap.size < _;omega) (.slice A19 s.f7.length c19)
 have e2':=e1'.setCell (p:=⟨w.heap.size,19,none⟩) (Nat.le_refl _) (.slice A19 s.f7.length c19)
 generalize v1.setCell ⟨w.heap.size,19,none⟩ (.slice A19 s.f7.length c19) = v2 at b2' d2' o2' e2' ⊢
 clear b1' d1' o1' e1'
 refine done_ (done_of HT_.out (by kernel_rfl)) ?_
 have bz : Blk v2 w.heap.size 33 (sv s ⟨A17,c17,A18,c18,A19,c19⟩):=b2'
 generalize hp' : (⟨A17,c17,A18,c18,A19,c19⟩ : Pt) = p' at bz o2' ⊢
 clear b2' hp'
 go_upto_region 2 with fail
 refine wp_region_list ?_
 refine pl_val (N:=some 22) (v:=.agg (sv s p')) (a':=?_) rfl (by rfl) (load_row_run 33 _ rfl (w.heap.size) rfl 33 (sv s p') _ (bz) Tryd.underlying33 rfl (by first|kernel_rfl|rfl)) ?_ ?_
 rotate_left
 ·simp only [Act.put,sA,sZ,sS,i64_w,i32_w]
  rfl
 refine pl_skip (W':=_) rfl (by rfl) (store_row_run (g:=w.heap.size+1) 33 _ _ rfl rfl (cells:=(sv s p')) rfl 33 (d2') (by first|kernel_rfl|rfl) rfl (sv_one _ _)) ?_
 refine wpList_nil ?_
 go_wp2
 refine bodyPost_ret (v:=.agg (sv s p')) (results_cell_row Tryd.results14 _ _ (w.heap.size+1) 33 (sv s p') (0,0) _ rfl (Blk.row_ d2' _) Tryd.underlying33 rfl (by kernel_rfl)) rfl ⟨p',rfl,(o2'.row (by omega) _).lower (by omega),Below.row_ e2' (Nat.le_succ _) _⟩
theorem lcopied_c {s : S33} {p : Pt} {W : World} (hl : Lens s) (hi : In W s p) : Hid (Calls Tryd.prog 14 #[.agg (sv s p)] W fun e w' => ∃ p', e = .returned (.agg (sv s p')) ∧ InO w' W.heap.size s p' ∧ Below W.heap.size W w') := Lib.hid (lcopied_any s p W hl hi)
end Go.Proofs.YtiamkgoajkfofaaDoor.S
