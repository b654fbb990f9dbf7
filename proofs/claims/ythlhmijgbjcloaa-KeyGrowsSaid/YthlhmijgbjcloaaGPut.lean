/- What the row of this claim reaches. No condition. -/
import Derived.RangeFuncBox
import Derived.Laws.BytesArg
import Derived.WalkKit
import Derived.Test.YthlhmijgbjcloaaGX1
import Derived.Test.YthlhmijgbjcloaaGReg
import Derived.Test.YthlhmijgbjcloaaGX2
set_option linter.unusedVariables false
set_option linter.unusedSimpArgs false
namespace Go.Proofs.Ythlhmijgbjcloaa.A
open Go.RowKit Go.Proofs.YthlhmijgbjcloaaW.PrintWords Go.Proofs.YthlhmijgbjcloaaW.PrintLast Go.Proofs.YthlhmijgbjcloaaW.PrintMore
theorem info_int : (Try.prog.info? 3).map (fun i => (i.zero, i.size, i.bytes)) = some (some (.int .i64 0), 1, 8) := by kernel_rfl
def Rest (W W' : World) (gS : Nat) (v : Value) : Prop := W.heap.size ≤ W'.heap.size ∧ ∀ k, k < W.heap.size → k ≠ gS → v.ownBlock ≠ some k → W'.heap[k]? = W.heap[k]?
section
variable {W W1 W2 : World} {gS : Nat} {v : Value}
theorem Rest.refl : Rest W W gS v := ⟨Nat.le_refl _, fun _ _ _ _ => rfl⟩
theorem Rest.alloc (h : Rest W W1 gS v) (o : Obj) : Rest W (W1.alloc o) gS v := ⟨Nat.le_trans h.1 (by simp), fun k hk h1 h2 => (Below.heap_alloc W1 o k (by have := h.1; omega)).trans (h.2 k hk h1 h2)⟩
theorem Rest.drew (h : Rest W W1 gS v) : Rest W W1.drew gS v := h
theorem Rest.grown (h : Rest W W1 gS v) (hg : W1.grownBy W2 v.ownBlock) : Rest W W2 gS v := ⟨Nat.le_trans h.1 hg.size, fun k hk h1 h2 => (hg.block k (by have := h.1; omega) (fun e => h2 e.symm)).trans (h.2 k hk h1 h2)⟩
theorem Rest.below (h : Rest W W1 gS v) (hb : Below W1.heap.size W1 W2) : Rest W W2 gS v := ⟨Nat.le_trans h.1 hb.size, fun k hk h1 h2 => (hb.block k (by have := h.1; omega)).trans (h.2 k hk h1 h2)⟩
theorem Rest.set (h : Rest W W1 gS v) (i : Nat) (u : Value) : Rest W (W1.setCell ⟨gS, i, none⟩ u) gS v := ⟨by have := h.1; simpa using this, fun k hk h1 h2 => (Below.heap_setCell W1 ⟨gS, i, none⟩ u k h1).trans (h.2 k hk h1 h2)⟩
end
abbrev ints (l : List Int) : List Value := l.map (.int .i64)
def putreg.T1 : Bool × List (List Nat × List Nat) := (true, [([], []), ([], []), ([], []), ([2], [2]), ([3], [3]), ([4], [4]), ([], []), ([6], [6]), ([5, 7], [5, 7]), ([], []), ([9], [9]), ([10], [10]), ([11], [11]), ([], []), ([12, 13, 8], [12, 13]), ([0, 0, 2, 3, 4, 5, 6, 7, 8, 12, 14], [0]), ([15, 0, 2, 3, 4, 5, 6, 7, 8, 12, 14], [15]), ([16, 8, 14, 0, 2, 3, 4, 5, 6, 7, 8, 12, 14], [8, 16]), ([1, 0, 1, 2, 3, 4, 5, 6, 7, 8, 9, 10, 11, 12, 13, 14, 15, 16, 17], [1]), ([18, 0, 1, 2, 3, 4, 5, 6, 7, 8, 9, 10, 11, 12, 13, 14, 15, 16, 17], [18]), ([19, 14, 17, 0, 1, 2, 3, 4, 5, 6, 7, 8, 9, 10, 11, 12, 13, 14, 15, 16, 17], [14, 19])])
def putreg.B1 : List Nat := [0, 0, 0, 4, 12, 28, 0, 64, 252, 0, 512, 1536, 3584, 0, 16380, 32765, 65533, 131069, 262143, 524287, 1048575]
theorem putreg.tab1 : rtab .any (opsOf Try.f55 1) = putreg.T1 := by kernel_rfl
theorem putreg.bits1 : waitsOk putreg.T1.2 putreg.B1 = true := by kernel_rfl
set_option maxHeartbeats 4000000 in
set_option maxRecDepth 100000 in
theorem put_any (w0 W : World) (gS : Nat) (v : Value) (xs : List Int) (i b0 b1 b2 b3 k0 k1 k2 k3 u0 u1 u2 u3 : Int)
  (hS : Blk W gS 74 #[v,.int .i64 b0,.int .i64 b1,.int .i64 b2,.int .i64 b3]) (ho : W.ownsRow w0.heap.size 3 1 v xs.length (ints xs)) (hB : Below w0.heap.size w0 W) (hg : w0.heap.size ≤ gS) (hl : xs.length < 1000)
  (hu : key_Union.f b0 b1 b2 b3 k0 k1 k2 k3 = some (u0,u1,u2,u3)) :
  Calls Try.prog 55 #[.pointer (some ⟨gS,0,none⟩),.int .i64 i,.agg #[.int .i64 k0,.int .i64 k1,.int .i64 k2,.int .i64 k3]] W fun e W' => (∃ r,e = .returned r)∧∃ v',Blk W' gS 74 #[v',.int .i64 u0,.int .i64 u1,.int .i64 u2,.int .i64 u3]∧W'.ownsRow w0.heap.size 3 1 v' (xs.length+1) (ints (xs ++ [i])) ∧
   (v'.ownBlock = v.ownBlock∨∃ b,v'.ownBlock = some b∧W.heap.size ≤ b)∧Below w0.heap.size w0 W'∧Rest W W' gS v:=by
 have HU:=Lib.hid (fun W => key_Union.calls _ _ _ _ _ _ _ _ u0 u1 u2 u3 W hu)
 obtain ⟨i0,hi0,hz0,hz1,hz2⟩:=info_parts info_int
 have c0:=hS.cell 0
 have c1:=hS.cell 1
 have c2:=hS.cell 2
 have c3:=hS.cell 3
 have c4:=hS.cell 4
 simp at c0 c1 c2 c3 c4
 have hlt:=hS.lt
 go_enter Try.func55,Try.ntmps55
 go_wp2
 have hx:=Blk.new W 35 #[.int .i64 k0,.int .i64 k1,.int .i64 k2,.int .i64 k3]
 have hn : gS ≠ W.heap.size:=by omega
 have hS1:=hS.alloc (.cells #[.int .i64 k0,.int .i64 k1,.int .i64 k2,.int .i64 k3] 35)
 have hB1 : Below w0.heap.size w0 (W.alloc (.cells #[.int .i64 k0,.int .i64 k1,.int .i64 k2,.int .i64 k3] 35)):=keep_below_alloc _ hB
 have ho1:=ho.alloc (.cells #[.int .i64 k0,.int .i64 k1,.int .i64 k2,.int .i64 k3] 35)
 have hv : v.ownBlock ≠ some gS:=own_blk_ne ho hS (by decide)
 have hsz:=hB.size
 have hsz1 : W.heap.size ≤ ((W.alloc (.cells #[.int .i64 k0,.int .i64 k1,.int .i64 k2,.int .i64 k3] 35)).alloc (.cells #[.int .i64 i] 3)).drew.heap.size:=by show W.heap.size ≤ ((W.alloc _).alloc _).heap.size;simp;omega
 have hR1 : Rest W (W.alloc (.cells #[.int .i64 k0,.int .i64 k1,.int .i64 k2,.int .i64 k3] 35)) gS v:=Rest.refl.alloc _
 have hvx : v.ownBlock ≠ some W.heap.size:=fun e => Nat.lt_irrefl _ (ho.lt _ e).2
 generalize hW1 : W.alloc (.cells #[.int .i64 k0,.int .i64 k1,.int .i64 k2,.int .i64 k3] 35) = W1 at hx hS1 hB1 ho1 hR1 hsz1 ⊢
 have d0:=hS1.cell 0
 have d1:=hS1.cell 1
 have d2:=hS1.cell 2
 have d3:=hS1.cell 3
 have d4:=hS1.cell 4
 have e0:=hx.cell 0
 have e1:=hx.cell 1
 have e2:=hx.cell 2
 have e3:=hx.cell 3
 simp at d0 d1 d2 d3 d4 e0 e1 e2 e3
 refine start_ (n:=21) (S:=(fun w' => w'.cell? ⟨gS,0,none⟩ = some v∧w'.cell? ⟨gS,1,none⟩ = some (.int .i64 b0)∧w'.cell? ⟨gS,2,none⟩ = some (.int .i64 b1)∧w'.cell? ⟨gS,3,none⟩ = some (.int .i64 b2)∧w'.cell? ⟨gS,4,none⟩ = some (.int .i64 b3)∧w'.cell? ⟨W.heap.size,0,none⟩ = some (.int .i64 k0)∧w'.cell? ⟨W.heap.size,1,none⟩ = some (.int .i64 k1)∧w'.cell? ⟨W.heap.size,2,none⟩ = some (.int .i64 k2)∧w'.cell? ⟨W.heap.size,3,none⟩ = some (.int .i64 k3))) (ds:=[17,20]) #[ff,ff,ff,ff,ff,ff,ff,ff,ff,ff,ff,ff,ff,ff,ff,ff,ff,ff,ff,ff,ff] (by kernel_rfl) rfl rfl ⟨d0,d1,d2,d3,d4,e0,e1,e2,e3⟩ (fun hHeld => ?_)
 refine with_tabW putreg.tab1 putreg.bits1 (fun HT_ HW_ => ?_)
 refine pure_ (i:=0) (N:=some 6) (v:=?_) (a':=?_) #[tt,ff,ff,ff,ff,ff,ff,ff,ff,ff,ff,ff,ff,ff,ff,ff,ff,ff,ff,ff,ff] rfl rfl (any_of HT_.out (by kernel_rfl)) (fun _ _ _ h => h) (Or.inl ⟨by rfl,?_⟩) ?_ ?_
 rotate_left
 ·intro w'
  go_simp
  with_reducible rfl
 rotate_left
 ·simp only [Act.put,sA,sZ,sS,i64_w,i32_w]
  rfl
 refine pure_ (i:=1) (N:=some 7) (v:=?_) (a':=?_) #[tt,tt,ff,ff,ff,ff,ff,ff,ff,ff,ff,ff,ff,ff,ff,ff,ff,ff,ff,ff,ff] rfl rfl (any_of HT_.out (by kernel_rfl)) (fun _ _ _ h => h) (Or.inl ⟨by rfl,?_⟩) ?_ ?_
 rotate_left
 ·intro w'
  go_simp
  with_reducible rfl
 rotate_left
 ·simp only [Act.put,sA,sZ,sS,i64_w,i32_w]
  rfl
 refine pure_ (i:=2) (N:=some 8) (v:=?_) (a':=?_) #[tt,tt,tt,ff,ff,ff,ff,ff,ff,ff,ff,ff,ff,ff,ff,ff,ff,ff,ff,ff,ff] rfl rfl (any_of HT_.out (by kernel_rfl)) (fun _ _ _ h => h) (Or.inl ⟨by rfl,?_⟩) ?_ ?_
 rotate_left
 ·intro w'
  go_simp
  with_reducible rfl
 rotate_left
 ·simp only [Act.put,sA,sZ,sS,i64_w,i32_w]
  rfl
 refine pure_ (i:=3) (N:=some 9) (v:=?_) (a':=?_) #[tt,tt,tt,tt,ff,ff,ff,ff,ff,ff,ff,ff,ff,ff,ff,ff,ff,ff,ff,ff,ff] rfl rfl (any_of HT_.out (by kernel_rfl)) (fun _ _ _ h => h) (Or.inl ⟨by rfl,?_⟩) ?_ ?_
 rotate_left
 ·intro w'
  go_simp
  with_reducible rfl
 rotate_left
 ·simp only [Act.put,sA,sZ,sS,i64_w,i32_w]
  rfl
 refine pure_ (i:=4) (N:=some 10) (v:=?_) (a':=?_) #[tt,tt,tt,tt,tt,ff,ff,ff,ff,ff,ff,ff,ff,ff,ff,ff,ff,ff,ff,ff,ff] rfl rfl (any_of HT_.out (by kernel_rfl)) (fun _ _ _ h => h) (Or.inl ⟨by rfl,?_⟩) ?_ ?_
 rotate_left
 ·intro w'
  go_simp
  with_reducible rfl
 rotate_left
 ·simp only [Act.put,sA,sZ,sS,i64_w,i32_w]
  rfl
 refine take_ (i:=5) (N:=some 11) (v:=?_) (a':=?_) #[tt,tt,tt,tt,tt,tt,ff,ff,ff,ff,ff,ff,ff,ff,ff,ff,ff,ff,ff,ff,ff] rfl rfl (take_ofW HT_.out HW_.out (by kernel_rfl)) (fun _ _ _ h => h) (Or.inl ⟨by rfl,?_⟩) hHeld ?_ ?_
 rotate_left
 ·rintro w' ⟨s0,s1,s2,s3,s4,s5,s6,s7,s8⟩
  go_simp
  with_reducible rfl
 rotate_left
 ·simp only [Act.put,sA,sZ,sS,i64_w,i32_w]
  rfl
 refine pure_ (i:=6) (N:=some 12) (v:=?_) (a':=?_) #[tt,tt,tt,tt,tt,tt,tt,ff,ff,ff,ff,ff,ff,ff,ff,ff,ff,ff,ff,ff,ff] rfl rfl (any_of HT_.out (by kernel_rfl)) (fun _ _ _ h => h) (Or.inl ⟨by rfl,?_⟩) ?_ ?_
 rotate_left
 ·intro w'
  go_simp
  with_reducible rfl
 rotate_left
 ·simp only [Act.put,sA,sZ,sS,i64_w,i32_w]
  rfl
 refine pure_ (i:=9) (N:=some 15) (v:=?_) (a':=?_) #[tt,tt,tt,tt,tt,tt,tt,ff,ff,tt,ff,ff,ff,ff,ff,ff,ff,ff,ff,ff,ff] rfl rfl (any_of HT_.out (by kernel_rfl)) (fun _ _ _ h => h) (Or.inl ⟨by rfl,?_⟩) ?_ ?_
 rotate_left
 ·intro w'
  go_simp
  with_reducible rfl
 rotate_left
 ·simp only [Act.put,sA,sZ,sS,i64_w,i32_w]
  rfl
 refine pure_ (i:=10) (N:=some 16) (v:=?_) (a':=?_) #[tt,tt,tt,tt,tt,tt,tt,ff,ff,tt,tt,ff,ff,ff,ff,ff,ff,ff,ff,ff,ff] rfl rfl (any_of HT_.out (by kernel_rfl)) (fun _ _ _ h => h) (Or.inl ⟨by rfl,?_⟩) ?_ ?_
 rotate_left
 ·intro w'
  go_simp
  with_reducible rfl
 rotate_left
 ·simp only [Act.put,sA,sZ,sS,i64_w,i32_w]
  rfl
 refine pure_ (i:=11) (N:=some 17) (v:=?_) (a':=?_) #[tt,tt,tt,tt,tt,tt,tt,ff,ff,tt,tt,tt,ff,ff,ff,ff,ff,ff,ff,ff,ff] rfl rfl (any_of HT_.out (by kernel_rfl)) (fun _ _ _ h => h) (Or.inl ⟨by rfl,?_⟩) ?_ ?_
 rotate_left
 ·intro w'
  go_simp
  with_reducible rfl
 rotate_left
 ·simp only [Act.put,sA,sZ,sS,i64_w,i32_w]
  rfl
 refine take_ (i:=12) (N:=some 18) (v:=?_) (a':=?_) #[tt,tt,tt,tt,tt,tt,tt,ff,ff,tt,tt,tt,tt,ff,ff,ff,ff,ff,ff,ff,ff] rfl rfl (take_ofW HT_.out HW_.out (by kernel_rfl)) (fun _ _ _ h => h) (Or.inl ⟨by rfl,?_⟩) hHeld ?_ ?_
 rotate_left
 ·rintro w' ⟨s0,s1,s2,s3,s4,s5,s6,s7,s8⟩
  go_simp
  with_reducible rfl
 rotate_left
 ·simp only [Act.put,sA,sZ,sS,i64_w,i32_w]
  rfl
 refine take_ (i:=13) (N:=some 19) (v:=?_) (a':=?_) #[tt,tt,tt,tt,tt,tt,tt,ff,ff,tt,tt,tt,tt,tt,ff,ff,ff,ff,ff,ff,ff] rfl rfl (take_ofW HT_.out HW_.out (by kernel_rfl)) (fun _ _ _ h => h) (Or.inl ⟨by rfl,?_⟩) hHeld ?_ ?_
 rotate_left
 ·rintro w' ⟨s0,s1,s2,s3,s4,s5,s6,s7,s8⟩
  go_simp
  with_reducible rfl
 rotate_left
 ·simp only [Act.put,sA,sZ,sS,i64_w,i32_w]
  rfl
 refine one_ (i:=7) (N:=some 13) #[tt,tt,tt,tt,tt,tt,tt,tt,ff,tt,tt,tt,tt,tt,ff,ff,ff,ff,ff,ff,ff] rfl rfl (one_of HT_.out (by kernel_rfl)) (by decide) (fun K hK => ?_)
 rw [if_pos (by rfl)]
 go_simp
 have hS2:=hS1.alloc (.cells #[.int .i64 i] 3)
 have hx2:=hx.alloc (.cells #[.int .i64 i] 3)
 refine hK.out _ _ ⟨keep_alloc _ d0,keep_alloc _ d1,keep_alloc _ d2,keep_alloc _ d3,keep_alloc _ d4,keep_alloc _ e0,keep_alloc _ e1,keep_alloc _ e2,keep_alloc _ e3⟩ (fun hHeld => ?_)
 clear hK K
 refine norm_ (a':=?_) ?_ ?_
 rotate_left
 ·first|(show Act.put _ (some 13) _ = _;simp only [Act.put,sA,sZ,sS,i64_w,i32_w];rfl)|with_reducible rfl
 refine one_ (i:=8) (N:=some 14) #[tt,tt,tt,tt,tt,tt,tt,tt,tt,tt,tt,tt,tt,tt,ff,ff,ff,ff,ff,ff,ff] rfl rfl (one_of HT_.out (by kernel_rfl)) (by decide) (fun K hK => ?_)
 refine step_append_any _ rfl (.tmp 11) (.tmp 13) 42 rfl w0.heap.size 3 i0 _ 1 8 Try.underlying42 hi0 hz0 hz1 hz2 rfl (by decide) v xs.length (ints xs) rfl (ho1.alloc (.cells #[.int .i64 i] 3)) _ (some ⟨W1.heap.size,0,none⟩) 1 1 [.int .i64 i] rfl (Reads.one (Blk.cell (Blk.new W1 3 #[.int .i64 i]) 0)) (by simp [Value.oneCell']) (by unfold maxLen;omega) (by omega) (Nat.le_trans hB1.size (by show W1.heap.size ≤ (W1.alloc (.cells #[.int .i64 i] 3)).heap.size;simp)) ?_
 intro v1 w3 ho3 hg3 ha3
 obtain ⟨g2,cap2,rfl⟩:=ownsRow_succ ho3
 have bS:=(Blk.drew hS2).grown hg3 (fun e => hv e.symm)
 have bx:=(Blk.drew hx2).grown hg3 (fun e => hvx e.symm)
 have hB3 : Below w0.heap.size w0 w3:=Below.grown (Below.drew (keep_below_alloc (.cells #[.int .i64 i] 3) hB1)) hg3 (Nat.le_trans hB1.size (by show W1.heap.size ≤ (W1.alloc (.cells #[.int .i64 i] 3)).heap.size;simp)) (fun k hk => (ho.lt k hk).1)
 have hR3 : Rest W w3 gS v:=Rest.grown (Rest.drew (hR1.alloc (.cells #[.int .i64 i] 3))) hg3
 refine hK.out _ _ ⟨bS.cell 0,bS.cell 1,bS.cell 2,bS.cell 3,bS.cell 4,bx.cell 0,bx.cell 1,bx.cell 2,bx.cell 3⟩ (fun hHeld => ?_)
 clear hK K
 refine norm_ (a':=?_) ?_ ?_
 rotate_left
 ·first|(show Act.put _ (some 14) _ = _;simp only [Act.put,sA,sZ,sS,i64_w,i32_w];rfl)|with_reducible rfl
 refine one_ (i:=14) (N:=some 20) #[tt,tt,tt,tt,tt,tt,tt,tt,tt,tt,tt,tt,tt,tt,tt,ff,ff,ff,ff,ff,ff] rfl rfl (one_of HT_.out (by kernel_rfl)) (by decide) (fun K hK => ?_)
 refine goes_ Try.func40 (by kernel_rfl) rfl #[.agg #[.int .i64 b0,.int .i64 b1,.int .i64 b2,.int .i64 b3],.agg #[.int .i64 k0,.int .i64 k1,.int .i64 k2,.int .i64 k3]] (by rfl) rfl rfl (by (try simp only [List.map_toArray,List.map_cons,List.map_nil]);first|done|rfl) ?_
 refine (HU.out _).mono ?_
 rintro e w4 ⟨rfl,hb4⟩
 refine ⟨_,rfl,?_⟩
 have bS4:=bS.keep hb4
 have bx4:=bx.keep hb4
 have hB4:=keep_below hB3 hb4
 have hR4:=hR3.below hb4
 refine hK.out _ _ ⟨bS4.cell 0,bS4.cell 1,bS4.cell 2,bS4.cell 3,bS4.cell 4,bx4.cell 0,bx4.cell 1,bx4.cell 2,bx4.cell 3⟩ (fun hHeld => ?_)
 clear hK K
 refine norm_ (a':=?_) ?_ ?_
 rotate_left
 ·first|(show Act.put _ (some 20) _ = _;simp only [Act.put,sA,sZ,sS,i64_w,i32_w];rfl)|with_reducible rfl
 refine pure_ (i:=15) (N:=some 21) (v:=?_) (a':=?_) #[tt,tt,tt,tt,tt,tt,tt,tt,tt,tt,tt,tt,tt,tt,tt,tt,ff,ff,ff,ff,ff] rfl rfl (any_of HT_.out (by kernel_rfl)) (fun _ _ _ h => h) (Or.inl ⟨by rfl,?_⟩) ?_ ?_
 rotate_left
 ·intro w'
  go_simp
  with_reducible rfl
 rotate_left
 ·simp only [Act.put,sA,sZ,sS,i64_w,i32_w]
  rfl
 refine pure_ (i:=16) (N:=some 22) (v:=?_) (a':=?_) #[tt,tt,tt,tt,tt,tt,tt,tt,tt,tt,tt,tt,tt,tt,tt,tt,tt,ff,ff,ff,ff] rfl rfl (any_of HT_.out (by kernel_rfl)) (fun _ _ _ h => h) (Or.inl ⟨by rfl,?_⟩) ?_ ?_
 rotate_left
 ·intro w'
  go_simp
  with_reducible rfl
 rotate_left
 ·simp only [Act.put,sA,sZ,sS,i64_w,i32_w]
  rfl
 clear hHeld bS bx bx4 hB3 hR3 hS2 hx2 hx hS1 hB1 ho1 hR1 hS
 clear c0 c1 c2 c3 c4 d0 d1 d2 d3 d4 e0 e1 e2 e3
 have s0 : w4.cell? ⟨gS,0,none⟩ = some v:=bS4.cell 0
 have z0:=bS4.frozen 0
 refine last_ (i:=17) (N:=none) #[tt,tt,tt,tt,tt,tt,tt,tt,tt,tt,tt,tt,tt,tt,tt,tt,tt,tt,ff,ff,ff] rfl rfl (one_of HT_.out (by kernel_rfl)) (by decide) (fun K hK => ?_)
 refine skip_ (w1:=?_) (by rfl) rfl ?_ ?_
 rotate_left
 ·go_simp
  with_reducible rfl
 refine hK.out _ _ ?_
 clear hK K
 clear s0 z0
 have bS5 : Blk (w4.setCell ⟨gS,0,none⟩ (.slice (some ⟨g2,0,none⟩) (xs.length+1) cap2)) gS 74 #[.slice (some ⟨g2,0,none⟩) (xs.length+1) cap2,.int .i64 b0,.int .i64 b1,.int .i64 b2,.int .i64 b3]:=by simpa using bS4.set_ 0 (.slice (some ⟨g2,0,none⟩) (xs.length+1) cap2)
 have hR5:=hR4.set 0 (.slice (some ⟨g2,0,none⟩) (xs.length+1) cap2)
 have hB5:=hB4.setCell (p:=⟨gS,0,none⟩) hg (.slice (some ⟨g2,0,none⟩) (xs.length+1) cap2)
 have ho5 : (w4.setCell ⟨gS,0,none⟩ (.slice (some ⟨g2,0,none⟩) (xs.length+1) cap2)).ownsRow w0.heap.size 3 1 (.slice (some ⟨g2,0,none⟩) (xs.length+1) cap2) (xs.length+1) (ints xs ++ [.int .i64 i]):=by
  have ho4 : w4.ownsRow w0.heap.size 3 1 (.slice (some ⟨g2,0,none⟩) (xs.length+1) cap2) (xs.length+1) (ints xs ++ [.int .i64 i]):=own_mv ho3 fun k hk => hb4.block k (ho3.lt k hk).2
  have hne:=own_blk_ne ho4 bS4 (by decide)
  exact own_mv ho4 fun k hk => Below.heap_setCell w4 ⟨gS,0,none⟩ _ k (fun e => hne (by rw [hk,e]))
 generalize w4.setCell ⟨gS,0,none⟩ (.slice (some ⟨g2,0,none⟩) (xs.length+1) cap2) = w5 at bS5 hR5 hB5 ho5 ⊢
 have s1 : w5.cell? ⟨gS,1,none⟩ = some (.int .i64 b0):=bS5.cell 1
 have s2 : w5.cell? ⟨gS,2,none⟩ = some (.int .i64 b1):=bS5.cell 2
 have s3 : w5.cell? ⟨gS,3,none⟩ = some (.int .i64 b2):=bS5.cell 3
 have s4 : w5.cell? ⟨gS,4,none⟩ = some (.int .i64 b3):=bS5.cell 4
 have z1:=bS5.frozen 1
 have z2:=bS5.frozen 2
 have z3:=bS5.frozen 3
 have z4:=bS5.frozen 4
 refine pure_ (i:=18) (N:=some 23) (v:=?_) (a':=?_) #[tt,tt,tt,tt,tt,tt,tt,tt,tt,tt,tt,tt,tt,tt,tt,tt,tt,tt,tt,ff,ff] rfl rfl (any_of HT_.out (by kernel_rfl)) (fun _ _ _ h => h) (Or.inl ⟨by rfl,?_⟩) ?_ ?_
 rotate_left
 ·intro w'
  go_simp
  with_reducible rfl
 rotate_left
 ·simp only [Act.put,sA,sZ,sS,i64_w,i32_w]
  rfl
 refine pure_ (i:=19) (N:=some 24) (v:=?_) (a':=?_) #[tt,tt,tt,tt,tt,tt,tt,tt,tt,tt,tt,tt,tt,tt,tt,tt,tt,tt,tt,tt,ff] rfl rfl (any_of HT_.out (by kernel_rfl)) (fun _ _ _ h => h) (Or.inl ⟨by rfl,?_⟩) ?_ ?_
 rotate_left
 ·intro w'
  go_simp
  with_reducible rfl
 rotate_left
 ·simp only [Act.put,sA,sZ,sS,i64_w,i32_w]
  rfl
 refine last_ (i:=20) (N:=none) #[tt,tt,tt,tt,tt,tt,tt,tt,tt,tt,tt,tt,tt,tt,tt,tt,tt,tt,tt,tt,tt] rfl rfl (one_of HT_.out (by kernel_rfl)) (by decide) (fun K hK => ?_)
 refine skip_ (w1:=?_) (by rfl) rfl ?_ ?_
 rotate_left
 ·go_simp
  with_reducible rfl
 refine hK.out _ _ ?_
 clear hK K
 refine done_ (done_of HT_.out (by kernel_rfl)) ?_
 clear s1 s2 s3 s4 z1 z2 z3 z4
 refine bodyPost_end (v:=.tuple #[]) (by simp [results,Try.results55]) rfl ⟨⟨_,rfl⟩,.slice (some ⟨g2,0,none⟩) (xs.length+1) cap2,?_,?_,ha3.imp id (fun e => ⟨_,e,Nat.le_trans (hsz1) (Nat.le_refl _)⟩),?_,?_⟩
 ·simpa using (((bS5.set_ 1 (.int .i64 u0)).set_ 2 (.int .i64 u1)).set_ 3 (.int .i64 u2)).set_ 4 (.int .i64 u3)
 ·have hne:=own_blk_ne ho5 bS5 (by decide)
  have : ints (xs ++ [i]) = ints xs ++ [.int .i64 i]:=by simp
  rw [this]
  have mv : ∀ (w6 : World) (j : Nat) (u : Value),w6.ownsRow w0.heap.size 3 1 (.slice (some ⟨g2,0,none⟩) (xs.length+1) cap2) (xs.length+1) (ints xs ++ [.int .i64 i])→(w6.setCell ⟨gS,j,none⟩ u).ownsRow w0.heap.size 3 1 (.slice (some ⟨g2,0,none⟩) (xs.length+1) cap2) (xs.length+1) (ints xs ++ [.int .i64 i]) :=
   fun w6 j u h => own_mv h fun k hk => Below.heap_setCell w6 ⟨gS,j,none⟩ _ k (fun e => hne (by rw [hk,e]))
  exact mv _ _ _ (mv _ _ _ (mv _ _ _ (mv _ _ _ ho5)))
 ·exact (((hB5.setCell (by simpa using hg) _).setCell (by simpa using hg) _).setCell (by simpa using hg) _).setCell (by simpa using hg) _
 ·exact (((hR5.set 1 _).set 2 _).set 3 _).set 4 _
end Go.Proofs.Ythlhmijgbjcloaa.A
