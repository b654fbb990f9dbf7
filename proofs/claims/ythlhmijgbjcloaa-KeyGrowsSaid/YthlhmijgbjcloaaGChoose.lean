/- What the row of this claim reaches. No condition. -/
import Derived.Laws.BytesArg
import Derived.WalkKit
import Derived.Test.YthlhmijgbjcloaaGX1
import Derived.Test.YthlhmijgbjcloaaGReg
set_option linter.unusedVariables false
set_option linter.unusedSimpArgs false
namespace Go.Proofs.Ythlhmijgbjcloaa.A
open Go.RowKit Go.Proofs.YthlhmijgbjcloaaW.PrintWords Go.Proofs.YthlhmijgbjcloaaW.PrintLast Go.Proofs.YthlhmijgbjcloaaW.PrintMore
def chooseF (na nb left least a0 a1 a2 a3 b0 b1 b2 b3 x0 x1 x2 x3 : Int) : Option Bool :=
  if na + left ≤ least then some true else if nb + left ≤ least then some false else
  (key_Less.f a0 a1 a2 a3 b0 b1 b2 b3 x0 x1 x2 x3).bind fun c => if c = true then some true else (key_Less.f b0 b1 b2 b3 a0 a1 a2 a3 x0 x1 x2 x3).bind fun d => if d = true then some false else some (decide (na ≤ nb))
def r54.T1 : Bool × List (List Nat × List Nat) := (true, [([], []), ([0], [0]), ([1], [1]), ([2], [2]), ([3], [3]), ([], []), ([4, 5], [4, 5]), ([], []), ([6, 7], [6, 7]), ([8], [8])])
def r54.B1 : List Nat := [0, 1, 3, 7, 15, 0, 63, 0, 255, 511]
theorem r54.tab1 : rtab .any (opsOf Try.f54 1) = r54.T1 := by kernel_rfl
theorem r54.bits1 : waitsOk r54.T1.2 r54.B1 = true := by kernel_rfl
def r54.T3 : Bool × List (List Nat × List Nat) := (true, [([], []), ([0], [0]), ([1], [1]), ([2], [2]), ([3], [3]), ([], []), ([4, 5], [4, 5]), ([], []), ([6, 7], [6, 7]), ([8], [8])])
def r54.B3 : List Nat := [0, 1, 3, 7, 15, 0, 63, 0, 255, 511]
theorem r54.tab3 : rtab .any (opsOf Try.f54 3) = r54.T3 := by kernel_rfl
theorem r54.bits3 : waitsOk r54.T3.2 r54.B3 = true := by kernel_rfl
def r54.T5 : Bool × List (List Nat × List Nat) := (true, [([], []), ([0], [0]), ([1], [1]), ([2], [2]), ([], []), ([4], [4]), ([5], [5]), ([6], [6]), ([], []), ([3, 7, 8], [3, 7, 8]), ([9, 9], [9])])
def r54.B5 : List Nat := [0, 1, 3, 7, 0, 16, 48, 112, 0, 511, 1023]
theorem r54.tab5 : rtab .any (opsOf Try.f54 5) = r54.T5 := by kernel_rfl
theorem r54.bits5 : waitsOk r54.T5.2 r54.B5 = true := by kernel_rfl
def r54.T7 : Bool × List (List Nat × List Nat) := (true, [([], []), ([0], [0]), ([1], [1]), ([2], [2]), ([], []), ([4], [4]), ([5], [5]), ([6], [6]), ([], []), ([3, 7, 8], [3, 7, 8]), ([9, 9], [9])])
def r54.B7 : List Nat := [0, 1, 3, 7, 0, 16, 48, 112, 0, 511, 1023]
theorem r54.tab7 : rtab .any (opsOf Try.f54 7) = r54.T7 := by kernel_rfl
theorem r54.bits7 : waitsOk r54.T7.2 r54.B7 = true := by kernel_rfl
def r54.T9 : Bool × List (List Nat × List Nat) := (true, [([], []), ([0], [0]), ([1], [1]), ([2], [2]), ([3], [3]), ([], []), ([5], [5]), ([6], [6]), ([7], [7]), ([8], [8]), ([4, 9], [4, 9]), ([10], [10])])
def r54.B9 : List Nat := [0, 1, 3, 7, 15, 0, 32, 96, 224, 480, 1023, 2047]
theorem r54.tab9 : rtab .any (opsOf Try.f54 9) = r54.T9 := by kernel_rfl
theorem r54.bits9 : waitsOk r54.T9.2 r54.B9 = true := by kernel_rfl
theorem below_keepN {w W1 w4 : World} (h : Below w.heap.size w W1) (hb : Below W1.heap.size W1 w4) : Below w.heap.size w w4 := h.trans (hb.mono h.size)
theorem wrap_small {z : Int} (h : -9223372036854775808 ≤ z) (h2 : z < 9223372036854775808) : IntKind.i64.wrap z = z := by
  rw [IntKind.wrap_i64]; omega
set_option maxHeartbeats 4000000 in
set_option maxRecDepth 100000 in
theorem choose_any (W : World) (gA gB gp gq gl gm qa qb ca cb : Nat) (na nb : Nat) (left least a0 a1 a2 a3 b0 b1 b2 b3 x0 x1 x2 x3 : Int) (r : Bool)
  (hA : Blk W gA 74 #[.slice (some ⟨qa,0,none⟩) na ca,.int .i64 a0,.int .i64 a1,.int .i64 a2,.int .i64 a3]) (hB : Blk W gB 74 #[.slice (some ⟨qb,0,none⟩) nb cb,.int .i64 b0,.int .i64 b1,.int .i64 b2,.int .i64 b3])
  (hp : Blk W gp 72 #[.pointer (some ⟨gA,0,none⟩)]) (hq : Blk W gq 72 #[.pointer (some ⟨gB,0,none⟩)]) (hl : Blk W gl 3 #[.int .i64 left]) (hm : Blk W gm 3 #[.int .i64 least])
  (hna : na < 1000) (hnb : nb < 1000) (hl0 : -1000 ≤ left) (hl1 : left ≤ 1000) (h : chooseF na nb left least a0 a1 a2 a3 b0 b1 b2 b3 x0 x1 x2 x3 = some r) :
  Calls Try.prog 54 #[.agg #[.int .i64 x0,.int .i64 x1,.int .i64 x2,.int .i64 x3],.pointer (some ⟨gp,0,none⟩),.pointer (some ⟨gl,0,none⟩),.pointer (some ⟨gm,0,none⟩),.pointer (some ⟨gq,0,none⟩)] W fun e W' => e = .returned (.pointer (some ⟨if r = true then gA else gB,0,none⟩))∧Below W.heap.size W W':=by
 have hx:=Blk.new W 35 #[.int .i64 x0,.int .i64 x1,.int .i64 x2,.int .i64 x3]
 replace hA:=hA.alloc (.cells #[.int .i64 x0,.int .i64 x1,.int .i64 x2,.int .i64 x3] 35)
 replace hB:=hB.alloc (.cells #[.int .i64 x0,.int .i64 x1,.int .i64 x2,.int .i64 x3] 35)
 replace hp:=hp.alloc (.cells #[.int .i64 x0,.int .i64 x1,.int .i64 x2,.int .i64 x3] 35)
 replace hq:=hq.alloc (.cells #[.int .i64 x0,.int .i64 x1,.int .i64 x2,.int .i64 x3] 35)
 replace hl:=hl.alloc (.cells #[.int .i64 x0,.int .i64 x1,.int .i64 x2,.int .i64 x3] 35)
 replace hm:=hm.alloc (.cells #[.int .i64 x0,.int .i64 x1,.int .i64 x2,.int .i64 x3] 35)
 have hb0 : Below W.heap.size W (W.alloc (.cells #[.int .i64 x0,.int .i64 x1,.int .i64 x2,.int .i64 x3] 35)):=keep_below_alloc _ (Below.refl _ _)
 have w1:=wrap_small (z:=(na : Int)+left) (by omega) (by omega)
 have w2:=wrap_small (z:=(nb : Int)+left) (by omega) (by omega)
 have H:=Lib.hid h
 clear h hna hnb hl0 hl1
 go_enter Try.func54,Try.ntmps54
 go_wp2
 generalize hW1 : W.alloc (.cells #[.int .i64 x0,.int .i64 x1,.int .i64 x2,.int .i64 x3] 35) = W1 at hx hA hB hp hq hl hm hb0 ⊢
 have hx0 : W1.cell? ⟨W.heap.size,0,none⟩ = some (.int .i64 x0):=hx.cell 0
 have hx1 : W1.cell? ⟨W.heap.size,1,none⟩ = some (.int .i64 x1):=hx.cell 1
 have hx2 : W1.cell? ⟨W.heap.size,2,none⟩ = some (.int .i64 x2):=hx.cell 2
 have hx3 : W1.cell? ⟨W.heap.size,3,none⟩ = some (.int .i64 x3):=hx.cell 3
 have cp : W1.cell? ⟨gp,0,none⟩ = some (.pointer (some ⟨gA,0,none⟩)):=hp.cell 0
 have cq : W1.cell? ⟨gq,0,none⟩ = some (.pointer (some ⟨gB,0,none⟩)):=hq.cell 0
 have cl : W1.cell? ⟨gl,0,none⟩ = some (.int .i64 left):=hl.cell 0
 have cm : W1.cell? ⟨gm,0,none⟩ = some (.int .i64 least):=hm.cell 0
 have A0 : W1.cell? ⟨gA,0,none⟩ = some (.slice (some ⟨qa,0,none⟩) na ca):=hA.cell 0
 have A1 : W1.cell? ⟨gA,1,none⟩ = some (.int .i64 a0):=hA.cell 1
 have A2 : W1.cell? ⟨gA,2,none⟩ = some (.int .i64 a1):=hA.cell 2
 have A3 : W1.cell? ⟨gA,3,none⟩ = some (.int .i64 a2):=hA.cell 3
 have A4 : W1.cell? ⟨gA,4,none⟩ = some (.int .i64 a3):=hA.cell 4
 have B0 : W1.cell? ⟨gB,0,none⟩ = some (.slice (some ⟨qb,0,none⟩) nb cb):=hB.cell 0
 have B1 : W1.cell? ⟨gB,1,none⟩ = some (.int .i64 b0):=hB.cell 1
 have B2 : W1.cell? ⟨gB,2,none⟩ = some (.int .i64 b1):=hB.cell 2
 have B3 : W1.cell? ⟨gB,3,none⟩ = some (.int .i64 b2):=hB.cell 3
 have B4 : W1.cell? ⟨gB,4,none⟩ = some (.int .i64 b3):=hB.cell 4
 clear hx hA hB hp hq hl hm hW1
 refine start_ (n:=10) (S:=(fun w' => Below W1.heap.size W1 w')) (ds:=[]) #[ff,ff,ff,ff,ff,ff,ff,ff,ff,ff] (by kernel_rfl) rfl rfl (Below.drew (Below.refl _ _)) (fun hHeld => ?_)
 refine with_tabW r54.tab1 r54.bits1 (fun HT_ HW_ => ?_)
 refine take_ (i:=0) (N:=some 8) (v:=?_) (a':=?_) #[tt,ff,ff,ff,ff,ff,ff,ff,ff,ff] rfl rfl (take_ofW HT_.out HW_.out (by kernel_rfl)) (fun _ _ _ h => h) (Or.inl ⟨by rfl,?_⟩) hHeld ?_ ?_
 rotate_left
 ·rintro w' s0
  have k1:=keep_cell s0 cp
  have k2:=keep_cell s0 cl
  have k3:=keep_cell s0 cm
  have k4:=keep_cell s0 A0
  go_simp
  with_reducible rfl
 rotate_left
 ·simp only [Act.put,sA,sZ,sS,i64_w,i32_w]
  rfl
 refine pure_ (i:=1) (N:=some 9) (v:=?_) (a':=?_) #[tt,tt,ff,ff,ff,ff,ff,ff,ff,ff] rfl rfl (any_of HT_.out (by kernel_rfl)) (fun _ _ _ h => h) (Or.inl ⟨by rfl,?_⟩) ?_ ?_
 rotate_left
 ·intro w'
  go_simp
  with_reducible rfl
 rotate_left
 ·simp only [Act.put,sA,sZ,sS,i64_w,i32_w]
  rfl
 refine pure_ (i:=2) (N:=some 10) (v:=?_) (a':=?_) #[tt,tt,tt,ff,ff,ff,ff,ff,ff,ff] rfl rfl (any_of HT_.out (by kernel_rfl)) (fun _ _ _ h => h) (Or.inl ⟨by rfl,?_⟩) ?_ ?_
 rotate_left
 ·intro w'
  go_simp
  with_reducible rfl
 rotate_left
 ·simp only [Act.put,sA,sZ,sS,i64_w,i32_w]
  rfl
 refine take_ (i:=3) (N:=some 11) (v:=?_) (a':=?_) #[tt,tt,tt,tt,ff,ff,ff,ff,ff,ff] rfl rfl (take_ofW HT_.out HW_.out (by kernel_rfl)) (fun _ _ _ h => h) (Or.inl ⟨by rfl,?_⟩) hHeld ?_ ?_
 rotate_left
 ·rintro w' s0
  have k1:=keep_cell s0 cp
  have k2:=keep_cell s0 cl
  have k3:=keep_cell s0 cm
  have k4:=keep_cell s0 A0
  go_simp
  with_reducible rfl
 rotate_left
 ·simp only [Act.put,sA,sZ,sS,i64_w,i32_w]
  rfl
 refine pure_ (i:=4) (N:=some 12) (v:=?_) (a':=?_) #[tt,tt,tt,tt,tt,ff,ff,ff,ff,ff] rfl rfl (any_of HT_.out (by kernel_rfl)) (fun _ _ _ h => h) (Or.inl ⟨by rfl,?_⟩) ?_ ?_
 rotate_left
 ·intro w'
  go_simp
  with_reducible rfl
 rotate_left
 ·simp only [Act.put,sA,sZ,sS,i64_w,i32_w]
  rfl
 refine take_ (i:=5) (N:=some 13) (v:=?_) (a':=?_) #[tt,tt,tt,tt,tt,tt,ff,ff,ff,ff] rfl rfl (take_ofW HT_.out HW_.out (by kernel_rfl)) (fun _ _ _ h => h) (Or.inl ⟨by rfl,?_⟩) hHeld ?_ ?_
 rotate_left
 ·rintro w' s0
  have k1:=keep_cell s0 cp
  have k2:=keep_cell s0 cl
  have k3:=keep_cell s0 cm
  have k4:=keep_cell s0 A0
  go_simp
  with_reducible rfl
 rotate_left
 ·simp only [Act.put,sA,sZ,sS,i64_w,i32_w]
  rfl
 refine pure_ (i:=6) (N:=some 14) (v:=?_) (a':=?_) #[tt,tt,tt,tt,tt,tt,tt,ff,ff,ff] rfl rfl (any_of HT_.out (by kernel_rfl)) (fun _ _ _ h => h) (Or.inl ⟨by rfl,?_⟩) ?_ ?_
 rotate_left
 ·intro w'
  go_simp
  with_reducible rfl
 rotate_left
 ·simp only [Act.put,sA,sZ,sS,i64_w,i32_w]
  rfl
 refine take_ (i:=7) (N:=some 15) (v:=?_) (a':=?_) #[tt,tt,tt,tt,tt,tt,tt,tt,ff,ff] rfl rfl (take_ofW HT_.out HW_.out (by kernel_rfl)) (fun _ _ _ h => h) (Or.inl ⟨by rfl,?_⟩) hHeld ?_ ?_
 rotate_left
 ·rintro w' s0
  have k1:=keep_cell s0 cp
  have k2:=keep_cell s0 cl
  have k3:=keep_cell s0 cm
  have k4:=keep_cell s0 A0
  go_simp
  with_reducible rfl
 rotate_left
 ·simp only [Act.put,sA,sZ,sS,i64_w,i32_w]
  rfl
 refine pure_ (i:=8) (N:=some 16) (v:=?_) (a':=?_) #[tt,tt,tt,tt,tt,tt,tt,tt,tt,ff] rfl rfl (any_of HT_.out (by kernel_rfl)) (fun _ _ _ h => h) (Or.inl ⟨by rfl,?_⟩) ?_ ?_
 rotate_left
 ·intro w'
  go_simp
  with_reducible rfl
 rotate_left
 ·simp only [Act.put,sA,sZ,sS,i64_w,i32_w]
  rfl
 refine pure_ (i:=9) (N:=some 7) (v:=?_) (a':=?_) #[tt,tt,tt,tt,tt,tt,tt,tt,tt,tt] rfl rfl (any_of HT_.out (by kernel_rfl)) (fun _ _ _ h => h) (Or.inl ⟨by rfl,?_⟩) ?_ ?_
 rotate_left
 ·intro w'
  go_simp
  with_reducible rfl
 rotate_left
 ·simp only [Act.put,sA,sZ,sS,i64_w,i32_w]
  rfl
 refine done_ (done_of HT_.out (by kernel_rfl)) ?_
 have HH:=H.out
 unfold chooseF at HH
 by_cases h1 : (na : Int)+left ≤ least
 ·rw [if_pos h1] at HH
  injection HH with HH
  subst HH
  have d1 : decide ((na : Int)+left ≤ least) = true:=decide_eq_true h1
  go_wp2
  refine bodyPost_ret (v:=.pointer (some ⟨gA,0,none⟩)) (by simp [results,Try.results54,go_sem, *]) rfl ⟨rfl,?_⟩
  exact below_drewN' hb0
 rw [if_neg h1] at HH
 have d1 : decide ((na : Int)+left ≤ least) = false:=decide_eq_false h1
 go_wp2
 refine start_ (n:=10) (S:=(fun w' => Below W1.heap.size W1 w')) (ds:=[]) #[ff,ff,ff,ff,ff,ff,ff,ff,ff,ff] (by kernel_rfl) rfl rfl (by (repeat (first|exact Below.refl _ _|refine Below.drew ?_|refine below_drewN' ?_|refine Below.alloc ?_ (by simp;try omega) _|refine Below.setCell ?_ (by simp;try omega) _))) (fun hHeld => ?_)
 refine with_tabW r54.tab3 r54.bits3 (fun HT_ HW_ => ?_)
 refine take_ (i:=0) (N:=some 19) (v:=?_) (a':=?_) #[tt,ff,ff,ff,ff,ff,ff,ff,ff,ff] rfl rfl (take_ofW HT_.out HW_.out (by kernel_rfl)) (fun _ _ _ h => h) (Or.inl ⟨by rfl,?_⟩) hHeld ?_ ?_
 rotate_left
 ·rintro w' s0
  have k1:=keep_cell s0 cp
  have k2:=keep_cell s0 cl
  have k3:=keep_cell s0 cm
  have k4:=keep_cell s0 A0
  have k5:=keep_cell s0 cq
  have k6:=keep_cell s0 B0
  go_simp
  with_reducible rfl
 rotate_left
 ·simp only [Act.put,sA,sZ,sS,i64_w,i32_w]
  rfl
 refine pure_ (i:=1) (N:=some 20) (v:=?_) (a':=?_) #[tt,tt,ff,ff,ff,ff,ff,ff,ff,ff] rfl rfl (any_of HT_.out (by kernel_rfl)) (fun _ _ _ h => h) (Or.inl ⟨by rfl,?_⟩) ?_ ?_
 rotate_left
 ·intro w'
  go_simp
  with_reducible rfl
 rotate_left
 ·simp only [Act.put,sA,sZ,sS,i64_w,i32_w]
  rfl
 refine pure_ (i:=2) (N:=some 21) (v:=?_) (a':=?_) #[tt,tt,tt,ff,ff,ff,ff,ff,ff,ff] rfl rfl (any_of HT_.out (by kernel_rfl)) (fun _ _ _ h => h) (Or.inl ⟨by rfl,?_⟩) ?_ ?_
 rotate_left
 ·intro w'
  go_simp
  with_reducible rfl
 rotate_left
 ·simp only [Act.put,sA,sZ,sS,i64_w,i32_w]
  rfl
 refine take_ (i:=3) (N:=some 22) (v:=?_) (a':=?_) #[tt,tt,tt,tt,ff,ff,ff,ff,ff,ff] rfl rfl (take_ofW HT_.out HW_.out (by kernel_rfl)) (fun _ _ _ h => h) (Or.inl ⟨by rfl,?_⟩) hHeld ?_ ?_
 rotate_left
 ·rintro w' s0
  have k1:=keep_cell s0 cp
  have k2:=keep_cell s0 cl
  have k3:=keep_cell s0 cm
  have k4:=keep_cell s0 A0
  have k5:=keep_cell s0 cq
  have k6:=keep_cell s0 B0
  go_simp
  with_reducible rfl
 rotate_left
 ·simp only [Act.put,sA,sZ,sS,i64_w,i32_w]
  rfl
 refine pure_ (i:=4) (N:=some 23) (v:=?_) (a':=?_) #[tt,tt,tt,tt,tt,ff,ff,ff,ff,ff] rfl rfl (any_of HT_.out (by kernel_rfl)) (fun _ _ _ h => h) (Or.inl ⟨by rfl,?_⟩) ?_ ?_
 rotate_left
 ·intro w'
  go_simp
  with_reducible rfl
 rotate_left
 ·simp only [Act.put,sA,sZ,sS,i64_w,i32_w]
  rfl
 refine take_ (i:=5) (N:=some 24) (v:=?_) (a':=?_) #[tt,tt,tt,tt,tt,tt,ff,ff,ff,ff] rfl rfl (take_ofW HT_.out HW_.out (by kernel_rfl)) (fun _ _ _ h => h) (Or.inl ⟨by rfl,?_⟩) hHeld ?_ ?_
 rotate_left
 ·rintro w' s0
  have k1:=keep_cell s0 cp
  have k2:=keep_cell s0 cl
  have k3:=keep_cell s0 cm
  have k4:=keep_cell s0 A0
  have k5:=keep_cell s0 cq
  have k6:=keep_cell s0 B0
  go_simp
  with_reducible rfl
 rotate_left
 ·simp only [Act.put,sA,sZ,sS,i64_w,i32_w]
  rfl
 refine pure_ (i:=6) (N:=some 25) (v:=?_) (a':=?_) #[tt,tt,tt,tt,tt,tt,tt,ff,ff,ff] rfl rfl (any_of HT_.out (by kernel_rfl)) (fun _ _ _ h => h) (Or.inl ⟨by rfl,?_⟩) ?_ ?_
 rotate_left
 ·intro w'
  go_simp
  with_reducible rfl
 rotate_left
 ·simp only [Act.put,sA,sZ,sS,i64_w,i32_w]
  rfl
 refine take_ (i:=7) (N:=some 26) (v:=?_) (a':=?_) #[tt,tt,tt,tt,tt,tt,tt,tt,ff,ff] rfl rfl (take_ofW HT_.out HW_.out (by kernel_rfl)) (fun _ _ _ h => h) (Or.inl ⟨by rfl,?_⟩) hHeld ?_ ?_
 rotate_left
 ·rintro w' s0
  have k1:=keep_cell s0 cp
  have k2:=keep_cell s0 cl
  have k3:=keep_cell s0 cm
  have k4:=keep_cell s0 A0
  have k5:=keep_cell s0 cq
  have k6:=keep_cell s0 B0
  go_simp
  with_reducible rfl
 rotate_left
 ·simp only [Act.put,sA,sZ,sS,i64_w,i32_w]
  rfl
 refine pure_ (i:=8) (N:=some 27) (v:=?_) (a':=?_) #[tt,tt,tt,tt,tt,tt,tt,tt,tt,ff] rfl rfl (any_of HT_.out (by kernel_rfl)) (fun _ _ _ h => h) (Or.inl ⟨by rfl,?_⟩) ?_ ?_
 rotate_left
 ·intro w'
  go_simp
  with_reducible rfl
 rotate_left
 ·simp only [Act.put,sA,sZ,sS,i64_w,i32_w]
  rfl
 refine pure_ (i:=9) (N:=some 18) (v:=?_) (a':=?_) #[tt,tt,tt,tt,tt,tt,tt,tt,tt,tt] rfl rfl (any_of HT_.out (by kernel_rfl)) (fun _ _ _ h => h) (Or.inl ⟨by rfl,?_⟩) ?_ ?_
 rotate_left
 ·intro w'
  go_simp
  with_reducible rfl
 rotate_left
 ·simp only [Act.put,sA,sZ,sS,i64_w,i32_w]
  rfl
 refine done_ (done_of HT_.out (by kernel_rfl)) ?_
 by_cases h2 : (nb : Int)+left ≤ least
 ·rw [if_pos h2] at HH
  injection HH with HH
  subst HH
  have d2 : decide ((nb : Int)+left ≤ least) = true:=decide_eq_true h2
  go_wp2
  refine bodyPost_ret (v:=.pointer (some ⟨gB,0,none⟩)) (by simp [results,Try.results54,go_sem, *]) rfl ⟨rfl,?_⟩
  exact Below.drew (Below.drew hb0)
 rw [if_neg h2] at HH
 have d2 : decide ((nb : Int)+left ≤ least) = false:=decide_eq_false h2
 obtain ⟨c,hc,HH⟩:=Option.bind_eq_some_iff.1 HH
 have HL:=Lib.hid (fun W => key_Less.calls _ _ _ _ _ _ _ _ _ _ _ _ c W hc)
 clear hc
 go_wp2
 refine start_ (n:=11) (S:=(fun w' => Below W1.heap.size W1 w')) (ds:=[]) #[ff,ff,ff,ff,ff,ff,ff,ff,ff,ff,ff] (by kernel_rfl) rfl rfl (by (repeat (first|exact Below.refl _ _|refine Below.drew ?_|refine below_drewN' ?_|refine Below.alloc ?_ (by simp;try omega) _|refine Below.setCell ?_ (by simp;try omega) _))) (fun hHeld => ?_)
 refine with_tabW r54.tab5 r54.bits5 (fun HT_ HW_ => ?_)
 refine take_ (i:=0) (N:=some 30) (v:=?_) (a':=?_) #[tt,ff,ff,ff,ff,ff,ff,ff,ff,ff,ff] rfl rfl (take_ofW HT_.out HW_.out (by kernel_rfl)) (fun _ _ _ h => h) (Or.inl ⟨by rfl,?_⟩) hHeld ?_ ?_
 rotate_left
 ·rintro w' s0
  have k0:=keep_cell s0 hx0
  have k1:=keep_cell s0 hx1
  have k2:=keep_cell s0 hx2
  have k3:=keep_cell s0 hx3
  have k4:=keep_cell s0 cp
  have k5:=keep_cell s0 cq
  have k6:=keep_cell s0 A1
  have k7:=keep_cell s0 A2
  have k8:=keep_cell s0 A3
  have k9:=keep_cell s0 A4
  have m6:=keep_cell s0 B1
  have m7:=keep_cell s0 B2
  have m8:=keep_cell s0 B3
  have m9:=keep_cell s0 B4
  go_simp
  with_reducible rfl
 rotate_left
 ·simp only [Act.put,sA,sZ,sS,i64_w,i32_w]
  rfl
 refine pure_ (i:=1) (N:=some 31) (v:=?_) (a':=?_) #[tt,tt,ff,ff,ff,ff,ff,ff,ff,ff,ff] rfl rfl (any_of HT_.out (by kernel_rfl)) (fun _ _ _ h => h) (Or.inl ⟨by rfl,?_⟩) ?_ ?_
 rotate_left
 ·intro w'
  go_simp
  with_reducible rfl
 rotate_left
 ·simp only [Act.put,sA,sZ,sS,i64_w,i32_w]
  rfl
 refine pure_ (i:=2) (N:=some 32) (v:=?_) (a':=?_) #[tt,tt,tt,ff,ff,ff,ff,ff,ff,ff,ff] rfl rfl (any_of HT_.out (by kernel_rfl)) (fun _ _ _ h => h) (Or.inl ⟨by rfl,?_⟩) ?_ ?_
 rotate_left
 ·intro w'
  go_simp
  with_reducible rfl
 rotate_left
 ·simp only [Act.put,sA,sZ,sS,i64_w,i32_w]
  rfl
 refine take_ (i:=3) (N:=some 33) (v:=?_) (a':=?_) #[tt,tt,tt,tt,ff,ff,ff,ff,ff,ff,ff] rfl rfl (take_ofW HT_.out HW_.out (by kernel_rfl)) (fun _ _ _ h => h) (Or.inl ⟨by rfl,?_⟩) hHeld ?_ ?_
 rotate_left
 ·rintro w' s0
  have k0:=keep_cell s0 hx0
  have k1:=keep_cell s0 hx1
  have k2:=keep_cell s0 hx2
  have k3:=keep_cell s0 hx3
  have k4:=keep_cell s0 cp
  have k5:=keep_cell s0 cq
  have k6:=keep_cell s0 A1
  have k7:=keep_cell s0 A2
  have k8:=keep_cell s0 A3
  have k9:=keep_cell s0 A4
  have m6:=keep_cell s0 B1
  have m7:=keep_cell s0 B2
  have m8:=keep_cell s0 B3
  have m9:=keep_cell s0 B4
  go_simp
  with_reducible rfl
 rotate_left
 ·simp only [Act.put,sA,sZ,sS,i64_w,i32_w]
  rfl
 refine take_ (i:=4) (N:=some 34) (v:=?_) (a':=?_) #[tt,tt,tt,tt,tt,ff,ff,ff,ff,ff,ff] rfl rfl (take_ofW HT_.out HW_.out (by kernel_rfl)) (fun _ _ _ h => h) (Or.inl ⟨by rfl,?_⟩) hHeld ?_ ?_
 rotate_left
 ·rintro w' s0
  have k0:=keep_cell s0 hx0
  have k1:=keep_cell s0 hx1
  have k2:=keep_cell s0 hx2
  have k3:=keep_cell s0 hx3
  have k4:=keep_cell s0 cp
  have k5:=keep_cell s0 cq
  have k6:=keep_cell s0 A1
  have k7:=keep_cell s0 A2
  have k8:=keep_cell s0 A3
  have k9:=keep_cell s0 A4
  have m6:=keep_cell s0 B1
  have m7:=keep_cell s0 B2
  have m8:=keep_cell s0 B3
  have m9:=keep_cell s0 B4
  go_simp
  with_reducible rfl
 rotate_left
 ·simp only [Act.put,sA,sZ,sS,i64_w,i32_w]
  rfl
 refine pure_ (i:=5) (N:=some 35) (v:=?_) (a':=?_) #[tt,tt,tt,tt,tt,tt,ff,ff,ff,ff,ff] rfl rfl (any_of HT_.out (by kernel_rfl)) (fun _ _ _ h => h) (Or.inl ⟨by rfl,?_⟩) ?_ ?_
 rotate_left
 ·intro w'
  go_simp
  with_reducible rfl
 rotate_left
 ·simp only [Act.put,sA,sZ,sS,i64_w,i32_w]
  rfl
 refine pure_ (i:=6) (N:=some 36) (v:=?_) (a':=?_) #[tt,tt,tt,tt,tt,tt,tt,ff,ff,ff,ff] rfl rfl (any_of HT_.out (by kernel_rfl)) (fun _ _ _ h => h) (Or.inl ⟨by rfl,?_⟩) ?_ ?_
 rotate_left
 ·intro w'
  go_simp
  with_reducible rfl
 rotate_left
 ·simp only [Act.put,sA,sZ,sS,i64_w,i32_w]
  rfl
 refine take_ (i:=7) (N:=some 37) (v:=?_) (a':=?_) #[tt,tt,tt,tt,tt,tt,tt,tt,ff,ff,ff] rfl rfl (take_ofW HT_.out HW_.out (by kernel_rfl)) (fun _ _ _ h => h) (Or.inl ⟨by rfl,?_⟩) hHeld ?_ ?_
 rotate_left
 ·rintro w' s0
  have k0:=keep_cell s0 hx0
  have k1:=keep_cell s0 hx1
  have k2:=keep_cell s0 hx2
  have k3:=keep_cell s0 hx3
  have k4:=keep_cell s0 cp
  have k5:=keep_cell s0 cq
  have k6:=keep_cell s0 A1
  have k7:=keep_cell s0 A2
  have k8:=keep_cell s0 A3
  have k9:=keep_cell s0 A4
  have m6:=keep_cell s0 B1
  have m7:=keep_cell s0 B2
  have m8:=keep_cell s0 B3
  have m9:=keep_cell s0 B4
  go_simp
  with_reducible rfl
 rotate_left
 ·simp only [Act.put,sA,sZ,sS,i64_w,i32_w]
  rfl
 refine take_ (i:=8) (N:=some 38) (v:=?_) (a':=?_) #[tt,tt,tt,tt,tt,tt,tt,tt,tt,ff,ff] rfl rfl (take_ofW HT_.out HW_.out (by kernel_rfl)) (fun _ _ _ h => h) (Or.inl ⟨by rfl,?_⟩) hHeld ?_ ?_
 rotate_left
 ·rintro w' s0
  have k0:=keep_cell s0 hx0
  have k1:=keep_cell s0 hx1
  have k2:=keep_cell s0 hx2
  have k3:=keep_cell s0 hx3
  have k4:=keep_cell s0 cp
  have k5:=keep_cell s0 cq
  have k6:=keep_cell s0 A1
  have k7:=keep_cell s0 A2
  have k8:=keep_cell s0 A3
  have k9:=keep_cell s0 A4
  have m6:=keep_cell s0 B1
  have m7:=keep_cell s0 B2
  have m8:=keep_cell s0 B3
  have m9:=keep_cell s0 B4
  go_simp
  with_reducible rfl
 rotate_left
 ·simp only [Act.put,sA,sZ,sS,i64_w,i32_w]
  rfl
 refine one_ (i:=9) (N:=some 39) #[tt,tt,tt,tt,tt,tt,tt,tt,tt,tt,ff] rfl rfl (one_of HT_.out (by kernel_rfl)) (by decide) (fun K hK => ?_)
 refine goes_ Try.func38 (by kernel_rfl) rfl #[.agg #[.int .i64 a0,.int .i64 a1,.int .i64 a2,.int .i64 a3],.agg #[.int .i64 b0,.int .i64 b1,.int .i64 b2,.int .i64 b3],.agg #[.int .i64 x0,.int .i64 x1,.int .i64 x2,.int .i64 x3]] (by rfl) rfl rfl (by (try simp only [List.map_toArray,List.map_cons,List.map_nil]);first|done|rfl) ?_
 refine (HL.out _).mono ?_
 rintro e w4 ⟨rfl,hb4⟩
 refine ⟨_,rfl,?_⟩
 have hB4 : Below W1.heap.size W1 w4:=Below.step (by (repeat (first|exact Below.refl _ _|refine Below.drew ?_|refine below_drewN' ?_|refine Below.alloc ?_ (by simp;try omega) _|refine Below.setCell ?_ (by simp;try omega) _))) hb4 (Nat.le_refl _)
 clear hb4
 refine hK.out _ _ hB4 (fun hHeld => ?_)
 clear hK K
 refine norm_ (a':=?_) ?_ ?_
 rotate_left
 ·first|(show Act.put _ (some 39) _ = _;simp only [Act.put,sA,sZ,sS,i64_w,i32_w];rfl)|with_reducible rfl
 refine pure_ (i:=10) (N:=some 29) (v:=?_) (a':=?_) #[tt,tt,tt,tt,tt,tt,tt,tt,tt,tt,tt] rfl rfl (any_of HT_.out (by kernel_rfl)) (fun _ _ _ h => h) (Or.inl ⟨by rfl,?_⟩) ?_ ?_
 rotate_left
 ·intro w'
  go_simp
  with_reducible rfl
 rotate_left
 ·simp only [Act.put,sA,sZ,sS,i64_w,i32_w]
  rfl
 refine done_ (done_of HT_.out (by kernel_rfl)) ?_
 cases c
 ·rw [if_neg (by simp)] at HH
  obtain ⟨d,hd,HH⟩:=Option.bind_eq_some_iff.1 HH
  have HL2:=Lib.hid (fun W => key_Less.calls _ _ _ _ _ _ _ _ _ _ _ _ d W hd)
  clear hd
  go_wp2
  refine start_ (n:=11) (S:=(fun w' => Below W1.heap.size W1 w')) (ds:=[]) #[ff,ff,ff,ff,ff,ff,ff,ff,ff,ff,ff] (by kernel_rfl) rfl rfl (Below.drew hB4) (fun hHeld => ?_)
  refine with_tabW r54.tab7 r54.bits7 (fun HT_ HW_ => ?_)
  refine take_ (i:=0) (N:=some 42) (v:=?_) (a':=?_) #[tt,ff,ff,ff,ff,ff,ff,ff,ff,ff,ff] rfl rfl (take_ofW HT_.out HW_.out (by kernel_rfl)) (fun _ _ _ h => h) (Or.inl ⟨by rfl,?_⟩) hHeld ?_ ?_
  rotate_left
  ·rintro w' s0
   have k0:=keep_cell s0 hx0
   have k1:=keep_cell s0 hx1
   have k2:=keep_cell s0 hx2
   have k3:=keep_cell s0 hx3
   have k4:=keep_cell s0 cp
   have k5:=keep_cell s0 cq
   have k6:=keep_cell s0 A1
   have k7:=keep_cell s0 A2
   have k8:=keep_cell s0 A3
   have k9:=keep_cell s0 A4
   have m6:=keep_cell s0 B1
   have m7:=keep_cell s0 B2
   have m8:=keep_cell s0 B3
   have m9:=keep_cell s0 B4
   go_simp
   with_reducible rfl
  rotate_left
  ·simp only [Act.put,sA,sZ,sS,i64_w,i32_w]
   rfl
  refine pure_ (i:=1) (N:=some 43) (v:=?_) (a':=?_) #[tt,tt,ff,ff,ff,ff,ff,ff,ff,ff,ff] rfl rfl (any_of HT_.out (by kernel_rfl)) (fun _ _ _ h => h) (Or.inl ⟨by rfl,?_⟩) ?_ ?_
  rotate_left
  ·intro w'
   go_simp
   with_reducible rfl
  rotate_left
  ·simp only [Act.put,sA,sZ,sS,i64_w,i32_w]
   rfl
  refine pure_ (i:=2) (N:=some 44) (v:=?_) (a':=?_) #[tt,tt,tt,ff,ff,ff,ff,ff,ff,ff,ff] rfl rfl (any_of HT_.out (by kernel_rfl)) (fun _ _ _ h => h) (Or.inl ⟨by rfl,?_⟩) ?_ ?_
  rotate_left
  ·intro w'
   go_simp
   with_reducible rfl
  rotate_left
  ·simp only [Act.put,sA,sZ,sS,i64_w,i32_w]
   rfl
  refine take_ (i:=3) (N:=some 45) (v:=?_) (a':=?_) #[tt,tt,tt,tt,ff,ff,ff,ff,ff,ff,ff] rfl rfl (take_ofW HT_.out HW_.out (by kernel_rfl)) (fun _ _ _ h => h) (Or.inl ⟨by rfl,?_⟩) hHeld ?_ ?_
  rotate_left
  ·rintro w' s0
   have k0:=keep_cell s0 hx0
   have k1:=keep_cell s0 hx1
   have k2:=keep_cell s0 hx2
   have k3:=keep_cell s0 hx3
   have k4:=keep_cell s0 cp
   have k5:=keep_cell s0 cq
   have k6:=keep_cell s0 A1
   have k7:=keep_cell s0 A2
   have k8:=keep_cell s0 A3
   have k9:=keep_cell s0 A4
   have m6:=keep_cell s0 B1
   have m7:=keep_cell s0 B2
   have m8:=keep_cell s0 B3
   have m9:=keep_cell s0 B4
   go_simp
   with_reducible rfl
  rotate_left
  ·simp only [Act.put,sA,sZ,sS,i64_w,i32_w]
   rfl
  refine take_ (i:=4) (N:=some 46) (v:=?_) (a':=?_) #[tt,tt,tt,tt,tt,ff,ff,ff,ff,ff,ff] rfl rfl (take_ofW HT_.out HW_.out (by kernel_rfl)) (fun _ _ _ h => h) (Or.inl ⟨by rfl,?_⟩) hHeld ?_ ?_
  rotate_left
  ·rintro w' s0
   have k0:=keep_cell s0 hx0
   have k1:=keep_cell s0 hx1
   have k2:=keep_cell s0 hx2
   have k3:=keep_cell s0 hx3
   have k4:=keep_cell s0 cp
   have k5:=keep_cell s0 cq
   have k6:=keep_cell s0 A1
   have k7:=keep_cell s0 A2
   have k8:=keep_cell s0 A3
   have k9:=keep_cell s0 A4
   have m6:=keep_cell s0 B1
   have m7:=keep_cell s0 B2
   have m8:=keep_cell s0 B3
   have m9:=keep_cell s0 B4
   go_simp
   with_reducible rfl
  rotate_left
  ·simp only [Act.put,sA,sZ,sS,i64_w,i32_w]
   rfl
  refine pure_ (i:=5) (N:=some 47) (v:=?_) (a':=?_) #[tt,tt,tt,tt,tt,tt,ff,ff,ff,ff,ff] rfl rfl (any_of HT_.out (by kernel_rfl)) (fun _ _ _ h => h) (Or.inl ⟨by rfl,?_⟩) ?_ ?_
  rotate_left
  ·intro w'
   go_simp
   with_reducible rfl
  rotate_left
  ·simp only [Act.put,sA,sZ,sS,i64_w,i32_w]
   rfl
  refine pure_ (i:=6) (N:=some 48) (v:=?_) (a':=?_) #[tt,tt,tt,tt,tt,tt,tt,ff,ff,ff,ff] rfl rfl (any_of HT_.out (by kernel_rfl)) (fun _ _ _ h => h) (Or.inl ⟨by rfl,?_⟩) ?_ ?_
  rotate_left
  ·intro w'
   go_simp
   with_reducible rfl
  rotate_left
  ·simp only [Act.put,sA,sZ,sS,i64_w,i32_w]
   rfl
  refine take_ (i:=7) (N:=some 49) (v:=?_) (a':=?_) #[tt,tt,tt,tt,tt,tt,tt,tt,ff,ff,ff] rfl rfl (take_ofW HT_.out HW_.out (by kernel_rfl)) (fun _ _ _ h => h) (Or.inl ⟨by rfl,?_⟩) hHeld ?_ ?_
  rotate_left
  ·rintro w' s0
   have k0:=keep_cell s0 hx0
   have k1:=keep_cell s0 hx1
   have k2:=keep_cell s0 hx2
   have k3:=keep_cell s0 hx3
   have k4:=keep_cell s0 cp
   have k5:=keep_cell s0 cq
   have k6:=keep_cell s0 A1
   have k7:=keep_cell s0 A2
   have k8:=keep_cell s0 A3
   have k9:=keep_cell s0 A4
   have m6:=keep_cell s0 B1
   have m7:=keep_cell s0 B2
   have m8:=keep_cell s0 B3
   have m9:=keep_cell s0 B4
   go_simp
   with_reducible rfl
  rotate_left
  ·simp only [Act.put,sA,sZ,sS,i64_w,i32_w]
   rfl
  refine take_ (i:=8) (N:=some 50) (v:=?_) (a':=?_) #[tt,tt,tt,tt,tt,tt,tt,tt,tt,ff,ff] rfl rfl (take_ofW HT_.out HW_.out (by kernel_rfl)) (fun _ _ _ h => h) (Or.inl ⟨by rfl,?_⟩) hHeld ?_ ?_
  rotate_left
  ·rintro w' s0
   have k0:=keep_cell s0 hx0
   have k1:=keep_cell s0 hx1
   have k2:=keep_cell s0 hx2
   have k3:=keep_cell s0 hx3
   have k4:=keep_cell s0 cp
   have k5:=keep_cell s0 cq
   have k6:=keep_cell s0 A1
   have k7:=keep_cell s0 A2
   have k8:=keep_cell s0 A3
   have k9:=keep_cell s0 A4
   have m6:=keep_cell s0 B1
   have m7:=keep_cell s0 B2
   have m8:=keep_cell s0 B3
   have m9:=keep_cell s0 B4
   go_simp
   with_reducible rfl
  rotate_left
  ·simp only [Act.put,sA,sZ,sS,i64_w,i32_w]
   rfl
  refine one_ (i:=9) (N:=some 51) #[tt,tt,tt,tt,tt,tt,tt,tt,tt,tt,ff] rfl rfl (one_of HT_.out (by kernel_rfl)) (by decide) (fun K hK => ?_)
  refine goes_ Try.func38 (by kernel_rfl) rfl #[.agg #[.int .i64 b0,.int .i64 b1,.int .i64 b2,.int .i64 b3],.agg #[.int .i64 a0,.int .i64 a1,.int .i64 a2,.int .i64 a3],.agg #[.int .i64 x0,.int .i64 x1,.int .i64 x2,.int .i64 x3]] (by rfl) rfl rfl (by (try simp only [List.map_toArray,List.map_cons,List.map_nil]);first|done|rfl) ?_
  refine (HL2.out _).mono ?_
  rintro e w5 ⟨rfl,hb5⟩
  refine ⟨_,rfl,?_⟩
  have hB5 : Below W1.heap.size W1 w5:=below_keepN (Below.drew hB4) hb5
  clear hb5
  refine hK.out _ _ hB5 (fun hHeld => ?_)
  clear hK K
  refine norm_ (a':=?_) ?_ ?_
  rotate_left
  ·first|(show Act.put _ (some 51) _ = _;simp only [Act.put,sA,sZ,sS,i64_w,i32_w];rfl)|with_reducible rfl
  refine pure_ (i:=10) (N:=some 41) (v:=?_) (a':=?_) #[tt,tt,tt,tt,tt,tt,tt,tt,tt,tt,tt] rfl rfl (any_of HT_.out (by kernel_rfl)) (fun _ _ _ h => h) (Or.inl ⟨by rfl,?_⟩) ?_ ?_
  rotate_left
  ·intro w'
   go_simp
   with_reducible rfl
  rotate_left
  ·simp only [Act.put,sA,sZ,sS,i64_w,i32_w]
   rfl
  refine done_ (done_of HT_.out (by kernel_rfl)) ?_
  cases d
  ·rw [if_neg (by simp)] at HH
   injection HH with HH
   go_wp2
   refine start_ (n:=12) (S:=(fun w' => Below W1.heap.size W1 w')) (ds:=[]) #[ff,ff,ff,ff,ff,ff,ff,ff,ff,ff,ff,ff] (by kernel_rfl) rfl rfl (Below.drew hB5) (fun hHeld => ?_)
   refine with_tabW r54.tab9 r54.bits9 (fun HT_ HW_ => ?_)
   refine take_ (i:=0) (N:=some 54) (v:=?_) (a':=?_) #[tt,ff,ff,ff,ff,ff,ff,ff,ff,ff,ff,ff] rfl rfl (take_ofW HT_.out HW_.out (by kernel_rfl)) (fun _ _ _ h => h) (Or.inl ⟨by rfl,?_⟩) hHeld ?_ ?_
   rotate_left
   ·rintro w' s0
    have k1:=keep_cell s0 cp
    have k2:=keep_cell s0 cq
    have k3:=keep_cell s0 A0
    have k4:=keep_cell s0 B0
    go_simp
    with_reducible rfl
   rotate_left
   ·simp only [Act.put,sA,sZ,sS,i64_w,i32_w]
    rfl
   refine pure_ (i:=1) (N:=some 55) (v:=?_) (a':=?_) #[tt,tt,ff,ff,ff,ff,ff,ff,ff,ff,ff,ff] rfl rfl (any_of HT_.out (by kernel_rfl)) (fun _ _ _ h => h) (Or.inl ⟨by rfl,?_⟩) ?_ ?_
   rotate_left
   ·intro w'
    go_simp
    with_reducible rfl
   rotate_left
   ·simp only [Act.put,sA,sZ,sS,i64_w,i32_w]
    rfl
   refine pure_ (i:=2) (N:=some 56) (v:=?_) (a':=?_) #[tt,tt,tt,ff,ff,ff,ff,ff,ff,ff,ff,ff] rfl rfl (any_of HT_.out (by kernel_rfl)) (fun _ _ _ h => h) (Or.inl ⟨by rfl,?_⟩) ?_ ?_
   rotate_left
   ·intro w'
    go_simp
    with_reducible rfl
   rotate_left
   ·simp only [Act.put,sA,sZ,sS,i64_w,i32_w]
    rfl
   refine take_ (i:=3) (N:=some 57) (v:=?_) (a':=?_) #[tt,tt,tt,tt,ff,ff,ff,ff,ff,ff,ff,ff] rfl rfl (take_ofW HT_.out HW_.out (by kernel_rfl)) (fun _ _ _ h => h) (Or.inl ⟨by rfl,?_⟩) hHeld ?_ ?_
   rotate_left
   ·rintro w' s0
    have k1:=keep_cell s0 cp
    have k2:=keep_cell s0 cq
    have k3:=keep_cell s0 A0
    have k4:=keep_cell s0 B0
    go_simp
    with_reducible rfl
   rotate_left
   ·simp only [Act.put,sA,sZ,sS,i64_w,i32_w]
    rfl
   refine pure_ (i:=4) (N:=some 58) (v:=?_) (a':=?_) #[tt,tt,tt,tt,tt,ff,ff,ff,ff,ff,ff,ff] rfl rfl (any_of HT_.out (by kernel_rfl)) (fun _ _ _ h => h) (Or.inl ⟨by rfl,?_⟩) ?_ ?_
   rotate_left
   ·intro w'
    go_simp
    with_reducible rfl
   rotate_left
   ·simp only [Act.put,sA,sZ,sS,i64_w,i32_w]
    rfl
   refine take_ (i:=5) (N:=some 59) (v:=?_) (a':=?_) #[tt,tt,tt,tt,tt,tt,ff,ff,ff,ff,ff,ff] rfl rfl (take_ofW HT_.out HW_.out (by kernel_rfl)) (fun _ _ _ h => h) (Or.inl ⟨by rfl,?_⟩) hHeld ?_ ?_
   rotate_left
   ·rintro w' s0
    have k1:=keep_cell s0 cp
    have k2:=keep_cell s0 cq
    have k3:=keep_cell s0 A0
    have k4:=keep_cell s0 B0
    go_simp
    with_reducible rfl
   rotate_left
   ·simp only [Act.put,sA,sZ,sS,i64_w,i32_w]
    rfl
   refine pure_ (i:=6) (N:=some 60) (v:=?_) (a':=?_) #[tt,tt,tt,tt,tt,tt,tt,ff,ff,ff,ff,ff] rfl rfl (any_of HT_.out (by kernel_rfl)) (fun _ _ _ h => h) (Or.inl ⟨by rfl,?_⟩) ?_ ?_
   rotate_left
   ·intro w'
    go_simp
    with_reducible rfl
   rotate_left
   ·simp only [Act.put,sA,sZ,sS,i64_w,i32_w]
    rfl
   refine pure_ (i:=7) (N:=some 61) (v:=?_) (a':=?_) #[tt,tt,tt,tt,tt,tt,tt,tt,ff,ff,ff,ff] rfl rfl (any_of HT_.out (by kernel_rfl)) (fun _ _ _ h => h) (Or.inl ⟨by rfl,?_⟩) ?_ ?_
   rotate_left
   ·intro w'
    go_simp
    with_reducible rfl
   rotate_left
   ·simp only [Act.put,sA,sZ,sS,i64_w,i32_w]
    rfl
   refine take_ (i:=8) (N:=some 62) (v:=?_) (a':=?_) #[tt,tt,tt,tt,tt,tt,tt,tt,tt,ff,ff,ff] rfl rfl (take_ofW HT_.out HW_.out (by kernel_rfl)) (fun _ _ _ h => h) (Or.inl ⟨by rfl,?_⟩) hHeld ?_ ?_
   rotate_left
   ·rintro w' s0
    have k1:=keep_cell s0 cp
    have k2:=keep_cell s0 cq
    have k3:=keep_cell s0 A0
    have k4:=keep_cell s0 B0
    go_simp
    with_reducible rfl
   rotate_left
   ·simp only [Act.put,sA,sZ,sS,i64_w,i32_w]
    rfl
   refine pure_ (i:=9) (N:=some 63) (v:=?_) (a':=?_) #[tt,tt,tt,tt,tt,tt,tt,tt,tt,tt,ff,ff] rfl rfl (any_of HT_.out (by kernel_rfl)) (fun _ _ _ h => h) (Or.inl ⟨by rfl,?_⟩) ?_ ?_
   rotate_left
   ·intro w'
    go_simp
    with_reducible rfl
   rotate_left
   ·simp only [Act.put,sA,sZ,sS,i64_w,i32_w]
    rfl
   refine pure_ (i:=10) (N:=some 64) (v:=?_) (a':=?_) #[tt,tt,tt,tt,tt,tt,tt,tt,tt,tt,tt,ff] rfl rfl (any_of HT_.out (by kernel_rfl)) (fun _ _ _ h => h) (Or.inl ⟨by rfl,?_⟩) ?_ ?_
   rotate_left
   ·intro w'
    go_simp
    with_reducible rfl
   rotate_left
   ·simp only [Act.put,sA,sZ,sS,i64_w,i32_w]
    rfl
   refine pure_ (i:=11) (N:=some 53) (v:=?_) (a':=?_) #[tt,tt,tt,tt,tt,tt,tt,tt,tt,tt,tt,tt] rfl rfl (any_of HT_.out (by kernel_rfl)) (fun _ _ _ h => h) (Or.inl ⟨by rfl,?_⟩) ?_ ?_
   rotate_left
   ·intro w'
    go_simp
    with_reducible rfl
   rotate_left
   ·simp only [Act.put,sA,sZ,sS,i64_w,i32_w]
    rfl
   refine done_ (done_of HT_.out (by kernel_rfl)) ?_
   have hB6 : Below W1.heap.size W1 w5.drew:=Below.drew hB5
   have q1:=keep_cell hB6 cp
   have q2:=keep_cell hB6 cq
   generalize w5.drew = w6 at q1 q2 hB6 ⊢
   by_cases h3 : na ≤ nb
   ·have d3 : decide (na ≤ nb) = true:=decide_eq_true h3
    have d4 : decide ((na : Int) ≤ nb) = true:=decide_eq_true (by omega)
    rw [d4] at HH
    subst HH
    go_wp2
    refine bodyPost_ret (v:=.pointer (some ⟨gA,0,none⟩)) (by simp [results,Try.results54,go_sem, *]) rfl ⟨rfl,?_⟩
    exact below_keepN hb0 hB6
   ·have d3 : decide (na ≤ nb) = false:=decide_eq_false h3
    have d4 : decide ((na : Int) ≤ nb) = false:=decide_eq_false (by omega)
    rw [d4] at HH
    subst HH
    go_wp2
    refine bodyPost_ret (v:=.pointer (some ⟨gB,0,none⟩)) (by simp [results,Try.results54,go_sem, *]) rfl ⟨rfl,?_⟩
    exact below_keepN hb0 hB6
  ·rw [if_pos rfl] at HH
   injection HH with HH
   subst HH
   have k1:=keep_cell hB5 cq
   go_wp2
   refine bodyPost_ret (v:=.pointer (some ⟨gB,0,none⟩)) (by simp [results,Try.results54,go_sem, *]) rfl ⟨rfl,?_⟩
   exact below_keepN hb0 hB5
 ·rw [if_pos rfl] at HH
  injection HH with HH
  subst HH
  have k1:=keep_cell hB4 cp
  go_wp2
  refine bodyPost_ret (v:=.pointer (some ⟨gA,0,none⟩)) (by simp [results,Try.results54,go_sem, *]) rfl ⟨rfl,?_⟩
  exact below_keepN hb0 hB4
end Go.Proofs.Ythlhmijgbjcloaa.A
