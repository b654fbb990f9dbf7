/- What the row of this claim reaches. No condition. -/
import Derived.Laws.BytesArg
import Derived.WalkKit
import Derived.Test.YthlhmijgbjcloaaGPartRel
import Derived.Test.YthlhmijgbjcloaaGX3
set_option linter.unusedVariables false
set_option linter.unusedSimpArgs false
namespace Go.Proofs.Ythlhmijgbjcloaa.A
open Go.RowKit Go.Proofs.YthlhmijgbjcloaaW.PrintWords Go.Proofs.YthlhmijgbjcloaaW.PrintLast Go.Proofs.YthlhmijgbjcloaaW.PrintMore
def putF (a : Side) (i : Int) (x : S35) : Option Side := if a.1.length < 900 then (key_Union.f a.2.1 a.2.2.1 a.2.2.2.1 a.2.2.2.2 x.f0 x.f1 x.f2 x.f3).bind fun u => some (a.1 ++ [i], u.1, u.2.1, u.2.2.1, u.2.2.2) else none
def partL (i j least : Int) : List S35 → Int → Int → Side → Side → Option (Side × Side)
  | [], _, _, a, b => some (a, b)
  | x :: xs, n, left, a, b =>
    if n = i ∨ n = j then partL i j least xs (n + 1) left a b else
    if -900 ≤ left then
      (chooseF (a.1.length : Int) (b.1.length : Int) left least a.2.1 a.2.2.1 a.2.2.2.1 a.2.2.2.2 b.2.1 b.2.2.1 b.2.2.2.1 b.2.2.2.2 x.f0 x.f1 x.f2 x.f3).bind fun c =>
        if c = true then (putF a n x).bind fun a' => partL i j least xs (n + 1) (left - 1) a' b else (putF b n x).bind fun b' => partL i j least xs (n + 1) (left - 1) a b'
    else none
def sideOf (l : List S35) (i : Int) : Side := ([i], (rd_T35 l i).f0, (rd_T35 l i).f1, (rd_T35 l i).f2, (rd_T35 l i).f3)
def key_Part.f (k : Nat) (l : List S35) : Option (List Int × List Int × Int) :=
  if (l.length : Int) > 64 then some ([], [], 3) else
  (key_Bound.f k l).bind fun d => if ¬ d.2.2.2.2 = 0 then some ([], [], 2) else if (l.length : Int) < 2 then some ([], [], 2) else
  (key_seeds.f k l).bind fun s => if 0 ≤ s.1 ∧ s.1 < l.length ∧ 0 ≤ s.2 ∧ s.2 < l.length then
    (partL s.1 s.2 (max (2 * (l.length : Int) / 5) 1) l 0 ((l.length : Int) - 2) (sideOf l s.1) (sideOf l s.2)).bind fun ab =>
      (key_sorted.f k ab.1.1).bind fun p => (key_sorted.f k ab.2.1).bind fun q => some (p, q, 0)
  else none
def r33.T7 : Bool × List (List Nat × List Nat) := (true, [([], []), ([0], [0]), ([], []), ([], []), ([2, 3], [2, 3]), ([4], [4]), ([1, 5], [1, 5]), ([6], [6]), ([], []), ([8], [8]), ([], []), ([], []), ([10, 11], [10, 11]), ([12], [12]), ([9, 13], [9, 13]), ([14], [14]), ([], []), ([], []), ([16, 7, 0, 1, 2, 3, 4, 5, 6, 7, 16, 17], [7, 16]), ([17, 15, 18, 0, 1, 2, 3, 4, 5, 6, 7, 8, 9, 10, 11, 12, 13, 14, 15, 16, 17, 18], [15, 17])])
def r33.B7 : List Nat := [0, 1, 0, 0, 12, 28, 63, 127, 0, 256, 0, 0, 3072, 7168, 16128, 32512, 0, 0, 196863, 524287]
theorem r33.tab7 : rtab .any (opsOf Try.f33 7) = r33.T7 := by kernel_rfl
theorem r33.bits7 : waitsOk r33.T7.2 r33.B7 = true := by kernel_rfl
def r33.T15 : Bool × List (List Nat × List Nat) := (true, [([], []), ([], []), ([0, 1], [0, 1]), ([], []), ([], []), ([2, 3, 4, 2], [2, 3, 4])])
def r33.B15 : List Nat := [0, 0, 3, 0, 0, 31]
theorem r33.tab15 : rtab .any (opsOf Try.f33 15) = r33.T15 := by kernel_rfl
theorem r33.bits15 : waitsOk r33.T15.2 r33.B15 = true := by kernel_rfl
def r33.T18 : Bool × List (List Nat × List Nat) := (true, [([], []), ([0], [0]), ([1], [1]), ([2], [2]), ([3], [3]), ([], []), ([5], [5]), ([6], [6]), ([7], [7]), ([8, 4], [8]), ([4, 9, 0, 1, 2, 3, 4], [4]), ([9, 10, 0, 1, 2, 3, 4, 5, 6, 7, 8, 9, 10], [9]), ([11, 0, 1, 2, 3, 4, 5, 6, 7, 8, 9, 10, 11], [])])
def r33.B18 : List Nat := [0, 1, 3, 7, 15, 0, 32, 96, 224, 511, 1023, 2047, 4095]
theorem r33.tab18 : rtab .any (opsOf Try.f33 18) = r33.T18 := by kernel_rfl
theorem r33.bits18 : waitsOk r33.T18.2 r33.B18 = true := by kernel_rfl
set_option maxHeartbeats 8000000 in
set_option maxRecDepth 100000 in
theorem key_Part_any (k : Nat) (A0 : Option Addr) (c0 : Nat) (l0 : List S35) (r1 : List Int) (r2 : List Int) (r3 : Int) (w : World) (hr0 : Kd.C k35 w A0 l0.length l0) (hc0 : l0.length ≤ c0) (h : key_Part.f k l0 = some (r1,r2,r3)) :
  Calls Try.prog 33 #[.slice A0 l0.length c0] w fun e w' => ∃ v0_ v1_ : Value,e = .returned (.tuple #[v0_,v1_,.int .i64 r3])∧Kd.R (Kd.int .i64) 3 w' w.heap.size (fun k_ => some k_ ≠ (v1_ : Value).ownBlock) v0_ r1∧Kd.R (Kd.int .i64) 3 w' w.heap.size (fun k_ => some k_ ≠ (v0_ : Value).ownBlock) v1_ r2∧Below w.heap.size w w':=by
 unfold key_Part.f at h
 by_cases h1 : (l0.length : Int) > 64
 ·rw [if_pos h1] at h
  injection h with h
  injection h with e1 h
  injection h with e2 e3
  subst e1 e2 e3
  have d1 : decide (64 < (l0.length : Int)) = true:=decide_eq_true h1
  have d2 : decide (64 < l0.length) = true:=decide_eq_true (by omega)
  go_enter Try.func33,Try.ntmps33
  go_wp2
  refine bodyPost_ret (v:=.tuple #[.slice none 0 0,.slice none 0 0,.int .i64 3]) (by simp [results,Try.results33,go_sem, *]) rfl ⟨.slice none 0 0,.slice none 0 0,rfl,Kd.R_nil _ _ _ _ _,Kd.R_nil _ _ _ _ _,Below.refl _ _⟩
 rw [if_neg h1] at h
 have d1 : decide (64 < (l0.length : Int)) = false:=decide_eq_false h1
 have d2 : decide (64 < l0.length) = false:=decide_eq_false (by omega)
 obtain ⟨⟨y0,y1,y2,y3,e0⟩,hb,h⟩:=Option.bind_eq_some_iff.1 h
 have HBo:=Lib.hid (fun (W : World) (hr : Kd.C k35 W A0 l0.length l0) => key_Bound.calls k A0 c0 l0 y0 y1 y2 y3 e0 W hr hc0 hb)
 have HC:=Lib.hid hr0
 clear hb
 simp only at h
 by_cases he : ¬ e0 = 0
 ·rw [if_pos he] at h
  injection h with h
  injection h with e1 h
  injection h with e2 e3
  subst e1 e2 e3
  have f1 : (e0 != 0) = true:=bne_iff_ne.mpr he
  have f2 : (e0 == 0) = false:=beq_eq_false_iff_ne.mpr he
  go_enter Try.func33,Try.ntmps33
  go_wp2_with (go_at_call 52;(with_reducible refine (HBo.out _ HC.out).mono ?_);rintro e w1 ⟨rfl,hb1⟩)
  refine bodyPost_ret (v:=.tuple #[.slice none 0 0,.slice none 0 0,.int .i64 2]) (by simp [results,Try.results33,go_sem, *]) rfl ⟨.slice none 0 0,.slice none 0 0,rfl,Kd.R_nil _ _ _ _ _,Kd.R_nil _ _ _ _ _,?_⟩
  exact keep_below_alloc _ hb1
 rw [if_neg he] at h
 have he0 : e0 = 0:=by simpa using he
 subst he0
 clear he
 by_cases h2 : (l0.length : Int) < 2
 ·rw [if_pos h2] at h
  injection h with h
  injection h with e1 h
  injection h with e2 e3
  subst e1 e2 e3
  have f1 : decide ((l0.length : Int) < 2) = true:=decide_eq_true h2
  have f2 : decide (l0.length < 2) = true:=decide_eq_true (by omega)
  go_enter Try.func33,Try.ntmps33
  go_wp2_with (go_at_call 52;(with_reducible refine (HBo.out _ HC.out).mono ?_);rintro e w1 ⟨rfl,hb1⟩)
  refine bodyPost_ret (v:=.tuple #[.slice none 0 0,.slice none 0 0,.int .i64 2]) (by simp [results,Try.results33,go_sem, *]) rfl ⟨.slice none 0 0,.slice none 0 0,rfl,Kd.R_nil _ _ _ _ _,Kd.R_nil _ _ _ _ _,?_⟩
  exact keep_below_alloc _ hb1
 rw [if_neg h2] at h
 have f1 : decide ((l0.length : Int) < 2) = false:=decide_eq_false h2
 have f2 : decide (l0.length < 2) = false:=decide_eq_false (by omega)
 obtain ⟨⟨si,sj⟩,hs,h⟩:=Option.bind_eq_some_iff.1 h
 have HS:=Lib.hid (fun (W : World) (hr : Kd.C k35 W A0 l0.length l0) => key_seeds.calls k A0 c0 l0 si sj W hr hc0 hs)
 clear hs
 simp only at h
 by_cases hij : 0 ≤ si∧si < l0.length∧0 ≤ sj∧sj < l0.length
 case neg => rw [if_neg hij] at h;cases h
 rw [if_pos hij] at h
 obtain ⟨i0,i1,j0,j1⟩:=hij
 have H:=Lib.hid h
 clear h
 go_enter Try.func33,Try.ntmps33
 go_wp2_with (first
  | (go_at_call 52;(with_reducible refine (HBo.out _ HC.out).mono ?_);rintro e w1 ⟨rfl,hb1⟩)
  | (go_at_call 53;(with_reducible refine (HS.out _ (Kd.C_alloc (Kd.C_below HC.out hb1) _)).mono ?_);rintro e w2 ⟨rfl,hb2⟩))
 have hB : Below w.heap.size w w2:=keep_below (keep_below_alloc _ hb1) hb2
 have hC:=Kd.C_below HC.out hB
 clear HBo HS HC hb1 hb2 d1 d2 f1 f2
 obtain ⟨ad,rfl,x0,x1,x2,x3⟩:=at_T35 hC si i0 i1
 obtain ⟨ad_,e_,y0',y1',y2',y3'⟩:=at_T35 hC sj j0 j1
 injection e_ with e_
 subst e_
 have p0 : (0 ≤ si) = True:=eq_true i0
 have p1 : (si < (l0.length : Int)) = True:=eq_true i1
 have q0 : (0 ≤ sj) = True:=eq_true j0
 have q1 : (sj < (l0.length : Int)) = True:=eq_true j1
 refine start_ (n:=20) (S:=(fun w' => Below w2.heap.size w2 w')) (ds:=[19]) #[ff,ff,ff,ff,ff,ff,ff,ff,ff,ff,ff,ff,ff,ff,ff,ff,ff,ff,ff,ff] (by kernel_rfl) rfl rfl (Below.drew (Below.refl _ _)) (fun hHeld => ?_)
 refine with_tabW r33.tab7 r33.bits7 (fun HT_ HW_ => ?_)
 refine pure_ (i:=0) (N:=some 36) (v:=?_) (a':=?_) #[tt,ff,ff,ff,ff,ff,ff,ff,ff,ff,ff,ff,ff,ff,ff,ff,ff,ff,ff,ff] rfl rfl (any_of HT_.out (by kernel_rfl)) (fun _ _ _ h => h) (Or.inl ⟨by rfl,?_⟩) ?_ ?_
 rotate_left
 ·intro w'
  go_simp
  with_reducible rfl
 rotate_left
 ·simp only [Act.put,sA,sZ,sS,i64_w,i32_w]
  rfl
 refine pure_ (i:=2) (N:=some 38) (v:=?_) (a':=?_) #[tt,ff,tt,ff,ff,ff,ff,ff,ff,ff,ff,ff,ff,ff,ff,ff,ff,ff,ff,ff] rfl rfl (any_of HT_.out (by kernel_rfl)) (fun _ _ _ h => h) (Or.inl ⟨by rfl,?_⟩) ?_ ?_
 rotate_left
 ·intro w'
  go_simp
  with_reducible rfl
 rotate_left
 ·simp only [Act.put,sA,sZ,sS,i64_w,i32_w]
  rfl
 refine pure_ (i:=3) (N:=some 39) (v:=?_) (a':=?_) #[tt,ff,tt,tt,ff,ff,ff,ff,ff,ff,ff,ff,ff,ff,ff,ff,ff,ff,ff,ff] rfl rfl (any_of HT_.out (by kernel_rfl)) (fun _ _ _ h => h) (Or.inl ⟨by rfl,?_⟩) ?_ ?_
 rotate_left
 ·intro w'
  go_simp
  with_reducible rfl
 rotate_left
 ·simp only [Act.put,sA,sZ,sS,i64_w,i32_w]
  rfl
 refine pure_ (i:=4) (N:=some 40) (v:=?_) (a':=?_) #[tt,ff,tt,tt,tt,ff,ff,ff,ff,ff,ff,ff,ff,ff,ff,ff,ff,ff,ff,ff] rfl rfl (any_of HT_.out (by kernel_rfl)) (fun _ _ _ h => h) (Or.inl ⟨by rfl,?_⟩) ?_ ?_
 rotate_left
 ·intro w'
  go_simp
  with_reducible rfl
 rotate_left
 ·simp only [Act.put,sA,sZ,sS,i64_w,i32_w]
  rfl
 refine take_ (i:=5) (N:=some 41) (v:=?_) (a':=?_) #[tt,ff,tt,tt,tt,tt,ff,ff,ff,ff,ff,ff,ff,ff,ff,ff,ff,ff,ff,ff] rfl rfl (take_ofW HT_.out HW_.out (by kernel_rfl)) (fun _ _ _ h => h) (Or.inl ⟨by rfl,?_⟩) hHeld ?_ ?_
 rotate_left
 ·rintro w' s0
  have k0:=(s0.cell (World.block_lt_of_cell? _ _ x0)).trans x0
  have k1:=(s0.cell (World.block_lt_of_cell? _ _ x1)).trans x1
  have k2:=(s0.cell (World.block_lt_of_cell? _ _ x2)).trans x2
  have k3:=(s0.cell (World.block_lt_of_cell? _ _ x3)).trans x3
  have k4:=(s0.cell (World.block_lt_of_cell? _ _ y0')).trans y0'
  have k5:=(s0.cell (World.block_lt_of_cell? _ _ y1')).trans y1'
  have k6:=(s0.cell (World.block_lt_of_cell? _ _ y2')).trans y2'
  have k7:=(s0.cell (World.block_lt_of_cell? _ _ y3')).trans y3'
  go_simp
  with_reducible rfl
 rotate_left
 ·simp only [Act.put,sA,sZ,sS,i64_w,i32_w]
  rfl
 refine pure_ (i:=8) (N:=some 44) (v:=?_) (a':=?_) #[tt,ff,tt,tt,tt,tt,ff,ff,tt,ff,ff,ff,ff,ff,ff,ff,ff,ff,ff,ff] rfl rfl (any_of HT_.out (by kernel_rfl)) (fun _ _ _ h => h) (Or.inl ⟨by rfl,?_⟩) ?_ ?_
 rotate_left
 ·intro w'
  go_simp
  with_reducible rfl
 rotate_left
 ·simp only [Act.put,sA,sZ,sS,i64_w,i32_w]
  rfl
 refine pure_ (i:=10) (N:=some 46) (v:=?_) (a':=?_) #[tt,ff,tt,tt,tt,tt,ff,ff,tt,ff,tt,ff,ff,ff,ff,ff,ff,ff,ff,ff] rfl rfl (any_of HT_.out (by kernel_rfl)) (fun _ _ _ h => h) (Or.inl ⟨by rfl,?_⟩) ?_ ?_
 rotate_left
 ·intro w'
  go_simp
  with_reducible rfl
 rotate_left
 ·simp only [Act.put,sA,sZ,sS,i64_w,i32_w]
  rfl
 refine pure_ (i:=11) (N:=some 47) (v:=?_) (a':=?_) #[tt,ff,tt,tt,tt,tt,ff,ff,tt,ff,tt,tt,ff,ff,ff,ff,ff,ff,ff,ff] rfl rfl (any_of HT_.out (by kernel_rfl)) (fun _ _ _ h => h) (Or.inl ⟨by rfl,?_⟩) ?_ ?_
 rotate_left
 ·intro w'
  go_simp
  with_reducible rfl
 rotate_left
 ·simp only [Act.put,sA,sZ,sS,i64_w,i32_w]
  rfl
 refine pure_ (i:=12) (N:=some 48) (v:=?_) (a':=?_) #[tt,ff,tt,tt,tt,tt,ff,ff,tt,ff,tt,tt,tt,ff,ff,ff,ff,ff,ff,ff] rfl rfl (any_of HT_.out (by kernel_rfl)) (fun _ _ _ h => h) (Or.inl ⟨by rfl,?_⟩) ?_ ?_
 rotate_left
 ·intro w'
  go_simp
  with_reducible rfl
 rotate_left
 ·simp only [Act.put,sA,sZ,sS,i64_w,i32_w]
  rfl
 refine take_ (i:=13) (N:=some 49) (v:=?_) (a':=?_) #[tt,ff,tt,tt,tt,tt,ff,ff,tt,ff,tt,tt,tt,tt,ff,ff,ff,ff,ff,ff] rfl rfl (take_ofW HT_.out HW_.out (by kernel_rfl)) (fun _ _ _ h => h) (Or.inl ⟨by rfl,?_⟩) hHeld ?_ ?_
 rotate_left
 ·rintro w' s0
  have k0:=(s0.cell (World.block_lt_of_cell? _ _ x0)).trans x0
  have k1:=(s0.cell (World.block_lt_of_cell? _ _ x1)).trans x1
  have k2:=(s0.cell (World.block_lt_of_cell? _ _ x2)).trans x2
  have k3:=(s0.cell (World.block_lt_of_cell? _ _ x3)).trans x3
  have k4:=(s0.cell (World.block_lt_of_cell? _ _ y0')).trans y0'
  have k5:=(s0.cell (World.block_lt_of_cell? _ _ y1')).trans y1'
  have k6:=(s0.cell (World.block_lt_of_cell? _ _ y2')).trans y2'
  have k7:=(s0.cell (World.block_lt_of_cell? _ _ y3')).trans y3'
  go_simp
  with_reducible rfl
 rotate_left
 ·simp only [Act.put,sA,sZ,sS,i64_w,i32_w]
  rfl
 refine join_ (σ:=Nat × Nat × Nat × Nat × Nat × Nat) 1 #[tt,tt,tt,tt,tt,tt,tt,tt,tt,tt,tt,tt,tt,tt,tt,tt,tt,tt,tt,ff] (fun s_ => [(37,(.slice (some ⟨s_.1,0,none⟩) 1 1)),(42,(.agg #[.slice (some ⟨s_.1,0,none⟩) 1 1,.int .i64 (rd_T35 l0 si).f0,.int .i64 (rd_T35 l0 si).f1,.int .i64 (rd_T35 l0 si).f2,.int .i64 (rd_T35 l0 si).f3])),(43,(.pointer (some ⟨s_.2.1,0,none⟩))),(45,(.slice (some ⟨s_.2.2.1,0,none⟩) 1 1)),(50,(.agg #[.slice (some ⟨s_.2.2.1,0,none⟩) 1 1,.int .i64 (rd_T35 l0 sj).f0,.int .i64 (rd_T35 l0 sj).f1,.int .i64 (rd_T35 l0 sj).f2,.int .i64 (rd_T35 l0 sj).f3])),(51,(.pointer (some ⟨s_.2.2.2.1,0,none⟩))),(9,(.pointer (some ⟨s_.2.2.2.2.1,0,none⟩))),(10,(.pointer (some ⟨s_.2.2.2.2.2,0,none⟩)))]) (fun s_ w' => Below w2.heap.size w2 w'∧Blk w' s_.1 3 #[.int .i64 si]∧w2.heap.size ≤ s_.1∧Blk w' s_.2.1 74 #[.slice (some ⟨s_.1,0,none⟩) 1 1,.int .i64 (rd_T35 l0 si).f0,.int .i64 (rd_T35 l0 si).f1,.int .i64 (rd_T35 l0 si).f2,.int .i64 (rd_T35 l0 si).f3]∧w2.heap.size ≤ s_.2.1∧Blk w' s_.2.2.1 3 #[.int .i64 sj]∧w2.heap.size ≤ s_.2.2.1∧Blk w' s_.2.2.2.1 74 #[.slice (some ⟨s_.2.2.1,0,none⟩) 1 1,.int .i64 (rd_T35 l0 sj).f0,.int .i64 (rd_T35 l0 sj).f1,.int .i64 (rd_T35 l0 sj).f2,.int .i64 (rd_T35 l0 sj).f3]∧w2.heap.size ≤ s_.2.2.2.1∧Blk w' s_.2.2.2.2.1 72 #[.pointer (some ⟨s_.2.1,0,none⟩)]∧w2.heap.size ≤ s_.2.2.2.2.1∧Blk w' s_.2.2.2.2.2 72 #[.pointer none]∧w2.heap.size ≤ s_.2.2.2.2.2∧s_.1 ≠ s_.2.2.1∧s_.2.1 ≠ s_.2.2.2.1∧s_.2.2.2.2.1 ≠ s_.2.2.2.2.2) ?_ (fun hJ_1_7_9_15_16_17_18 => ?_)
 rotate_left
 refine join_ (σ:=Nat × Nat × Nat × Nat × Nat × Nat) 2 #[tt,tt,tt,tt,tt,tt,tt,tt,tt,tt,tt,tt,tt,tt,tt,tt,tt,tt,ff,ff] (fun s_ => [(37,(.slice (some ⟨s_.1,0,none⟩) 1 1)),(42,(.agg #[.slice (some ⟨s_.1,0,none⟩) 1 1,.int .i64 (rd_T35 l0 si).f0,.int .i64 (rd_T35 l0 si).f1,.int .i64 (rd_T35 l0 si).f2,.int .i64 (rd_T35 l0 si).f3])),(43,(.pointer (some ⟨s_.2.1,0,none⟩))),(45,(.slice (some ⟨s_.2.2.1,0,none⟩) 1 1)),(50,(.agg #[.slice (some ⟨s_.2.2.1,0,none⟩) 1 1,.int .i64 (rd_T35 l0 sj).f0,.int .i64 (rd_T35 l0 sj).f1,.int .i64 (rd_T35 l0 sj).f2,.int .i64 (rd_T35 l0 sj).f3])),(51,(.pointer (some ⟨s_.2.2.2.1,0,none⟩))),(9,(.pointer (some ⟨s_.2.2.2.2.1,0,none⟩))),(10,(.pointer (some ⟨s_.2.2.2.2.2,0,none⟩)))]) (fun s_ w' => Below w2.heap.size w2 w'∧Blk w' s_.1 3 #[.int .i64 si]∧w2.heap.size ≤ s_.1∧Blk w' s_.2.1 74 #[.slice (some ⟨s_.1,0,none⟩) 1 1,.int .i64 (rd_T35 l0 si).f0,.int .i64 (rd_T35 l0 si).f1,.int .i64 (rd_T35 l0 si).f2,.int .i64 (rd_T35 l0 si).f3]∧w2.heap.size ≤ s_.2.1∧Blk w' s_.2.2.1 3 #[.int .i64 sj]∧w2.heap.size ≤ s_.2.2.1∧Blk w' s_.2.2.2.1 74 #[.slice (some ⟨s_.2.2.1,0,none⟩) 1 1,.int .i64 (rd_T35 l0 sj).f0,.int .i64 (rd_T35 l0 sj).f1,.int .i64 (rd_T35 l0 sj).f2,.int .i64 (rd_T35 l0 sj).f3]∧w2.heap.size ≤ s_.2.2.2.1∧Blk w' s_.2.2.2.2.1 72 #[.pointer none]∧w2.heap.size ≤ s_.2.2.2.2.1∧Blk w' s_.2.2.2.2.2 72 #[.pointer none]∧w2.heap.size ≤ s_.2.2.2.2.2∧s_.1 ≠ s_.2.2.1∧s_.2.1 ≠ s_.2.2.2.1∧s_.2.2.2.2.1 ≠ s_.2.2.2.2.2) ?_ (fun hJ_1_7_9_15_16_17 => ?_)
 rotate_left
 refine join_ (σ:=Nat × Nat × Nat × Nat × Nat) 2 #[tt,tt,tt,tt,tt,tt,tt,tt,tt,tt,tt,tt,tt,tt,tt,ff,tt,tt,tt,ff] (fun s_ => [(37,(.slice (some ⟨s_.1,0,none⟩) 1 1)),(42,(.agg #[.slice (some ⟨s_.1,0,none⟩) 1 1,.int .i64 (rd_T35 l0 si).f0,.int .i64 (rd_T35 l0 si).f1,.int .i64 (rd_T35 l0 si).f2,.int .i64 (rd_T35 l0 si).f3])),(43,(.pointer (some ⟨s_.2.1,0,none⟩))),(45,(.slice (some ⟨s_.2.2.1,0,none⟩) 1 1)),(50,(.agg #[.slice (some ⟨s_.2.2.1,0,none⟩) 1 1,.int .i64 (rd_T35 l0 sj).f0,.int .i64 (rd_T35 l0 sj).f1,.int .i64 (rd_T35 l0 sj).f2,.int .i64 (rd_T35 l0 sj).f3])),(9,(.pointer (some ⟨s_.2.2.2.1,0,none⟩))),(10,(.pointer (some ⟨s_.2.2.2.2,0,none⟩)))]) (fun s_ w' => Below w2.heap.size w2 w'∧Blk w' s_.1 3 #[.int .i64 si]∧w2.heap.size ≤ s_.1∧Blk w' s_.2.1 74 #[.slice (some ⟨s_.1,0,none⟩) 1 1,.int .i64 (rd_T35 l0 si).f0,.int .i64 (rd_T35 l0 si).f1,.int .i64 (rd_T35 l0 si).f2,.int .i64 (rd_T35 l0 si).f3]∧w2.heap.size ≤ s_.2.1∧Blk w' s_.2.2.1 3 #[.int .i64 sj]∧w2.heap.size ≤ s_.2.2.1∧Blk w' s_.2.2.2.1 72 #[.pointer (some ⟨s_.2.1,0,none⟩)]∧w2.heap.size ≤ s_.2.2.2.1∧Blk w' s_.2.2.2.2 72 #[.pointer none]∧w2.heap.size ≤ s_.2.2.2.2∧s_.1 ≠ s_.2.2.1∧s_.2.2.2.1 ≠ s_.2.2.2.2) ?_ (fun hJ_1_7_9_16_17_18 => ?_)
 rotate_left
 refine join_ (σ:=Nat × Nat × Nat × Nat × Nat) 3 #[tt,tt,tt,tt,tt,tt,tt,tt,tt,tt,tt,tt,tt,tt,tt,tt,tt,ff,ff,ff] (fun s_ => [(37,(.slice (some ⟨s_.1,0,none⟩) 1 1)),(42,(.agg #[.slice (some ⟨s_.1,0,none⟩) 1 1,.int .i64 (rd_T35 l0 si).f0,.int .i64 (rd_T35 l0 si).f1,.int .i64 (rd_T35 l0 si).f2,.int .i64 (rd_T35 l0 si).f3])),(43,(.pointer (some ⟨s_.2.1,0,none⟩))),(45,(.slice (some ⟨s_.2.2.1,0,none⟩) 1 1)),(50,(.agg #[.slice (some ⟨s_.2.2.1,0,none⟩) 1 1,.int .i64 (rd_T35 l0 sj).f0,.int .i64 (rd_T35 l0 sj).f1,.int .i64 (rd_T35 l0 sj).f2,.int .i64 (rd_T35 l0 sj).f3])),(51,(.pointer (some ⟨s_.2.2.2.1,0,none⟩))),(9,(.pointer (some ⟨s_.2.2.2.2,0,none⟩)))]) (fun s_ w' => Below w2.heap.size w2 w'∧Blk w' s_.1 3 #[.int .i64 si]∧w2.heap.size ≤ s_.1∧Blk w' s_.2.1 74 #[.slice (some ⟨s_.1,0,none⟩) 1 1,.int .i64 (rd_T35 l0 si).f0,.int .i64 (rd_T35 l0 si).f1,.int .i64 (rd_T35 l0 si).f2,.int .i64 (rd_T35 l0 si).f3]∧w2.heap.size ≤ s_.2.1∧Blk w' s_.2.2.1 3 #[.int .i64 sj]∧w2.heap.size ≤ s_.2.2.1∧Blk w' s_.2.2.2.1 74 #[.slice (some ⟨s_.2.2.1,0,none⟩) 1 1,.int .i64 (rd_T35 l0 sj).f0,.int .i64 (rd_T35 l0 sj).f1,.int .i64 (rd_T35 l0 sj).f2,.int .i64 (rd_T35 l0 sj).f3]∧w2.heap.size ≤ s_.2.2.2.1∧Blk w' s_.2.2.2.2 72 #[.pointer none]∧w2.heap.size ≤ s_.2.2.2.2∧s_.1 ≠ s_.2.2.1∧s_.2.1 ≠ s_.2.2.2.1) ?_ (fun hJ_1_7_9_15_16 => ?_)
 rotate_left
 refine join_ (σ:=Nat × Nat × Nat × Nat × Nat) 3 #[tt,tt,tt,tt,tt,tt,tt,tt,tt,tt,tt,tt,tt,tt,tt,tt,ff,tt,ff,ff] (fun s_ => [(37,(.slice (some ⟨s_.1,0,none⟩) 1 1)),(42,(.agg #[.slice (some ⟨s_.1,0,none⟩) 1 1,.int .i64 (rd_T35 l0 si).f0,.int .i64 (rd_T35 l0 si).f1,.int .i64 (rd_T35 l0 si).f2,.int .i64 (rd_T35 l0 si).f3])),(43,(.pointer (some ⟨s_.2.1,0,none⟩))),(45,(.slice (some ⟨s_.2.2.1,0,none⟩) 1 1)),(50,(.agg #[.slice (some ⟨s_.2.2.1,0,none⟩) 1 1,.int .i64 (rd_T35 l0 sj).f0,.int .i64 (rd_T35 l0 sj).f1,.int .i64 (rd_T35 l0 sj).f2,.int .i64 (rd_T35 l0 sj).f3])),(51,(.pointer (some ⟨s_.2.2.2.1,0,none⟩))),(10,(.pointer (some ⟨s_.2.2.2.2,0,none⟩)))]) (fun s_ w' => Below w2.heap.size w2 w'∧Blk w' s_.1 3 #[.int .i64 si]∧w2.heap.size ≤ s_.1∧Blk w' s_.2.1 74 #[.slice (some ⟨s_.1,0,none⟩) 1 1,.int .i64 (rd_T35 l0 si).f0,.int .i64 (rd_T35 l0 si).f1,.int .i64 (rd_T35 l0 si).f2,.int .i64 (rd_T35 l0 si).f3]∧w2.heap.size ≤ s_.2.1∧Blk w' s_.2.2.1 3 #[.int .i64 sj]∧w2.heap.size ≤ s_.2.2.1∧Blk w' s_.2.2.2.1 74 #[.slice (some ⟨s_.2.2.1,0,none⟩) 1 1,.int .i64 (rd_T35 l0 sj).f0,.int .i64 (rd_T35 l0 sj).f1,.int .i64 (rd_T35 l0 sj).f2,.int .i64 (rd_T35 l0 sj).f3]∧w2.heap.size ≤ s_.2.2.2.1∧Blk w' s_.2.2.2.2 72 #[.pointer none]∧w2.heap.size ≤ s_.2.2.2.2∧s_.1 ≠ s_.2.2.1∧s_.2.1 ≠ s_.2.2.2.1) ?_ (fun hJ_1_7_9_15_17 => ?_)
 rotate_left
 refine join_ (σ:=Nat × Nat × Nat × Nat × Nat) 3 #[tt,tt,tt,tt,tt,tt,tt,tt,tt,tt,tt,tt,tt,tt,tt,ff,tt,tt,ff,ff] (fun s_ => [(37,(.slice (some ⟨s_.1,0,none⟩) 1 1)),(42,(.agg #[.slice (some ⟨s_.1,0,none⟩) 1 1,.int .i64 (rd_T35 l0 si).f0,.int .i64 (rd_T35 l0 si).f1,.int .i64 (rd_T35 l0 si).f2,.int .i64 (rd_T35 l0 si).f3])),(43,(.pointer (some ⟨s_.2.1,0,none⟩))),(45,(.slice (some ⟨s_.2.2.1,0,none⟩) 1 1)),(50,(.agg #[.slice (some ⟨s_.2.2.1,0,none⟩) 1 1,.int .i64 (rd_T35 l0 sj).f0,.int .i64 (rd_T35 l0 sj).f1,.int .i64 (rd_T35 l0 sj).f2,.int .i64 (rd_T35 l0 sj).f3])),(9,(.pointer (some ⟨s_.2.2.2.1,0,none⟩))),(10,(.pointer (some ⟨s_.2.2.2.2,0,none⟩)))]) (fun s_ w' => Below w2.heap.size w2 w'∧Blk w' s_.1 3 #[.int .i64 si]∧w2.heap.size ≤ s_.1∧Blk w' s_.2.1 74 #[.slice (some ⟨s_.1,0,none⟩) 1 1,.int .i64 (rd_T35 l0 si).f0,.int .i64 (rd_T35 l0 si).f1,.int .i64 (rd_T35 l0 si).f2,.int .i64 (rd_T35 l0 si).f3]∧w2.heap.size ≤ s_.2.1∧Blk w' s_.2.2.1 3 #[.int .i64 sj]∧w2.heap.size ≤ s_.2.2.1∧Blk w' s_.2.2.2.1 72 #[.pointer none]∧w2.heap.size ≤ s_.2.2.2.1∧Blk w' s_.2.2.2.2 72 #[.pointer none]∧w2.heap.size ≤ s_.2.2.2.2∧s_.1 ≠ s_.2.2.1∧s_.2.2.2.1 ≠ s_.2.2.2.2) ?_ (fun hJ_1_7_9_16_17 => ?_)
 rotate_left
 refine join_ (σ:=Nat × Nat × Nat × Nat) 4 #[tt,tt,tt,tt,tt,tt,tt,tt,tt,ff,tt,tt,tt,tt,ff,ff,tt,tt,tt,ff] (fun s_ => [(37,(.slice (some ⟨s_.1,0,none⟩) 1 1)),(42,(.agg #[.slice (some ⟨s_.1,0,none⟩) 1 1,.int .i64 (rd_T35 l0 si).f0,.int .i64 (rd_T35 l0 si).f1,.int .i64 (rd_T35 l0 si).f2,.int .i64 (rd_T35 l0 si).f3])),(43,(.pointer (some ⟨s_.2.1,0,none⟩))),(9,(.pointer (some ⟨s_.2.2.1,0,none⟩))),(10,(.pointer (some ⟨s_.2.2.2,0,none⟩)))]) (fun s_ w' => Below w2.heap.size w2 w'∧Blk w' s_.1 3 #[.int .i64 si]∧w2.heap.size ≤ s_.1∧Blk w' s_.2.1 74 #[.slice (some ⟨s_.1,0,none⟩) 1 1,.int .i64 (rd_T35 l0 si).f0,.int .i64 (rd_T35 l0 si).f1,.int .i64 (rd_T35 l0 si).f2,.int .i64 (rd_T35 l0 si).f3]∧w2.heap.size ≤ s_.2.1∧Blk w' s_.2.2.1 72 #[.pointer (some ⟨s_.2.1,0,none⟩)]∧w2.heap.size ≤ s_.2.2.1∧Blk w' s_.2.2.2 72 #[.pointer none]∧w2.heap.size ≤ s_.2.2.2∧s_.2.2.1 ≠ s_.2.2.2) ?_ (fun hJ_1_7_16_17_18 => ?_)
 rotate_left
 refine join_ (σ:=Nat × Nat × Nat × Nat × Nat) 3 #[tt,tt,tt,tt,tt,tt,tt,ff,tt,tt,tt,tt,tt,tt,tt,tt,tt,tt,ff,ff] (fun s_ => [(37,(.slice (some ⟨s_.1,0,none⟩) 1 1)),(42,(.agg #[.slice (some ⟨s_.1,0,none⟩) 1 1,.int .i64 (rd_T35 l0 si).f0,.int .i64 (rd_T35 l0 si).f1,.int .i64 (rd_T35 l0 si).f2,.int .i64 (rd_T35 l0 si).f3])),(45,(.slice (some ⟨s_.2.1,0,none⟩) 1 1)),(50,(.agg #[.slice (some ⟨s_.2.1,0,none⟩) 1 1,.int .i64 (rd_T35 l0 sj).f0,.int .i64 (rd_T35 l0 sj).f1,.int .i64 (rd_T35 l0 sj).f2,.int .i64 (rd_T35 l0 sj).f3])),(51,(.pointer (some ⟨s_.2.2.1,0,none⟩))),(9,(.pointer (some ⟨s_.2.2.2.1,0,none⟩))),(10,(.pointer (some ⟨s_.2.2.2.2,0,none⟩)))]) (fun s_ w' => Below w2.heap.size w2 w'∧Blk w' s_.1 3 #[.int .i64 si]∧w2.heap.size ≤ s_.1∧Blk w' s_.2.1 3 #[.int .i64 sj]∧w2.heap.size ≤ s_.2.1∧Blk w' s_.2.2.1 74 #[.slice (some ⟨s_.2.1,0,none⟩) 1 1,.int .i64 (rd_T35 l0 sj).f0,.int .i64 (rd_T35 l0 sj).f1,.int .i64 (rd_T35 l0 sj).f2,.int .i64 (rd_T35 l0 sj).f3]∧w2.heap.size ≤ s_.2.2.1∧Blk w' s_.2.2.2.1 72 #[.pointer none]∧w2.heap.size ≤ s_.2.2.2.1∧Blk w' s_.2.2.2.2 72 #[.pointer none]∧w2.heap.size ≤ s_.2.2.2.2∧s_.1 ≠ s_.2.1∧s_.2.2.2.1 ≠ s_.2.2.2.2) ?_ (fun hJ_1_9_15_16_17 => ?_)
 rotate_left
 refine join_ (σ:=Nat × Nat × Nat × Nat) 4 #[tt,tt,tt,tt,tt,tt,tt,tt,tt,tt,tt,tt,tt,tt,tt,tt,ff,ff,ff,ff] (fun s_ => [(37,(.slice (some ⟨s_.1,0,none⟩) 1 1)),(42,(.agg #[.slice (some ⟨s_.1,0,none⟩) 1 1,.int .i64 (rd_T35 l0 si).f0,.int .i64 (rd_T35 l0 si).f1,.int .i64 (rd_T35 l0 si).f2,.int .i64 (rd_T35 l0 si).f3])),(43,(.pointer (some ⟨s_.2.1,0,none⟩))),(45,(.slice (some ⟨s_.2.2.1,0,none⟩) 1 1)),(50,(.agg #[.slice (some ⟨s_.2.2.1,0,none⟩) 1 1,.int .i64 (rd_T35 l0 sj).f0,.int .i64 (rd_T35 l0 sj).f1,.int .i64 (rd_T35 l0 sj).f2,.int .i64 (rd_T35 l0 sj).f3])),(51,(.pointer (some ⟨s_.2.2.2,0,none⟩)))]) (fun s_ w' => Below w2.heap.size w2 w'∧Blk w' s_.1 3 #[.int .i64 si]∧w2.heap.size ≤ s_.1∧Blk w' s_.2.1 74 #[.slice (some ⟨s_.1,0,none⟩) 1 1,.int .i64 (rd_T35 l0 si).f0,.int .i64 (rd_T35 l0 si).f1,.int .i64 (rd_T35 l0 si).f2,.int .i64 (rd_T35 l0 si).f3]∧w2.heap.size ≤ s_.2.1∧Blk w' s_.2.2.1 3 #[.int .i64 sj]∧w2.heap.size ≤ s_.2.2.1∧Blk w' s_.2.2.2 74 #[.slice (some ⟨s_.2.2.1,0,none⟩) 1 1,.int .i64 (rd_T35 l0 sj).f0,.int .i64 (rd_T35 l0 sj).f1,.int .i64 (rd_T35 l0 sj).f2,.int .i64 (rd_T35 l0 sj).f3]∧w2.heap.size ≤ s_.2.2.2∧s_.1 ≠ s_.2.2.1∧s_.2.1 ≠ s_.2.2.2) ?_ (fun hJ_1_7_9_15 => ?_)
 rotate_left
 refine join_ (σ:=Nat × Nat × Nat × Nat) 4 #[tt,tt,tt,tt,tt,tt,tt,tt,tt,tt,tt,tt,tt,tt,tt,ff,tt,ff,ff,ff] (fun s_ => [(37,(.slice (some ⟨s_.1,0,none⟩) 1 1)),(42,(.agg #[.slice (some ⟨s_.1,0,none⟩) 1 1,.int .i64 (rd_T35 l0 si).f0,.int .i64 (rd_T35 l0 si).f1,.int .i64 (rd_T35 l0 si).f2,.int .i64 (rd_T35 l0 si).f3])),(43,(.pointer (some ⟨s_.2.1,0,none⟩))),(45,(.slice (some ⟨s_.2.2.1,0,none⟩) 1 1)),(50,(.agg #[.slice (some ⟨s_.2.2.1,0,none⟩) 1 1,.int .i64 (rd_T35 l0 sj).f0,.int .i64 (rd_T35 l0 sj).f1,.int .i64 (rd_T35 l0 sj).f2,.int .i64 (rd_T35 l0 sj).f3])),(9,(.pointer (some ⟨s_.2.2.2,0,none⟩)))]) (fun s_ w' => Below w2.heap.size w2 w'∧Blk w' s_.1 3 #[.int .i64 si]∧w2.heap.size ≤ s_.1∧Blk w' s_.2.1 74 #[.slice (some ⟨s_.1,0,none⟩) 1 1,.int .i64 (rd_T35 l0 si).f0,.int .i64 (rd_T35 l0 si).f1,.int .i64 (rd_T35 l0 si).f2,.int .i64 (rd_T35 l0 si).f3]∧w2.heap.size ≤ s_.2.1∧Blk w' s_.2.2.1 3 #[.int .i64 sj]∧w2.heap.size ≤ s_.2.2.1∧Blk w' s_.2.2.2 72 #[.pointer none]∧w2.heap.size ≤ s_.2.2.2∧s_.1 ≠ s_.2.2.1) ?_ (fun hJ_1_7_9_16 => ?_)
 rotate_left
 refine join_ (σ:=Nat × Nat × Nat × Nat) 4 #[tt,tt,tt,tt,tt,tt,tt,tt,tt,tt,tt,tt,tt,tt,tt,ff,ff,tt,ff,ff] (fun s_ => [(37,(.slice (some ⟨s_.1,0,none⟩) 1 1)),(42,(.agg #[.slice (some ⟨s_.1,0,none⟩) 1 1,.int .i64 (rd_T35 l0 si).f0,.int .i64 (rd_T35 l0 si).f1,.int .i64 (rd_T35 l0 si).f2,.int .i64 (rd_T35 l0 si).f3])),(43,(.pointer (some ⟨s_.2.1,0,none⟩))),(45,(.slice (some ⟨s_.2.2.1,0,none⟩) 1 1)),(50,(.agg #[.slice (some ⟨s_.2.2.1,0,none⟩) 1 1,.int .i64 (rd_T35 l0 sj).f0,.int .i64 (rd_T35 l0 sj).f1,.int .i64 (rd_T35 l0 sj).f2,.int .i64 (rd_T35 l0 sj).f3])),(10,(.pointer (some ⟨s_.2.2.2,0,none⟩)))]) (fun s_ w' => Below w2.heap.size w2 w'∧Blk w' s_.1 3 #[.int .i64 si]∧w2.heap.size ≤ s_.1∧Blk w' s_.2.1 74 #[.slice (some ⟨s_.1,0,none⟩) 1 1,.int .i64 (rd_T35 l0 si).f0,.int .i64 (rd_T35 l0 si).f1,.int .i64 (rd_T35 l0 si).f2,.int .i64 (rd_T35 l0 si).f3]∧w2.heap.size ≤ s_.2.1∧Blk w' s_.2.2.1 3 #[.int .i64 sj]∧w2.heap.size ≤ s_.2.2.1∧Blk w' s_.2.2.2 72 #[.pointer none]∧w2.heap.size ≤ s_.2.2.2∧s_.1 ≠ s_.2.2.1) ?_ (fun hJ_1_7_9_17 => ?_)
 rotate_left
 refine join_ (σ:=Nat × Nat × Nat × Nat) 5 #[tt,tt,tt,tt,tt,tt,tt,tt,tt,ff,tt,tt,tt,tt,ff,ff,tt,tt,ff,ff] (fun s_ => [(37,(.slice (some ⟨s_.1,0,none⟩) 1 1)),(42,(.agg #[.slice (some ⟨s_.1,0,none⟩) 1 1,.int .i64 (rd_T35 l0 si).f0,.int .i64 (rd_T35 l0 si).f1,.int .i64 (rd_T35 l0 si).f2,.int .i64 (rd_T35 l0 si).f3])),(43,(.pointer (some ⟨s_.2.1,0,none⟩))),(9,(.pointer (some ⟨s_.2.2.1,0,none⟩))),(10,(.pointer (some ⟨s_.2.2.2,0,none⟩)))]) (fun s_ w' => Below w2.heap.size w2 w'∧Blk w' s_.1 3 #[.int .i64 si]∧w2.heap.size ≤ s_.1∧Blk w' s_.2.1 74 #[.slice (some ⟨s_.1,0,none⟩) 1 1,.int .i64 (rd_T35 l0 si).f0,.int .i64 (rd_T35 l0 si).f1,.int .i64 (rd_T35 l0 si).f2,.int .i64 (rd_T35 l0 si).f3]∧w2.heap.size ≤ s_.2.1∧Blk w' s_.2.2.1 72 #[.pointer none]∧w2.heap.size ≤ s_.2.2.1∧Blk w' s_.2.2.2 72 #[.pointer none]∧w2.heap.size ≤ s_.2.2.2∧s_.2.2.1 ≠ s_.2.2.2) ?_ (fun hJ_1_7_16_17 => ?_)
 rotate_left
 refine join_ (σ:=Nat × Nat × Nat × Nat) 4 #[tt,tt,tt,tt,tt,tt,tt,ff,tt,tt,tt,tt,tt,tt,tt,tt,tt,ff,ff,ff] (fun s_ => [(37,(.slice (some ⟨s_.1,0,none⟩) 1 1)),(42,(.agg #[.slice (some ⟨s_.1,0,none⟩) 1 1,.int .i64 (rd_T35 l0 si).f0,.int .i64 (rd_T35 l0 si).f1,.int .i64 (rd_T35 l0 si).f2,.int .i64 (rd_T35 l0 si).f3])),(45,(.slice (some ⟨s_.2.1,0,none⟩) 1 1)),(50,(.agg #[.slice (some ⟨s_.2.1,0,none⟩) 1 1,.int .i64 (rd_T35 l0 sj).f0,.int .i64 (rd_T35 l0 sj).f1,.int .i64 (rd_T35 l0 sj).f2,.int .i64 (rd_T35 l0 sj).f3])),(51,(.pointer (some ⟨s_.2.2.1,0,none⟩))),(9,(.pointer (some ⟨s_.2.2.2,0,none⟩)))]) (fun s_ w' => Below w2.heap.size w2 w'∧Blk w' s_.1 3 #[.int .i64 si]∧w2.heap.size ≤ s_.1∧Blk w' s_.2.1 3 #[.int .i64 sj]∧w2.heap.size ≤ s_.2.1∧Blk w' s_.2.2.1 74 #[.slice (some ⟨s_.2.1,0,none⟩) 1 1,.int .i64 (rd_T35 l0 sj).f0,.int .i64 (rd_T35 l0 sj).f1,.int .i64 (rd_T35 l0 sj).f2,.int .i64 (rd_T35 l0 sj).f3]∧w2.heap.size ≤ s_.2.2.1∧Blk w' s_.2.2.2 72 #[.pointer none]∧w2.heap.size ≤ s_.2.2.2∧s_.1 ≠ s_.2.1) ?_ (fun hJ_1_9_15_16 => ?_)
 rotate_left
 refine join_ (σ:=Nat × Nat × Nat × Nat) 4 #[tt,tt,tt,tt,tt,tt,tt,ff,tt,tt,tt,tt,tt,tt,tt,tt,ff,tt,ff,ff] (fun s_ => [(37,(.slice (some ⟨s_.1,0,none⟩) 1 1)),(42,(.agg #[.slice (some ⟨s_.1,0,none⟩) 1 1,.int .i64 (rd_T35 l0 si).f0,.int .i64 (rd_T35 l0 si).f1,.int .i64 (rd_T35 l0 si).f2,.int .i64 (rd_T35 l0 si).f3])),(45,(.slice (some ⟨s_.2.1,0,none⟩) 1 1)),(50,(.agg #[.slice (some ⟨s_.2.1,0,none⟩) 1 1,.int .i64 (rd_T35 l0 sj).f0,.int .i64 (rd_T35 l0 sj).f1,.int .i64 (rd_T35 l0 sj).f2,.int .i64 (rd_T35 l0 sj).f3])),(51,(.pointer (some ⟨s_.2.2.1,0,none⟩))),(10,(.pointer (some ⟨s_.2.2.2,0,none⟩)))]) (fun s_ w' => Below w2.heap.size w2 w'∧Blk w' s_.1 3 #[.int .i64 si]∧w2.heap.size ≤ s_.1∧Blk w' s_.2.1 3 #[.int .i64 sj]∧w2.heap.size ≤ s_.2.1∧Blk w' s_.2.2.1 74 #[.slice (some ⟨s_.2.1,0,none⟩) 1 1,.int .i64 (rd_T35 l0 sj).f0,.int .i64 (rd_T35 l0 sj).f1,.int .i64 (rd_T35 l0 sj).f2,.int .i64 (rd_T35 l0 sj).f3]∧w2.heap.size ≤ s_.2.2.1∧Blk w' s_.2.2.2 72 #[.pointer none]∧w2.heap.size ≤ s_.2.2.2∧s_.1 ≠ s_.2.1) ?_ (fun hJ_1_9_15_17 => ?_)
 rotate_left
 refine join_ (σ:=Nat × Nat × Nat × Nat) 4 #[tt,tt,tt,tt,tt,tt,tt,ff,tt,tt,tt,tt,tt,tt,tt,ff,tt,tt,ff,ff] (fun s_ => [(37,(.slice (some ⟨s_.1,0,none⟩) 1 1)),(42,(.agg #[.slice (some ⟨s_.1,0,none⟩) 1 1,.int .i64 (rd_T35 l0 si).f0,.int .i64 (rd_T35 l0 si).f1,.int .i64 (rd_T35 l0 si).f2,.int .i64 (rd_T35 l0 si).f3])),(45,(.slice (some ⟨s_.2.1,0,none⟩) 1 1)),(50,(.agg #[.slice (some ⟨s_.2.1,0,none⟩) 1 1,.int .i64 (rd_T35 l0 sj).f0,.int .i64 (rd_T35 l0 sj).f1,.int .i64 (rd_T35 l0 sj).f2,.int .i64 (rd_T35 l0 sj).f3])),(9,(.pointer (some ⟨s_.2.2.1,0,none⟩))),(10,(.pointer (some ⟨s_.2.2.2,0,none⟩)))]) (fun s_ w' => Below w2.heap.size w2 w'∧Blk w' s_.1 3 #[.int .i64 si]∧w2.heap.size ≤ s_.1∧Blk w' s_.2.1 3 #[.int .i64 sj]∧w2.heap.size ≤ s_.2.1∧Blk w' s_.2.2.1 72 #[.pointer none]∧w2.heap.size ≤ s_.2.2.1∧Blk w' s_.2.2.2 72 #[.pointer none]∧w2.heap.size ≤ s_.2.2.2∧s_.1 ≠ s_.2.1∧s_.2.2.1 ≠ s_.2.2.2) ?_ (fun hJ_1_9_16_17 => ?_)
 rotate_left
 refine join_ (σ:=Nat × Nat × Nat × Nat) 5 #[tt,ff,tt,tt,tt,tt,ff,ff,tt,tt,tt,tt,tt,tt,tt,tt,tt,tt,ff,ff] (fun s_ => [(45,(.slice (some ⟨s_.1,0,none⟩) 1 1)),(50,(.agg #[.slice (some ⟨s_.1,0,none⟩) 1 1,.int .i64 (rd_T35 l0 sj).f0,.int .i64 (rd_T35 l0 sj).f1,.int .i64 (rd_T35 l0 sj).f2,.int .i64 (rd_T35 l0 sj).f3])),(51,(.pointer (some ⟨s_.2.1,0,none⟩))),(9,(.pointer (some ⟨s_.2.2.1,0,none⟩))),(10,(.pointer (some ⟨s_.2.2.2,0,none⟩)))]) (fun s_ w' => Below w2.heap.size w2 w'∧Blk w' s_.1 3 #[.int .i64 sj]∧w2.heap.size ≤ s_.1∧Blk w' s_.2.1 74 #[.slice (some ⟨s_.1,0,none⟩) 1 1,.int .i64 (rd_T35 l0 sj).f0,.int .i64 (rd_T35 l0 sj).f1,.int .i64 (rd_T35 l0 sj).f2,.int .i64 (rd_T35 l0 sj).f3]∧w2.heap.size ≤ s_.2.1∧Blk w' s_.2.2.1 72 #[.pointer none]∧w2.heap.size ≤ s_.2.2.1∧Blk w' s_.2.2.2 72 #[.pointer none]∧w2.heap.size ≤ s_.2.2.2∧s_.2.2.1 ≠ s_.2.2.2) ?_ (fun hJ_9_15_16_17 => ?_)
 rotate_left
 refine join_ (σ:=Nat × Nat × Nat) 5 #[tt,tt,tt,tt,tt,tt,tt,tt,tt,tt,tt,tt,tt,tt,tt,ff,ff,ff,ff,ff] (fun s_ => [(37,(.slice (some ⟨s_.1,0,none⟩) 1 1)),(42,(.agg #[.slice (some ⟨s_.1,0,none⟩) 1 1,.int .i64 (rd_T35 l0 si).f0,.int .i64 (rd_T35 l0 si).f1,.int .i64 (rd_T35 l0 si).f2,.int .i64 (rd_T35 l0 si).f3])),(43,(.pointer (some ⟨s_.2.1,0,none⟩))),(45,(.slice (some ⟨s_.2.2,0,none⟩) 1 1)),(50,(.agg #[.slice (some ⟨s_.2.2,0,none⟩) 1 1,.int .i64 (rd_T35 l0 sj).f0,.int .i64 (rd_T35 l0 sj).f1,.int .i64 (rd_T35 l0 sj).f2,.int .i64 (rd_T35 l0 sj).f3]))]) (fun s_ w' => Below w2.heap.size w2 w'∧Blk w' s_.1 3 #[.int .i64 si]∧w2.heap.size ≤ s_.1∧Blk w' s_.2.1 74 #[.slice (some ⟨s_.1,0,none⟩) 1 1,.int .i64 (rd_T35 l0 si).f0,.int .i64 (rd_T35 l0 si).f1,.int .i64 (rd_T35 l0 si).f2,.int .i64 (rd_T35 l0 si).f3]∧w2.heap.size ≤ s_.2.1∧Blk w' s_.2.2 3 #[.int .i64 sj]∧w2.heap.size ≤ s_.2.2∧s_.1 ≠ s_.2.2) ?_ (fun hJ_1_7_9 => ?_)
 rotate_left
 refine join_ (σ:=Nat × Nat × Nat) 6 #[tt,tt,tt,tt,tt,tt,tt,tt,tt,ff,tt,tt,tt,tt,ff,ff,tt,ff,ff,ff] (fun s_ => [(37,(.slice (some ⟨s_.1,0,none⟩) 1 1)),(42,(.agg #[.slice (some ⟨s_.1,0,none⟩) 1 1,.int .i64 (rd_T35 l0 si).f0,.int .i64 (rd_T35 l0 si).f1,.int .i64 (rd_T35 l0 si).f2,.int .i64 (rd_T35 l0 si).f3])),(43,(.pointer (some ⟨s_.2.1,0,none⟩))),(9,(.pointer (some ⟨s_.2.2,0,none⟩)))]) (fun s_ w' => Below w2.heap.size w2 w'∧Blk w' s_.1 3 #[.int .i64 si]∧w2.heap.size ≤ s_.1∧Blk w' s_.2.1 74 #[.slice (some ⟨s_.1,0,none⟩) 1 1,.int .i64 (rd_T35 l0 si).f0,.int .i64 (rd_T35 l0 si).f1,.int .i64 (rd_T35 l0 si).f2,.int .i64 (rd_T35 l0 si).f3]∧w2.heap.size ≤ s_.2.1∧Blk w' s_.2.2 72 #[.pointer none]∧w2.heap.size ≤ s_.2.2) ?_ (fun hJ_1_7_16 => ?_)
 rotate_left
 refine join_ (σ:=Nat × Nat × Nat) 6 #[tt,tt,tt,tt,tt,tt,tt,tt,tt,ff,tt,tt,tt,tt,ff,ff,ff,tt,ff,ff] (fun s_ => [(37,(.slice (some ⟨s_.1,0,none⟩) 1 1)),(42,(.agg #[.slice (some ⟨s_.1,0,none⟩) 1 1,.int .i64 (rd_T35 l0 si).f0,.int .i64 (rd_T35 l0 si).f1,.int .i64 (rd_T35 l0 si).f2,.int .i64 (rd_T35 l0 si).f3])),(43,(.pointer (some ⟨s_.2.1,0,none⟩))),(10,(.pointer (some ⟨s_.2.2,0,none⟩)))]) (fun s_ w' => Below w2.heap.size w2 w'∧Blk w' s_.1 3 #[.int .i64 si]∧w2.heap.size ≤ s_.1∧Blk w' s_.2.1 74 #[.slice (some ⟨s_.1,0,none⟩) 1 1,.int .i64 (rd_T35 l0 si).f0,.int .i64 (rd_T35 l0 si).f1,.int .i64 (rd_T35 l0 si).f2,.int .i64 (rd_T35 l0 si).f3]∧w2.heap.size ≤ s_.2.1∧Blk w' s_.2.2 72 #[.pointer none]∧w2.heap.size ≤ s_.2.2) ?_ (fun hJ_1_7_17 => ?_)
 rotate_left
 refine join_ (σ:=Nat × Nat × Nat) 5 #[tt,tt,tt,tt,tt,tt,tt,ff,tt,tt,tt,tt,tt,tt,tt,tt,ff,ff,ff,ff] (fun s_ => [(37,(.slice (some ⟨s_.1,0,none⟩) 1 1)),(42,(.agg #[.slice (some ⟨s_.1,0,none⟩) 1 1,.int .i64 (rd_T35 l0 si).f0,.int .i64 (rd_T35 l0 si).f1,.int .i64 (rd_T35 l0 si).f2,.int .i64 (rd_T35 l0 si).f3])),(45,(.slice (some ⟨s_.2.1,0,none⟩) 1 1)),(50,(.agg #[.slice (some ⟨s_.2.1,0,none⟩) 1 1,.int .i64 (rd_T35 l0 sj).f0,.int .i64 (rd_T35 l0 sj).f1,.int .i64 (rd_T35 l0 sj).f2,.int .i64 (rd_T35 l0 sj).f3])),(51,(.pointer (some ⟨s_.2.2,0,none⟩)))]) (fun s_ w' => Below w2.heap.size w2 w'∧Blk w' s_.1 3 #[.int .i64 si]∧w2.heap.size ≤ s_.1∧Blk w' s_.2.1 3 #[.int .i64 sj]∧w2.heap.size ≤ s_.2.1∧Blk w' s_.2.2 74 #[.slice (some ⟨s_.2.1,0,none⟩) 1 1,.int .i64 (rd_T35 l0 sj).f0,.int .i64 (rd_T35 l0 sj).f1,.int .i64 (rd_T35 l0 sj).f2,.int .i64 (rd_T35 l0 sj).f3]∧w2.heap.size ≤ s_.2.2∧s_.1 ≠ s_.2.1) ?_ (fun hJ_1_9_15 => ?_)
 rotate_left
 refine join_ (σ:=Nat × Nat × Nat) 5 #[tt,tt,tt,tt,tt,tt,tt,ff,tt,tt,tt,tt,tt,tt,tt,ff,tt,ff,ff,ff] (fun s_ => [(37,(.slice (some ⟨s_.1,0,none⟩) 1 1)),(42,(.agg #[.slice (some ⟨s_.1,0,none⟩) 1 1,.int .i64 (rd_T35 l0 si).f0,.int .i64 (rd_T35 l0 si).f1,.int .i64 (rd_T35 l0 si).f2,.int .i64 (rd_T35 l0 si).f3])),(45,(.slice (some ⟨s_.2.1,0,none⟩) 1 1)),(50,(.agg #[.slice (some ⟨s_.2.1,0,none⟩) 1 1,.int .i64 (rd_T35 l0 sj).f0,.int .i64 (rd_T35 l0 sj).f1,.int .i64 (rd_T35 l0 sj).f2,.int .i64 (rd_T35 l0 sj).f3])),(9,(.pointer (some ⟨s_.2.2,0,none⟩)))]) (fun s_ w' => Below w2.heap.size w2 w'∧Blk w' s_.1 3 #[.int .i64 si]∧w2.heap.size ≤ s_.1∧Blk w' s_.2.1 3 #[.int .i64 sj]∧w2.heap.size ≤ s_.2.1∧Blk w' s_.2.2 72 #[.pointer none]∧w2.heap.size ≤ s_.2.2∧s_.1 ≠ s_.2.1) ?_ (fun hJ_1_9_16 => ?_)
 rotate_left
 refine join_ (σ:=Nat × Nat × Nat) 5 #[tt,tt,tt,tt,tt,tt,tt,ff,tt,tt,tt,tt,tt,tt,tt,ff,ff,tt,ff,ff] (fun s_ => [(37,(.slice (some ⟨s_.1,0,none⟩) 1 1)),(42,(.agg #[.slice (some ⟨s_.1,0,none⟩) 1 1,.int .i64 (rd_T35 l0 si).f0,.int .i64 (rd_T35 l0 si).f1,.int .i64 (rd_T35 l0 si).f2,.int .i64 (rd_T35 l0 si).f3])),(45,(.slice (some ⟨s_.2.1,0,none⟩) 1 1)),(50,(.agg #[.slice (some ⟨s_.2.1,0,none⟩) 1 1,.int .i64 (rd_T35 l0 sj).f0,.int .i64 (rd_T35 l0 sj).f1,.int .i64 (rd_T35 l0 sj).f2,.int .i64 (rd_T35 l0 sj).f3])),(10,(.pointer (some ⟨s_.2.2,0,none⟩)))]) (fun s_ w' => Below w2.heap.size w2 w'∧Blk w' s_.1 3 #[.int .i64 si]∧w2.heap.size ≤ s_.1∧Blk w' s_.2.1 3 #[.int .i64 sj]∧w2.heap.size ≤ s_.2.1∧Blk w' s_.2.2 72 #[.pointer none]∧w2.heap.size ≤ s_.2.2∧s_.1 ≠ s_.2.1) ?_ (fun hJ_1_9_17 => ?_)
 rotate_left
 refine join_ (σ:=Nat × Nat × Nat) 6 #[tt,tt,tt,tt,tt,tt,tt,ff,tt,ff,tt,tt,tt,tt,ff,ff,tt,tt,ff,ff] (fun s_ => [(37,(.slice (some ⟨s_.1,0,none⟩) 1 1)),(42,(.agg #[.slice (some ⟨s_.1,0,none⟩) 1 1,.int .i64 (rd_T35 l0 si).f0,.int .i64 (rd_T35 l0 si).f1,.int .i64 (rd_T35 l0 si).f2,.int .i64 (rd_T35 l0 si).f3])),(9,(.pointer (some ⟨s_.2.1,0,none⟩))),(10,(.pointer (some ⟨s_.2.2,0,none⟩)))]) (fun s_ w' => Below w2.heap.size w2 w'∧Blk w' s_.1 3 #[.int .i64 si]∧w2.heap.size ≤ s_.1∧Blk w' s_.2.1 72 #[.pointer none]∧w2.heap.size ≤ s_.2.1∧Blk w' s_.2.2 72 #[.pointer none]∧w2.heap.size ≤ s_.2.2∧s_.2.1 ≠ s_.2.2) ?_ (fun hJ_1_16_17 => ?_)
 rotate_left
 refine join_ (σ:=Nat × Nat × Nat) 6 #[tt,ff,tt,tt,tt,tt,ff,ff,tt,tt,tt,tt,tt,tt,tt,tt,tt,ff,ff,ff] (fun s_ => [(45,(.slice (some ⟨s_.1,0,none⟩) 1 1)),(50,(.agg #[.slice (some ⟨s_.1,0,none⟩) 1 1,.int .i64 (rd_T35 l0 sj).f0,.int .i64 (rd_T35 l0 sj).f1,.int .i64 (rd_T35 l0 sj).f2,.int .i64 (rd_T35 l0 sj).f3])),(51,(.pointer (some ⟨s_.2.1,0,none⟩))),(9,(.pointer (some ⟨s_.2.2,0,none⟩)))]) (fun s_ w' => Below w2.heap.size w2 w'∧Blk w' s_.1 3 #[.int .i64 sj]∧w2.heap.size ≤ s_.1∧Blk w' s_.2.1 74 #[.slice (some ⟨s_.1,0,none⟩) 1 1,.int .i64 (rd_T35 l0 sj).f0,.int .i64 (rd_T35 l0 sj).f1,.int .i64 (rd_T35 l0 sj).f2,.int .i64 (rd_T35 l0 sj).f3]∧w2.heap.size ≤ s_.2.1∧Blk w' s_.2.2 72 #[.pointer none]∧w2.heap.size ≤ s_.2.2) ?_ (fun hJ_9_15_16 => ?_)
 rotate_left
 refine join_ (σ:=Nat × Nat × Nat) 6 #[tt,ff,tt,tt,tt,tt,ff,ff,tt,tt,tt,tt,tt,tt,tt,tt,ff,tt,ff,ff] (fun s_ => [(45,(.slice (some ⟨s_.1,0,none⟩) 1 1)),(50,(.agg #[.slice (some ⟨s_.1,0,none⟩) 1 1,.int .i64 (rd_T35 l0 sj).f0,.int .i64 (rd_T35 l0 sj).f1,.int .i64 (rd_T35 l0 sj).f2,.int .i64 (rd_T35 l0 sj).f3])),(51,(.pointer (some ⟨s_.2.1,0,none⟩))),(10,(.pointer (some ⟨s_.2.2,0,none⟩)))]) (fun s_ w' => Below w2.heap.size w2 w'∧Blk w' s_.1 3 #[.int .i64 sj]∧w2.heap.size ≤ s_.1∧Blk w' s_.2.1 74 #[.slice (some ⟨s_.1,0,none⟩) 1 1,.int .i64 (rd_T35 l0 sj).f0,.int .i64 (rd_T35 l0 sj).f1,.int .i64 (rd_T35 l0 sj).f2,.int .i64 (rd_T35 l0 sj).f3]∧w2.heap.size ≤ s_.2.1∧Blk w' s_.2.2 72 #[.pointer none]∧w2.heap.size ≤ s_.2.2) ?_ (fun hJ_9_15_17 => ?_)
 rotate_left
 refine join_ (σ:=Nat × Nat × Nat) 6 #[tt,ff,tt,tt,tt,tt,ff,ff,tt,tt,tt,tt,tt,tt,tt,ff,tt,tt,ff,ff] (fun s_ => [(45,(.slice (some ⟨s_.1,0,none⟩) 1 1)),(50,(.agg #[.slice (some ⟨s_.1,0,none⟩) 1 1,.int .i64 (rd_T35 l0 sj).f0,.int .i64 (rd_T35 l0 sj).f1,.int .i64 (rd_T35 l0 sj).f2,.int .i64 (rd_T35 l0 sj).f3])),(9,(.pointer (some ⟨s_.2.1,0,none⟩))),(10,(.pointer (some ⟨s_.2.2,0,none⟩)))]) (fun s_ w' => Below w2.heap.size w2 w'∧Blk w' s_.1 3 #[.int .i64 sj]∧w2.heap.size ≤ s_.1∧Blk w' s_.2.1 72 #[.pointer none]∧w2.heap.size ≤ s_.2.1∧Blk w' s_.2.2 72 #[.pointer none]∧w2.heap.size ≤ s_.2.2∧s_.2.1 ≠ s_.2.2) ?_ (fun hJ_9_16_17 => ?_)
 rotate_left
 refine join_ (σ:=Nat × Nat) 7 #[tt,tt,tt,tt,tt,tt,tt,tt,tt,ff,tt,tt,tt,tt,ff,ff,ff,ff,ff,ff] (fun s_ => [(37,(.slice (some ⟨s_.1,0,none⟩) 1 1)),(42,(.agg #[.slice (some ⟨s_.1,0,none⟩) 1 1,.int .i64 (rd_T35 l0 si).f0,.int .i64 (rd_T35 l0 si).f1,.int .i64 (rd_T35 l0 si).f2,.int .i64 (rd_T35 l0 si).f3])),(43,(.pointer (some ⟨s_.2,0,none⟩)))]) (fun s_ w' => Below w2.heap.size w2 w'∧Blk w' s_.1 3 #[.int .i64 si]∧w2.heap.size ≤ s_.1∧Blk w' s_.2 74 #[.slice (some ⟨s_.1,0,none⟩) 1 1,.int .i64 (rd_T35 l0 si).f0,.int .i64 (rd_T35 l0 si).f1,.int .i64 (rd_T35 l0 si).f2,.int .i64 (rd_T35 l0 si).f3]∧w2.heap.size ≤ s_.2) ?_ (fun hJ_1_7 => ?_)
 rotate_left
 refine join_ (σ:=Nat × Nat) 6 #[tt,tt,tt,tt,tt,tt,tt,ff,tt,tt,tt,tt,tt,tt,tt,ff,ff,ff,ff,ff] (fun s_ => [(37,(.slice (some ⟨s_.1,0,none⟩) 1 1)),(42,(.agg #[.slice (some ⟨s_.1,0,none⟩) 1 1,.int .i64 (rd_T35 l0 si).f0,.int .i64 (rd_T35 l0 si).f1,.int .i64 (rd_T35 l0 si).f2,.int .i64 (rd_T35 l0 si).f3])),(45,(.slice (some ⟨s_.2,0,none⟩) 1 1)),(50,(.agg #[.slice (some ⟨s_.2,0,none⟩) 1 1,.int .i64 (rd_T35 l0 sj).f0,.int .i64 (rd_T35 l0 sj).f1,.int .i64 (rd_T35 l0 sj).f2,.int .i64 (rd_T35 l0 sj).f3]))]) (fun s_ w' => Below w2.heap.size w2 w'∧Blk w' s_.1 3 #[.int .i64 si]∧w2.heap.size ≤ s_.1∧Blk w' s_.2 3 #[.int .i64 sj]∧w2.heap.size ≤ s_.2∧s_.1 ≠ s_.2) ?_ (fun hJ_1_9 => ?_)
 rotate_left
 refine join_ (σ:=Nat × Nat) 7 #[tt,tt,tt,tt,tt,tt,tt,ff,tt,ff,tt,tt,tt,tt,ff,ff,tt,ff,ff,ff] (fun s_ => [(37,(.slice (some ⟨s_.1,0,none⟩) 1 1)),(42,(.agg #[.slice (some ⟨s_.1,0,none⟩) 1 1,.int .i64 (rd_T35 l0 si).f0,.int .i64 (rd_T35 l0 si).f1,.int .i64 (rd_T35 l0 si).f2,.int .i64 (rd_T35 l0 si).f3])),(9,(.pointer (some ⟨s_.2,0,none⟩)))]) (fun s_ w' => Below w2.heap.size w2 w'∧Blk w' s_.1 3 #[.int .i64 si]∧w2.heap.size ≤ s_.1∧Blk w' s_.2 72 #[.pointer none]∧w2.heap.size ≤ s_.2) ?_ (fun hJ_1_16 => ?_)
 rotate_left
 refine join_ (σ:=Nat × Nat) 7 #[tt,tt,tt,tt,tt,tt,tt,ff,tt,ff,tt,tt,tt,tt,ff,ff,ff,tt,ff,ff] (fun s_ => [(37,(.slice (some ⟨s_.1,0,none⟩) 1 1)),(42,(.agg #[.slice (some ⟨s_.1,0,none⟩) 1 1,.int .i64 (rd_T35 l0 si).f0,.int .i64 (rd_T35 l0 si).f1,.int .i64 (rd_T35 l0 si).f2,.int .i64 (rd_T35 l0 si).f3])),(10,(.pointer (some ⟨s_.2,0,none⟩)))]) (fun s_ w' => Below w2.heap.size w2 w'∧Blk w' s_.1 3 #[.int .i64 si]∧w2.heap.size ≤ s_.1∧Blk w' s_.2 72 #[.pointer none]∧w2.heap.size ≤ s_.2) ?_ (fun hJ_1_17 => ?_)
 rotate_left
 refine join_ (σ:=Nat × Nat) 7 #[tt,ff,tt,tt,tt,tt,ff,ff,tt,tt,tt,tt,tt,tt,tt,tt,ff,ff,ff,ff] (fun s_ => [(45,(.slice (some ⟨s_.1,0,none⟩) 1 1)),(50,(.agg #[.slice (some ⟨s_.1,0,none⟩) 1 1,.int .i64 (rd_T35 l0 sj).f0,.int .i64 (rd_T35 l0 sj).f1,.int .i64 (rd_T35 l0 sj).f2,.int .i64 (rd_T35 l0 sj).f3])),(51,(.pointer (some ⟨s_.2,0,none⟩)))]) (fun s_ w' => Below w2.heap.size w2 w'∧Blk w' s_.1 3 #[.int .i64 sj]∧w2.heap.size ≤ s_.1∧Blk w' s_.2 74 #[.slice (some ⟨s_.1,0,none⟩) 1 1,.int .i64 (rd_T35 l0 sj).f0,.int .i64 (rd_T35 l0 sj).f1,.int .i64 (rd_T35 l0 sj).f2,.int .i64 (rd_T35 l0 sj).f3]∧w2.heap.size ≤ s_.2) ?_ (fun hJ_9_15 => ?_)
 rotate_left
 refine join_ (σ:=Nat × Nat) 7 #[tt,ff,tt,tt,tt,tt,ff,ff,tt,tt,tt,tt,tt,tt,tt,ff,tt,ff,ff,ff] (fun s_ => [(45,(.slice (some ⟨s_.1,0,none⟩) 1 1)),(50,(.agg #[.slice (some ⟨s_.1,0,none⟩) 1 1,.int .i64 (rd_T35 l0 sj).f0,.int .i64 (rd_T35 l0 sj).f1,.int .i64 (rd_T35 l0 sj).f2,.int .i64 (rd_T35 l0 sj).f3])),(9,(.pointer (some ⟨s_.2,0,none⟩)))]) (fun s_ w' => Below w2.heap.size w2 w'∧Blk w' s_.1 3 #[.int .i64 sj]∧w2.heap.size ≤ s_.1∧Blk w' s_.2 72 #[.pointer none]∧w2.heap.size ≤ s_.2) ?_ (fun hJ_9_16 => ?_)
 rotate_left
 refine join_ (σ:=Nat × Nat) 7 #[tt,ff,tt,tt,tt,tt,ff,ff,tt,tt,tt,tt,tt,tt,tt,ff,ff,tt,ff,ff] (fun s_ => [(45,(.slice (some ⟨s_.1,0,none⟩) 1 1)),(50,(.agg #[.slice (some ⟨s_.1,0,none⟩) 1 1,.int .i64 (rd_T35 l0 sj).f0,.int .i64 (rd_T35 l0 sj).f1,.int .i64 (rd_T35 l0 sj).f2,.int .i64 (rd_T35 l0 sj).f3])),(10,(.pointer (some ⟨s_.2,0,none⟩)))]) (fun s_ w' => Below w2.heap.size w2 w'∧Blk w' s_.1 3 #[.int .i64 sj]∧w2.heap.size ≤ s_.1∧Blk w' s_.2 72 #[.pointer none]∧w2.heap.size ≤ s_.2) ?_ (fun hJ_9_17 => ?_)
 rotate_left
 refine join_ (σ:=Nat × Nat) 8 #[tt,ff,tt,tt,tt,tt,ff,ff,tt,ff,tt,tt,tt,tt,ff,ff,tt,tt,ff,ff] (fun s_ => [(9,(.pointer (some ⟨s_.1,0,none⟩))),(10,(.pointer (some ⟨s_.2,0,none⟩)))]) (fun s_ w' => Below w2.heap.size w2 w'∧Blk w' s_.1 72 #[.pointer none]∧w2.heap.size ≤ s_.1∧Blk w' s_.2 72 #[.pointer none]∧w2.heap.size ≤ s_.2∧s_.1 ≠ s_.2) ?_ (fun hJ_16_17 => ?_)
 rotate_left
 refine join_ (σ:=Nat) 8 #[tt,tt,tt,tt,tt,tt,tt,ff,tt,ff,tt,tt,tt,tt,ff,ff,ff,ff,ff,ff] (fun s_ => [(37,(.slice (some ⟨s_,0,none⟩) 1 1)),(42,(.agg #[.slice (some ⟨s_,0,none⟩) 1 1,.int .i64 (rd_T35 l0 si).f0,.int .i64 (rd_T35 l0 si).f1,.int .i64 (rd_T35 l0 si).f2,.int .i64 (rd_T35 l0 si).f3]))]) (fun s_ w' => Below w2.heap.size w2 w'∧Blk w' s_ 3 #[.int .i64 si]∧w2.heap.size ≤ s_) ?_ (fun hJ_1 => ?_)
 rotate_left
 refine join_ (σ:=Nat) 8 #[tt,ff,tt,tt,tt,tt,ff,ff,tt,tt,tt,tt,tt,tt,tt,ff,ff,ff,ff,ff] (fun s_ => [(45,(.slice (some ⟨s_,0,none⟩) 1 1)),(50,(.agg #[.slice (some ⟨s_,0,none⟩) 1 1,.int .i64 (rd_T35 l0 sj).f0,.int .i64 (rd_T35 l0 sj).f1,.int .i64 (rd_T35 l0 sj).f2,.int .i64 (rd_T35 l0 sj).f3]))]) (fun s_ w' => Below w2.heap.size w2 w'∧Blk w' s_ 3 #[.int .i64 sj]∧w2.heap.size ≤ s_) ?_ (fun hJ_9 => ?_)
 rotate_left
 refine join_ (σ:=Nat) 9 #[tt,ff,tt,tt,tt,tt,ff,ff,tt,ff,tt,tt,tt,tt,ff,ff,tt,ff,ff,ff] (fun s_ => [(9,(.pointer (some ⟨s_,0,none⟩)))]) (fun s_ w' => Below w2.heap.size w2 w'∧Blk w' s_ 72 #[.pointer none]∧w2.heap.size ≤ s_) ?_ (fun hJ_16 => ?_)
 rotate_left
 refine join_ (σ:=Nat) 9 #[tt,ff,tt,tt,tt,tt,ff,ff,tt,ff,tt,tt,tt,tt,ff,ff,ff,tt,ff,ff] (fun s_ => [(10,(.pointer (some ⟨s_,0,none⟩)))]) (fun s_ w' => Below w2.heap.size w2 w'∧Blk w' s_ 72 #[.pointer none]∧w2.heap.size ≤ s_) ?_ (fun hJ_17 => ?_)
 rotate_left
 ·have hB_:=hHeld
  refine four_ (i:=1) (j:=9) (k:=16) (m:=17) (Ni:=some 37) (Nj:=some 45) (Nk:=some 9) (Nm:=some 10) #[tt,tt,tt,tt,tt,tt,ff,ff,tt,ff,tt,tt,tt,tt,ff,ff,ff,ff,ff,ff] #[tt,ff,tt,tt,tt,tt,ff,ff,tt,tt,tt,tt,tt,tt,ff,ff,ff,ff,ff,ff] #[tt,ff,tt,tt,tt,tt,ff,ff,tt,ff,tt,tt,tt,tt,ff,ff,tt,ff,ff,ff] #[tt,ff,tt,tt,tt,tt,ff,ff,tt,ff,tt,tt,tt,tt,ff,ff,ff,tt,ff,ff] rfl rfl rfl rfl rfl rfl rfl rfl (four_of HT_.out (by kernel_rfl)) (by decide) (by decide) (by decide) (by decide) (fun K hK => ?_) (fun K hK => ?_) (fun K hK => ?_) (fun K hK => ?_)
  ·refine slice_step ?hg (N:=37) ?hd (cs:=#[.int .i64 si]) (t:=3) (n:=1) ?hr ?_;(case hd => rfl);(case hg => rfl);(case hr => first|(go_simp;done)|(go_simp;rfl))
   intro g1 hg_ w1_ b_g1 hb_
   have l_g1 : w2.heap.size ≤ g1:=by rw [hg_];exact hB_.size
   replace hB_:=keep_below hB_ hb_
   clear hb_ hg_
   refine hK.out _ _ hB_ (fun hHeld => ?_)
   clear hK K
   refine norm_ (a':=?_) ?_ ?_
   rotate_left
   ·show Act.put _ (some 37) _ = _
    simp only [Act.put,sA,sZ,sS]
    rfl
   refine pure_ (i:=6) (N:=some 42) (v:=?_) (a':=?_) #[tt,tt,tt,tt,tt,tt,tt,ff,tt,ff,tt,tt,tt,tt,ff,ff,ff,ff,ff,ff] rfl rfl (any_of HT_.out (by kernel_rfl)) (fun _ _ _ h => h) (Or.inl ⟨by rfl,?_⟩) ?_ ?_
   rotate_left
   ·intro w'
    go_simp
    with_reducible rfl
   rotate_left
   ·simp only [Act.put,sA,sZ,sS,i64_w,i32_w]
    rfl
   exact norm_ (by simp only [putAll,Act.put,sA,sZ,sS] <;> rfl) (hJ_1 (g1) _ ⟨hB_,b_g1,l_g1⟩)
  ·refine slice_step ?hg (N:=45) ?hd (cs:=#[.int .i64 sj]) (t:=3) (n:=1) ?hr ?_;(case hd => rfl);(case hg => rfl);(case hr => first|(go_simp;done)|(go_simp;rfl))
   intro g2 hg_ w1_ b_g2 hb_
   have l_g2 : w2.heap.size ≤ g2:=by rw [hg_];exact hB_.size
   replace hB_:=keep_below hB_ hb_
   clear hb_ hg_
   refine hK.out _ _ hB_ (fun hHeld => ?_)
   clear hK K
   refine norm_ (a':=?_) ?_ ?_
   rotate_left
   ·show Act.put _ (some 45) _ = _
    simp only [Act.put,sA,sZ,sS]
    rfl
   refine pure_ (i:=14) (N:=some 50) (v:=?_) (a':=?_) #[tt,ff,tt,tt,tt,tt,ff,ff,tt,tt,tt,tt,tt,tt,tt,ff,ff,ff,ff,ff] rfl rfl (any_of HT_.out (by kernel_rfl)) (fun _ _ _ h => h) (Or.inl ⟨by rfl,?_⟩) ?_ ?_
   rotate_left
   ·intro w'
    go_simp
    with_reducible rfl
   rotate_left
   ·simp only [Act.put,sA,sZ,sS,i64_w,i32_w]
    rfl
   exact norm_ (by simp only [putAll,Act.put,sA,sZ,sS] <;> rfl) (hJ_9 (g2) _ ⟨hB_,b_g2,l_g2⟩)
  ·refine box_step ?hg (N:=9) ?hd (cs:=#[.pointer none]) (t:=72) ?hr ?_;(case hd => rfl);(case hg => rfl);(case hr => first|(go_simp;done)|(go_simp;rfl))
   intro gp hg_ w1_ b_gp hb_
   have l_gp : w2.heap.size ≤ gp:=by rw [hg_];exact hB_.size
   replace hB_:=keep_below hB_ hb_
   clear hb_ hg_
   refine hK.out _ _ hB_ (fun hHeld => ?_)
   clear hK K
   exact norm_ (by simp only [putAll,Act.put,sA,sZ,sS] <;> rfl) (hJ_16 (gp) _ ⟨hB_,b_gp,l_gp⟩)
  ·refine box_step ?hg (N:=10) ?hd (cs:=#[.pointer none]) (t:=72) ?hr ?_;(case hd => rfl);(case hg => rfl);(case hr => first|(go_simp;done)|(go_simp;rfl))
   intro gq hg_ w1_ b_gq hb_
   have l_gq : w2.heap.size ≤ gq:=by rw [hg_];exact hB_.size
   replace hB_:=keep_below hB_ hb_
   clear hb_ hg_
   refine hK.out _ _ hB_ (fun hHeld => ?_)
   clear hK K
   exact norm_ (by simp only [putAll,Act.put,sA,sZ,sS] <;> rfl) (hJ_17 (gq) _ ⟨hB_,b_gq,l_gq⟩)
 rotate_left
 ·rintro ⟨g1,gA,g2,gB,gp,gq⟩ w_ ⟨hB_,b_g1,l_g1,b_gA,l_gA,b_g2,l_g2,b_gB,l_gB,b_gp,l_gp,b_gq,l_gq,n_g1_g2,n_gA_gB,n_gp_gq⟩
  have hHeld:=hB_
  refine norm_ (a':=?_) ?_ ?_
  rotate_left
  ·simp only [putAll,Act.put,sA,sZ,sS]
   rfl
  refine one_ (i:=18) (N:=none) #[tt,tt,tt,tt,tt,tt,tt,tt,tt,tt,tt,tt,tt,tt,tt,tt,tt,tt,tt,ff] rfl rfl (one_of HT_.out (by kernel_rfl)) (by decide) (fun K hK => ?_)
  ·have z_:=b_gp.frozen 0
   have c_ : _ = some _:=(b_gp.cell 0).trans rfl
   refine skip_ (w1:=?_) (by rfl) rfl ?_ ?_
   rotate_left
   ·go_simp
    with_reducible rfl
   clear z_ c_
   have b_g1':=b_g1.far (p:=⟨gp,0,none⟩) (b_g1.ne_ b_gp (by decide)) (.pointer (some ⟨gA,0,none⟩))
   have b_gA':=b_gA.far (p:=⟨gp,0,none⟩) (b_gA.ne_ b_gp (by decide)) (.pointer (some ⟨gA,0,none⟩))
   have b_g2':=b_g2.far (p:=⟨gp,0,none⟩) (b_g2.ne_ b_gp (by decide)) (.pointer (some ⟨gA,0,none⟩))
   have b_gB':=b_gB.far (p:=⟨gp,0,none⟩) (b_gB.ne_ b_gp (by decide)) (.pointer (some ⟨gA,0,none⟩))
   have b_gq':=b_gq.far (p:=⟨gp,0,none⟩) n_gp_gq.symm (.pointer (some ⟨gA,0,none⟩))
   replace hB_:=hB_.setCell (p:=⟨gp,0,none⟩) l_gp (.pointer (some ⟨gA,0,none⟩))
   have b_gp' : Blk (w_.setCell ⟨gp,0,none⟩ (.pointer (some ⟨gA,0,none⟩))) gp 72 #[.pointer (some ⟨gA,0,none⟩)]:=by simpa using b_gp.set_ 0 (.pointer (some ⟨gA,0,none⟩))
   clear b_g1 b_gA b_g2 b_gB b_gp b_gq
   have b_g1:=b_g1'
   have b_gA:=b_gA'
   have b_g2:=b_g2'
   have b_gB:=b_gB'
   have b_gp:=b_gp'
   have b_gq:=b_gq'
   clear b_g1' b_gA' b_g2' b_gB' b_gp' b_gq'
   refine hK.out _ _ hB_ (fun hHeld => ?_)
   clear hK K
   exact norm_ (by first|(simp only [putAll,Act.put,sA,sZ,sS];done)|(simp only [putAll,Act.put,sA,sZ,sS];rfl)|rfl) (hJ_1_7_9_15_16_17_18 (g1,gA,g2,gB,gp,gq) _ ⟨hB_,b_g1,l_g1,b_gA,l_gA,b_g2,l_g2,b_gB,l_gB,b_gp,l_gp,b_gq,l_gq,n_g1_g2,n_gA_gB,n_gp_gq⟩)
 ·rintro ⟨g1,gA,g2,gp,gq⟩ w_ ⟨hB_,b_g1,l_g1,b_gA,l_gA,b_g2,l_g2,b_gp,l_gp,b_gq,l_gq,n_g1_g2,n_gp_gq⟩
  have hHeld:=hB_
  refine norm_ (a':=?_) ?_ ?_
  rotate_left
  ·simp only [putAll,Act.put,sA,sZ,sS]
   rfl
  refine one_ (i:=15) (N:=some 51) #[tt,tt,tt,tt,tt,tt,tt,tt,tt,tt,tt,tt,tt,tt,tt,tt,tt,tt,tt,ff] rfl rfl (one_of HT_.out (by kernel_rfl)) (by decide) (fun K hK => ?_)
  ·refine box_step ?hg (N:=51) ?hd (cs:=#[.slice (some ⟨g2,0,none⟩) 1 1,.int .i64 (rd_T35 l0 sj).f0,.int .i64 (rd_T35 l0 sj).f1,.int .i64 (rd_T35 l0 sj).f2,.int .i64 (rd_T35 l0 sj).f3]) (t:=74) ?hr ?_;(case hd => rfl);(case hg => rfl);(case hr => first|(go_simp;done)|(go_simp;rfl))
   intro gB hg_ w1_ b_gB hb_
   have l_gB : w2.heap.size ≤ gB:=by rw [hg_];exact hB_.size
   have n_gA_gB : gA ≠ gB:=by have h_ : gA < w_.heap.size:=b_gA.lt;omega
   replace b_g1:=b_g1.keep hb_
   replace b_gA:=b_gA.keep hb_
   replace b_g2:=b_g2.keep hb_
   replace b_gp:=b_gp.keep hb_
   replace b_gq:=b_gq.keep hb_
   replace hB_:=keep_below hB_ hb_
   clear hb_ hg_
   refine hK.out _ _ hB_ (fun hHeld => ?_)
   clear hK K
   exact norm_ (by simp only [putAll,Act.put,sA,sZ,sS] <;> rfl) (hJ_1_7_9_15_16_17_18 (g1,gA,g2,gB,gp,gq) _ ⟨hB_,b_g1,l_g1,b_gA,l_gA,b_g2,l_g2,b_gB,l_gB,b_gp,l_gp,b_gq,l_gq,n_g1_g2,n_gA_gB,n_gp_gq⟩)
 ·rintro ⟨g1,gA,g2,gB,gp⟩ w_ ⟨hB_,b_g1,l_g1,b_gA,l_gA,b_g2,l_g2,b_gB,l_gB,b_gp,l_gp,n_g1_g2,n_gA_gB⟩
  have hHeld:=hB_
  refine norm_ (a':=?_) ?_ ?_
  rotate_left
  ·simp only [putAll,Act.put,sA,sZ,sS]
   rfl
  refine one_ (i:=17) (N:=some 10) #[tt,tt,tt,tt,tt,tt,tt,tt,tt,tt,tt,tt,tt,tt,tt,tt,tt,tt,ff,ff] rfl rfl (one_of HT_.out (by kernel_rfl)) (by decide) (fun K hK => ?_)
  ·refine box_step ?hg (N:=10) ?hd (cs:=#[.pointer none]) (t:=72) ?hr ?_;(case hd => rfl);(case hg => rfl);(case hr => first|(go_simp;done)|(go_simp;rfl))
   intro gq hg_ w1_ b_gq hb_
   have l_gq : w2.heap.size ≤ gq:=by rw [hg_];exact hB_.size
   have n_gp_gq : gp ≠ gq:=by have h_ : gp < w_.heap.size:=b_gp.lt;omega
   replace b_g1:=b_g1.keep hb_
   replace b_gA:=b_gA.keep hb_
   replace b_g2:=b_g2.keep hb_
   replace b_gB:=b_gB.keep hb_
   replace b_gp:=b_gp.keep hb_
   replace hB_:=keep_below hB_ hb_
   clear hb_ hg_
   refine hK.out _ _ hB_ (fun hHeld => ?_)
   clear hK K
   exact norm_ (by simp only [putAll,Act.put,sA,sZ,sS] <;> rfl) (hJ_1_7_9_15_16_17 (g1,gA,g2,gB,gp,gq) _ ⟨hB_,b_g1,l_g1,b_gA,l_gA,b_g2,l_g2,b_gB,l_gB,b_gp,l_gp,b_gq,l_gq,n_g1_g2,n_gA_gB,n_gp_gq⟩)
 ·rintro ⟨g1,gA,g2,gB,gq⟩ w_ ⟨hB_,b_g1,l_g1,b_gA,l_gA,b_g2,l_g2,b_gB,l_gB,b_gq,l_gq,n_g1_g2,n_gA_gB⟩
  have hHeld:=hB_
  refine norm_ (a':=?_) ?_ ?_
  rotate_left
  ·simp only [putAll,Act.put,sA,sZ,sS]
   rfl
  refine one_ (i:=16) (N:=some 9) #[tt,tt,tt,tt,tt,tt,tt,tt,tt,tt,tt,tt,tt,tt,tt,tt,tt,tt,ff,ff] rfl rfl (one_of HT_.out (by kernel_rfl)) (by decide) (fun K hK => ?_)
  ·refine box_step ?hg (N:=9) ?hd (cs:=#[.pointer none]) (t:=72) ?hr ?_;(case hd => rfl);(case hg => rfl);(case hr => first|(go_simp;done)|(go_simp;rfl))
   intro gp hg_ w1_ b_gp hb_
   have l_gp : w2.heap.size ≤ gp:=by rw [hg_];exact hB_.size
   have n_gp_gq : gp ≠ gq:=by have h_ : gq < w_.heap.size:=b_gq.lt;omega
   replace b_g1:=b_g1.keep hb_
   replace b_gA:=b_gA.keep hb_
   replace b_g2:=b_g2.keep hb_
   replace b_gB:=b_gB.keep hb_
   replace b_gq:=b_gq.keep hb_
   replace hB_:=keep_below hB_ hb_
   clear hb_ hg_
   refine hK.out _ _ hB_ (fun hHeld => ?_)
   clear hK K
   exact norm_ (by simp only [putAll,Act.put,sA,sZ,sS] <;> rfl) (hJ_1_7_9_15_16_17 (g1,gA,g2,gB,gp,gq) _ ⟨hB_,b_g1,l_g1,b_gA,l_gA,b_g2,l_g2,b_gB,l_gB,b_gp,l_gp,b_gq,l_gq,n_g1_g2,n_gA_gB,n_gp_gq⟩)
 ·rintro ⟨g1,gA,g2,gp,gq⟩ w_ ⟨hB_,b_g1,l_g1,b_gA,l_gA,b_g2,l_g2,b_gp,l_gp,b_gq,l_gq,n_g1_g2,n_gp_gq⟩
  have hHeld:=hB_
  refine norm_ (a':=?_) ?_ ?_
  rotate_left
  ·simp only [putAll,Act.put,sA,sZ,sS]
   rfl
  refine two_ (i:=15) (j:=18) (Ni:=some 51) (Nj:=none) #[tt,tt,tt,tt,tt,tt,tt,tt,tt,tt,tt,tt,tt,tt,tt,tt,tt,tt,ff,ff] #[tt,tt,tt,tt,tt,tt,tt,tt,tt,tt,tt,tt,tt,tt,tt,ff,tt,tt,tt,ff] rfl rfl rfl rfl (two_of HT_.out (by kernel_rfl)) (by decide) (by decide) (fun K hK => ?_) (fun K hK => ?_)
  ·refine box_step ?hg (N:=51) ?hd (cs:=#[.slice (some ⟨g2,0,none⟩) 1 1,.int .i64 (rd_T35 l0 sj).f0,.int .i64 (rd_T35 l0 sj).f1,.int .i64 (rd_T35 l0 sj).f2,.int .i64 (rd_T35 l0 sj).f3]) (t:=74) ?hr ?_;(case hd => rfl);(case hg => rfl);(case hr => first|(go_simp;done)|(go_simp;rfl))
   intro gB hg_ w1_ b_gB hb_
   have l_gB : w2.heap.size ≤ gB:=by rw [hg_];exact hB_.size
   have n_gA_gB : gA ≠ gB:=by have h_ : gA < w_.heap.size:=b_gA.lt;omega
   replace b_g1:=b_g1.keep hb_
   replace b_gA:=b_gA.keep hb_
   replace b_g2:=b_g2.keep hb_
   replace b_gp:=b_gp.keep hb_
   replace b_gq:=b_gq.keep hb_
   replace hB_:=keep_below hB_ hb_
   clear hb_ hg_
   refine hK.out _ _ hB_ (fun hHeld => ?_)
   clear hK K
   exact norm_ (by simp only [putAll,Act.put,sA,sZ,sS] <;> rfl) (hJ_1_7_9_15_16_17 (g1,gA,g2,gB,gp,gq) _ ⟨hB_,b_g1,l_g1,b_gA,l_gA,b_g2,l_g2,b_gB,l_gB,b_gp,l_gp,b_gq,l_gq,n_g1_g2,n_gA_gB,n_gp_gq⟩)
  ·have z_:=b_gp.frozen 0
   have c_ : _ = some _:=(b_gp.cell 0).trans rfl
   refine skip_ (w1:=?_) (by rfl) rfl ?_ ?_
   rotate_left
   ·go_simp
    with_reducible rfl
   clear z_ c_
   have b_g1':=b_g1.far (p:=⟨gp,0,none⟩) (b_g1.ne_ b_gp (by decide)) (.pointer (some ⟨gA,0,none⟩))
   have b_gA':=b_gA.far (p:=⟨gp,0,none⟩) (b_gA.ne_ b_gp (by decide)) (.pointer (some ⟨gA,0,none⟩))
   have b_g2':=b_g2.far (p:=⟨gp,0,none⟩) (b_g2.ne_ b_gp (by decide)) (.pointer (some ⟨gA,0,none⟩))
   have b_gq':=b_gq.far (p:=⟨gp,0,none⟩) n_gp_gq.symm (.pointer (some ⟨gA,0,none⟩))
   replace hB_:=hB_.setCell (p:=⟨gp,0,none⟩) l_gp (.pointer (some ⟨gA,0,none⟩))
   have b_gp' : Blk (w_.setCell ⟨gp,0,none⟩ (.pointer (some ⟨gA,0,none⟩))) gp 72 #[.pointer (some ⟨gA,0,none⟩)]:=by simpa using b_gp.set_ 0 (.pointer (some ⟨gA,0,none⟩))
   clear b_g1 b_gA b_g2 b_gp b_gq
   have b_g1:=b_g1'
   have b_gA:=b_gA'
   have b_g2:=b_g2'
   have b_gp:=b_gp'
   have b_gq:=b_gq'
   clear b_g1' b_gA' b_g2' b_gp' b_gq'
   refine hK.out _ _ hB_ (fun hHeld => ?_)
   clear hK K
   exact norm_ (by first|(simp only [putAll,Act.put,sA,sZ,sS];done)|(simp only [putAll,Act.put,sA,sZ,sS];rfl)|rfl) (hJ_1_7_9_16_17_18 (g1,gA,g2,gp,gq) _ ⟨hB_,b_g1,l_g1,b_gA,l_gA,b_g2,l_g2,b_gp,l_gp,b_gq,l_gq,n_g1_g2,n_gp_gq⟩)
 ·rintro ⟨g1,gA,gp,gq⟩ w_ ⟨hB_,b_g1,l_g1,b_gA,l_gA,b_gp,l_gp,b_gq,l_gq,n_gp_gq⟩
  have hHeld:=hB_
  refine norm_ (a':=?_) ?_ ?_
  rotate_left
  ·simp only [putAll,Act.put,sA,sZ,sS]
   rfl
  refine one_ (i:=9) (N:=some 45) #[tt,tt,tt,tt,tt,tt,tt,tt,tt,tt,tt,tt,tt,tt,ff,ff,tt,tt,tt,ff] rfl rfl (one_of HT_.out (by kernel_rfl)) (by decide) (fun K hK => ?_)
  ·refine slice_step ?hg (N:=45) ?hd (cs:=#[.int .i64 sj]) (t:=3) (n:=1) ?hr ?_;(case hd => rfl);(case hg => rfl);(case hr => first|(go_simp;done)|(go_simp;rfl))
   intro g2 hg_ w1_ b_g2 hb_
   have l_g2 : w2.heap.size ≤ g2:=by rw [hg_];exact hB_.size
   have n_g1_g2 : g1 ≠ g2:=by have h_ : g1 < w_.heap.size:=b_g1.lt;omega
   replace b_g1:=b_g1.keep hb_
   replace b_gA:=b_gA.keep hb_
   replace b_gp:=b_gp.keep hb_
   replace b_gq:=b_gq.keep hb_
   replace hB_:=keep_below hB_ hb_
   clear hb_ hg_
   refine hK.out _ _ hB_ (fun hHeld => ?_)
   clear hK K
   refine norm_ (a':=?_) ?_ ?_
   rotate_left
   ·show Act.put _ (some 45) _ = _
    simp only [Act.put,sA,sZ,sS]
    rfl
   refine pure_ (i:=14) (N:=some 50) (v:=?_) (a':=?_) #[tt,tt,tt,tt,tt,tt,tt,tt,tt,tt,tt,tt,tt,tt,tt,ff,tt,tt,tt,ff] rfl rfl (any_of HT_.out (by kernel_rfl)) (fun _ _ _ h => h) (Or.inl ⟨by rfl,?_⟩) ?_ ?_
   rotate_left
   ·intro w'
    go_simp
    with_reducible rfl
   rotate_left
   ·simp only [Act.put,sA,sZ,sS,i64_w,i32_w]
    rfl
   exact norm_ (by simp only [putAll,Act.put,sA,sZ,sS] <;> rfl) (hJ_1_7_9_16_17_18 (g1,gA,g2,gp,gq) _ ⟨hB_,b_g1,l_g1,b_gA,l_gA,b_g2,l_g2,b_gp,l_gp,b_gq,l_gq,n_g1_g2,n_gp_gq⟩)
 ·rintro ⟨g1,g2,gB,gp,gq⟩ w_ ⟨hB_,b_g1,l_g1,b_g2,l_g2,b_gB,l_gB,b_gp,l_gp,b_gq,l_gq,n_g1_g2,n_gp_gq⟩
  have hHeld:=hB_
  refine norm_ (a':=?_) ?_ ?_
  rotate_left
  ·simp only [putAll,Act.put,sA,sZ,sS]
   rfl
  refine one_ (i:=7) (N:=some 43) #[tt,tt,tt,tt,tt,tt,tt,tt,tt,tt,tt,tt,tt,tt,tt,tt,tt,tt,ff,ff] rfl rfl (one_of HT_.out (by kernel_rfl)) (by decide) (fun K hK => ?_)
  ·refine box_step ?hg (N:=43) ?hd (cs:=#[.slice (some ⟨g1,0,none⟩) 1 1,.int .i64 (rd_T35 l0 si).f0,.int .i64 (rd_T35 l0 si).f1,.int .i64 (rd_T35 l0 si).f2,.int .i64 (rd_T35 l0 si).f3]) (t:=74) ?hr ?_;(case hd => rfl);(case hg => rfl);(case hr => first|(go_simp;done)|(go_simp;rfl))
   intro gA hg_ w1_ b_gA hb_
   have l_gA : w2.heap.size ≤ gA:=by rw [hg_];exact hB_.size
   have n_gA_gB : gA ≠ gB:=by have h_ : gB < w_.heap.size:=b_gB.lt;omega
   replace b_g1:=b_g1.keep hb_
   replace b_g2:=b_g2.keep hb_
   replace b_gB:=b_gB.keep hb_
   replace b_gp:=b_gp.keep hb_
   replace b_gq:=b_gq.keep hb_
   replace hB_:=keep_below hB_ hb_
   clear hb_ hg_
   refine hK.out _ _ hB_ (fun hHeld => ?_)
   clear hK K
   exact norm_ (by simp only [putAll,Act.put,sA,sZ,sS] <;> rfl) (hJ_1_7_9_15_16_17 (g1,gA,g2,gB,gp,gq) _ ⟨hB_,b_g1,l_g1,b_gA,l_gA,b_g2,l_g2,b_gB,l_gB,b_gp,l_gp,b_gq,l_gq,n_g1_g2,n_gA_gB,n_gp_gq⟩)
 ·rintro ⟨g1,gA,g2,gB⟩ w_ ⟨hB_,b_g1,l_g1,b_gA,l_gA,b_g2,l_g2,b_gB,l_gB,n_g1_g2,n_gA_gB⟩
  have hHeld:=hB_
  refine norm_ (a':=?_) ?_ ?_
  rotate_left
  ·simp only [putAll,Act.put,sA,sZ,sS]
   rfl
  refine two_ (i:=16) (j:=17) (Ni:=some 9) (Nj:=some 10) #[tt,tt,tt,tt,tt,tt,tt,tt,tt,tt,tt,tt,tt,tt,tt,tt,tt,ff,ff,ff] #[tt,tt,tt,tt,tt,tt,tt,tt,tt,tt,tt,tt,tt,tt,tt,tt,ff,tt,ff,ff] rfl rfl rfl rfl (two_of HT_.out (by kernel_rfl)) (by decide) (by decide) (fun K hK => ?_) (fun K hK => ?_)
  ·refine box_step ?hg (N:=9) ?hd (cs:=#[.pointer none]) (t:=72) ?hr ?_;(case hd => rfl);(case hg => rfl);(case hr => first|(go_simp;done)|(go_simp;rfl))
   intro gp hg_ w1_ b_gp hb_
   have l_gp : w2.heap.size ≤ gp:=by rw [hg_];exact hB_.size
   replace b_g1:=b_g1.keep hb_
   replace b_gA:=b_gA.keep hb_
   replace b_g2:=b_g2.keep hb_
   replace b_gB:=b_gB.keep hb_
   replace hB_:=keep_below hB_ hb_
   clear hb_ hg_
   refine hK.out _ _ hB_ (fun hHeld => ?_)
   clear hK K
   exact norm_ (by simp only [putAll,Act.put,sA,sZ,sS] <;> rfl) (hJ_1_7_9_15_16 (g1,gA,g2,gB,gp) _ ⟨hB_,b_g1,l_g1,b_gA,l_gA,b_g2,l_g2,b_gB,l_gB,b_gp,l_gp,n_g1_g2,n_gA_gB⟩)
  ·refine box_step ?hg (N:=10) ?hd (cs:=#[.pointer none]) (t:=72) ?hr ?_;(case hd => rfl);(case hg => rfl);(case hr => first|(go_simp;done)|(go_simp;rfl))
   intro gq hg_ w1_ b_gq hb_
   have l_gq : w2.heap.size ≤ gq:=by rw [hg_];exact hB_.size
   replace b_g1:=b_g1.keep hb_
   replace b_gA:=b_gA.keep hb_
   replace b_g2:=b_g2.keep hb_
   replace b_gB:=b_gB.keep hb_
   replace hB_:=keep_below hB_ hb_
   clear hb_ hg_
   refine hK.out _ _ hB_ (fun hHeld => ?_)
   clear hK K
   exact norm_ (by simp only [putAll,Act.put,sA,sZ,sS] <;> rfl) (hJ_1_7_9_15_17 (g1,gA,g2,gB,gq) _ ⟨hB_,b_g1,l_g1,b_gA,l_gA,b_g2,l_g2,b_gB,l_gB,b_gq,l_gq,n_g1_g2,n_gA_gB⟩)
 ·rintro ⟨g1,gA,g2,gp⟩ w_ ⟨hB_,b_g1,l_g1,b_gA,l_gA,b_g2,l_g2,b_gp,l_gp,n_g1_g2⟩
  have hHeld:=hB_
  refine norm_ (a':=?_) ?_ ?_
  rotate_left
  ·simp only [putAll,Act.put,sA,sZ,sS]
   rfl
  refine two_ (i:=15) (j:=17) (Ni:=some 51) (Nj:=some 10) #[tt,tt,tt,tt,tt,tt,tt,tt,tt,tt,tt,tt,tt,tt,tt,tt,tt,ff,ff,ff] #[tt,tt,tt,tt,tt,tt,tt,tt,tt,tt,tt,tt,tt,tt,tt,ff,tt,tt,ff,ff] rfl rfl rfl rfl (two_of HT_.out (by kernel_rfl)) (by decide) (by decide) (fun K hK => ?_) (fun K hK => ?_)
  ·refine box_step ?hg (N:=51) ?hd (cs:=#[.slice (some ⟨g2,0,none⟩) 1 1,.int .i64 (rd_T35 l0 sj).f0,.int .i64 (rd_T35 l0 sj).f1,.int .i64 (rd_T35 l0 sj).f2,.int .i64 (rd_T35 l0 sj).f3]) (t:=74) ?hr ?_;(case hd => rfl);(case hg => rfl);(case hr => first|(go_simp;done)|(go_simp;rfl))
   intro gB hg_ w1_ b_gB hb_
   have l_gB : w2.heap.size ≤ gB:=by rw [hg_];exact hB_.size
   have n_gA_gB : gA ≠ gB:=by have h_ : gA < w_.heap.size:=b_gA.lt;omega
   replace b_g1:=b_g1.keep hb_
   replace b_gA:=b_gA.keep hb_
   replace b_g2:=b_g2.keep hb_
   replace b_gp:=b_gp.keep hb_
   replace hB_:=keep_below hB_ hb_
   clear hb_ hg_
   refine hK.out _ _ hB_ (fun hHeld => ?_)
   clear hK K
   exact norm_ (by simp only [putAll,Act.put,sA,sZ,sS] <;> rfl) (hJ_1_7_9_15_16 (g1,gA,g2,gB,gp) _ ⟨hB_,b_g1,l_g1,b_gA,l_gA,b_g2,l_g2,b_gB,l_gB,b_gp,l_gp,n_g1_g2,n_gA_gB⟩)
  ·refine box_step ?hg (N:=10) ?hd (cs:=#[.pointer none]) (t:=72) ?hr ?_;(case hd => rfl);(case hg => rfl);(case hr => first|(go_simp;done)|(go_simp;rfl))
   intro gq hg_ w1_ b_gq hb_
   have l_gq : w2.heap.size ≤ gq:=by rw [hg_];exact hB_.size
   have n_gp_gq : gp ≠ gq:=by have h_ : gp < w_.heap.size:=b_gp.lt;omega
   replace b_g1:=b_g1.keep hb_
   replace b_gA:=b_gA.keep hb_
   replace b_g2:=b_g2.keep hb_
   replace b_gp:=b_gp.keep hb_
   replace hB_:=keep_below hB_ hb_
   clear hb_ hg_
   refine hK.out _ _ hB_ (fun hHeld => ?_)
   clear hK K
   exact norm_ (by simp only [putAll,Act.put,sA,sZ,sS] <;> rfl) (hJ_1_7_9_16_17 (g1,gA,g2,gp,gq) _ ⟨hB_,b_g1,l_g1,b_gA,l_gA,b_g2,l_g2,b_gp,l_gp,b_gq,l_gq,n_g1_g2,n_gp_gq⟩)
 ·rintro ⟨g1,gA,g2,gq⟩ w_ ⟨hB_,b_g1,l_g1,b_gA,l_gA,b_g2,l_g2,b_gq,l_gq,n_g1_g2⟩
  have hHeld:=hB_
  refine norm_ (a':=?_) ?_ ?_
  rotate_left
  ·simp only [putAll,Act.put,sA,sZ,sS]
   rfl
  refine two_ (i:=15) (j:=16) (Ni:=some 51) (Nj:=some 9) #[tt,tt,tt,tt,tt,tt,tt,tt,tt,tt,tt,tt,tt,tt,tt,tt,ff,tt,ff,ff] #[tt,tt,tt,tt,tt,tt,tt,tt,tt,tt,tt,tt,tt,tt,tt,ff,tt,tt,ff,ff] rfl rfl rfl rfl (two_of HT_.out (by kernel_rfl)) (by decide) (by decide) (fun K hK => ?_) (fun K hK => ?_)
  ·refine box_step ?hg (N:=51) ?hd (cs:=#[.slice (some ⟨g2,0,none⟩) 1 1,.int .i64 (rd_T35 l0 sj).f0,.int .i64 (rd_T35 l0 sj).f1,.int .i64 (rd_T35 l0 sj).f2,.int .i64 (rd_T35 l0 sj).f3]) (t:=74) ?hr ?_;(case hd => rfl);(case hg => rfl);(case hr => first|(go_simp;done)|(go_simp;rfl))
   intro gB hg_ w1_ b_gB hb_
   have l_gB : w2.heap.size ≤ gB:=by rw [hg_];exact hB_.size
   have n_gA_gB : gA ≠ gB:=by have h_ : gA < w_.heap.size:=b_gA.lt;omega
   replace b_g1:=b_g1.keep hb_
   replace b_gA:=b_gA.keep hb_
   replace b_g2:=b_g2.keep hb_
   replace b_gq:=b_gq.keep hb_
   replace hB_:=keep_below hB_ hb_
   clear hb_ hg_
   refine hK.out _ _ hB_ (fun hHeld => ?_)
   clear hK K
   exact norm_ (by simp only [putAll,Act.put,sA,sZ,sS] <;> rfl) (hJ_1_7_9_15_17 (g1,gA,g2,gB,gq) _ ⟨hB_,b_g1,l_g1,b_gA,l_gA,b_g2,l_g2,b_gB,l_gB,b_gq,l_gq,n_g1_g2,n_gA_gB⟩)
  ·refine box_step ?hg (N:=9) ?hd (cs:=#[.pointer none]) (t:=72) ?hr ?_;(case hd => rfl);(case hg => rfl);(case hr => first|(go_simp;done)|(go_simp;rfl))
   intro gp hg_ w1_ b_gp hb_
   have l_gp : w2.heap.size ≤ gp:=by rw [hg_];exact hB_.size
   have n_gp_gq : gp ≠ gq:=by have h_ : gq < w_.heap.size:=b_gq.lt;omega
   replace b_g1:=b_g1.keep hb_
   replace b_gA:=b_gA.keep hb_
   replace b_g2:=b_g2.keep hb_
   replace b_gq:=b_gq.keep hb_
   replace hB_:=keep_below hB_ hb_
   clear hb_ hg_
   refine hK.out _ _ hB_ (fun hHeld => ?_)
   clear hK K
   exact norm_ (by simp only [putAll,Act.put,sA,sZ,sS] <;> rfl) (hJ_1_7_9_16_17 (g1,gA,g2,gp,gq) _ ⟨hB_,b_g1,l_g1,b_gA,l_gA,b_g2,l_g2,b_gp,l_gp,b_gq,l_gq,n_g1_g2,n_gp_gq⟩)
 ·rintro ⟨g1,gA,gp,gq⟩ w_ ⟨hB_,b_g1,l_g1,b_gA,l_gA,b_gp,l_gp,b_gq,l_gq,n_gp_gq⟩
  have hHeld:=hB_
  refine norm_ (a':=?_) ?_ ?_
  rotate_left
  ·simp only [putAll,Act.put,sA,sZ,sS]
   rfl
  refine two_ (i:=9) (j:=18) (Ni:=some 45) (Nj:=none) #[tt,tt,tt,tt,tt,tt,tt,tt,tt,tt,tt,tt,tt,tt,ff,ff,tt,tt,ff,ff] #[tt,tt,tt,tt,tt,tt,tt,tt,tt,ff,tt,tt,tt,tt,ff,ff,tt,tt,tt,ff] rfl rfl rfl rfl (two_of HT_.out (by kernel_rfl)) (by decide) (by decide) (fun K hK => ?_) (fun K hK => ?_)
  ·refine slice_step ?hg (N:=45) ?hd (cs:=#[.int .i64 sj]) (t:=3) (n:=1) ?hr ?_;(case hd => rfl);(case hg => rfl);(case hr => first|(go_simp;done)|(go_simp;rfl))
   intro g2 hg_ w1_ b_g2 hb_
   have l_g2 : w2.heap.size ≤ g2:=by rw [hg_];exact hB_.size
   have n_g1_g2 : g1 ≠ g2:=by have h_ : g1 < w_.heap.size:=b_g1.lt;omega
   replace b_g1:=b_g1.keep hb_
   replace b_gA:=b_gA.keep hb_
   replace b_gp:=b_gp.keep hb_
   replace b_gq:=b_gq.keep hb_
   replace hB_:=keep_below hB_ hb_
   clear hb_ hg_
   refine hK.out _ _ hB_ (fun hHeld => ?_)
   clear hK K
   refine norm_ (a':=?_) ?_ ?_
   rotate_left
   ·show Act.put _ (some 45) _ = _
    simp only [Act.put,sA,sZ,sS]
    rfl
   refine pure_ (i:=14) (N:=some 50) (v:=?_) (a':=?_) #[tt,tt,tt,tt,tt,tt,tt,tt,tt,tt,tt,tt,tt,tt,tt,ff,tt,tt,ff,ff] rfl rfl (any_of HT_.out (by kernel_rfl)) (fun _ _ _ h => h) (Or.inl ⟨by rfl,?_⟩) ?_ ?_
   rotate_left
   ·intro w'
    go_simp
    with_reducible rfl
   rotate_left
   ·simp only [Act.put,sA,sZ,sS,i64_w,i32_w]
    rfl
   exact norm_ (by simp only [putAll,Act.put,sA,sZ,sS] <;> rfl) (hJ_1_7_9_16_17 (g1,gA,g2,gp,gq) _ ⟨hB_,b_g1,l_g1,b_gA,l_gA,b_g2,l_g2,b_gp,l_gp,b_gq,l_gq,n_g1_g2,n_gp_gq⟩)
  ·have z_:=b_gp.frozen 0
   have c_ : _ = some _:=(b_gp.cell 0).trans rfl
   refine skip_ (w1:=?_) (by rfl) rfl ?_ ?_
   rotate_left
   ·go_simp
    with_reducible rfl
   clear z_ c_
   have b_g1':=b_g1.far (p:=⟨gp,0,none⟩) (b_g1.ne_ b_gp (by decide)) (.pointer (some ⟨gA,0,none⟩))
   have b_gA':=b_gA.far (p:=⟨gp,0,none⟩) (b_gA.ne_ b_gp (by decide)) (.pointer (some ⟨gA,0,none⟩))
   have b_gq':=b_gq.far (p:=⟨gp,0,none⟩) n_gp_gq.symm (.pointer (some ⟨gA,0,none⟩))
   replace hB_:=hB_.setCell (p:=⟨gp,0,none⟩) l_gp (.pointer (some ⟨gA,0,none⟩))
   have b_gp' : Blk (w_.setCell ⟨gp,0,none⟩ (.pointer (some ⟨gA,0,none⟩))) gp 72 #[.pointer (some ⟨gA,0,none⟩)]:=by simpa using b_gp.set_ 0 (.pointer (some ⟨gA,0,none⟩))
   clear b_g1 b_gA b_gp b_gq
   have b_g1:=b_g1'
   have b_gA:=b_gA'
   have b_gp:=b_gp'
   have b_gq:=b_gq'
   clear b_g1' b_gA' b_gp' b_gq'
   refine hK.out _ _ hB_ (fun hHeld => ?_)
   clear hK K
   exact norm_ (by first|(simp only [putAll,Act.put,sA,sZ,sS];done)|(simp only [putAll,Act.put,sA,sZ,sS];rfl)|rfl) (hJ_1_7_16_17_18 (g1,gA,gp,gq) _ ⟨hB_,b_g1,l_g1,b_gA,l_gA,b_gp,l_gp,b_gq,l_gq,n_gp_gq⟩)
 ·rintro ⟨g1,g2,gB,gp⟩ w_ ⟨hB_,b_g1,l_g1,b_g2,l_g2,b_gB,l_gB,b_gp,l_gp,n_g1_g2⟩
  have hHeld:=hB_
  refine norm_ (a':=?_) ?_ ?_
  rotate_left
  ·simp only [putAll,Act.put,sA,sZ,sS]
   rfl
  refine two_ (i:=7) (j:=17) (Ni:=some 43) (Nj:=some 10) #[tt,tt,tt,tt,tt,tt,tt,tt,tt,tt,tt,tt,tt,tt,tt,tt,tt,ff,ff,ff] #[tt,tt,tt,tt,tt,tt,tt,ff,tt,tt,tt,tt,tt,tt,tt,tt,tt,tt,ff,ff] rfl rfl rfl rfl (two_of HT_.out (by kernel_rfl)) (by decide) (by decide) (fun K hK => ?_) (fun K hK => ?_)
  ·refine box_step ?hg (N:=43) ?hd (cs:=#[.slice (some ⟨g1,0,none⟩) 1 1,.int .i64 (rd_T35 l0 si).f0,.int .i64 (rd_T35 l0 si).f1,.int .i64 (rd_T35 l0 si).f2,.int .i64 (rd_T35 l0 si).f3]) (t:=74) ?hr ?_;(case hd => rfl);(case hg => rfl);(case hr => first|(go_simp;done)|(go_simp;rfl))
   intro gA hg_ w1_ b_gA hb_
   have l_gA : w2.heap.size ≤ gA:=by rw [hg_];exact hB_.size
   have n_gA_gB : gA ≠ gB:=by have h_ : gB < w_.heap.size:=b_gB.lt;omega
   replace b_g1:=b_g1.keep hb_
   replace b_g2:=b_g2.keep hb_
   replace b_gB:=b_gB.keep hb_
   replace b_gp:=b_gp.keep hb_
   replace hB_:=keep_below hB_ hb_
   clear hb_ hg_
   refine hK.out _ _ hB_ (fun hHeld => ?_)
   clear hK K
   exact norm_ (by simp only [putAll,Act.put,sA,sZ,sS] <;> rfl) (hJ_1_7_9_15_16 (g1,gA,g2,gB,gp) _ ⟨hB_,b_g1,l_g1,b_gA,l_gA,b_g2,l_g2,b_gB,l_gB,b_gp,l_gp,n_g1_g2,n_gA_gB⟩)
  ·refine box_step ?hg (N:=10) ?hd (cs:=#[.pointer none]) (t:=72) ?hr ?_;(case hd => rfl);(case hg => rfl);(case hr => first|(go_simp;done)|(go_simp;rfl))
   intro gq hg_ w1_ b_gq hb_
   have l_gq : w2.heap.size ≤ gq:=by rw [hg_];exact hB_.size
   have n_gp_gq : gp ≠ gq:=by have h_ : gp < w_.heap.size:=b_gp.lt;omega
   replace b_g1:=b_g1.keep hb_
   replace b_g2:=b_g2.keep hb_
   replace b_gB:=b_gB.keep hb_
   replace b_gp:=b_gp.keep hb_
   replace hB_:=keep_below hB_ hb_
   clear hb_ hg_
   refine hK.out _ _ hB_ (fun hHeld => ?_)
   clear hK K
   exact norm_ (by simp only [putAll,Act.put,sA,sZ,sS] <;> rfl) (hJ_1_9_15_16_17 (g1,g2,gB,gp,gq) _ ⟨hB_,b_g1,l_g1,b_g2,l_g2,b_gB,l_gB,b_gp,l_gp,b_gq,l_gq,n_g1_g2,n_gp_gq⟩)
 ·rintro ⟨g1,g2,gB,gq⟩ w_ ⟨hB_,b_g1,l_g1,b_g2,l_g2,b_gB,l_gB,b_gq,l_gq,n_g1_g2⟩
  have hHeld:=hB_
  refine norm_ (a':=?_) ?_ ?_
  rotate_left
  ·simp only [putAll,Act.put,sA,sZ,sS]
   rfl
  refine two_ (i:=7) (j:=16) (Ni:=some 43) (Nj:=some 9) #[tt,tt,tt,tt,tt,tt,tt,tt,tt,tt,tt,tt,tt,tt,tt,tt,ff,tt,ff,ff] #[tt,tt,tt,tt,tt,tt,tt,ff,tt,tt,tt,tt,tt,tt,tt,tt,tt,tt,ff,ff] rfl rfl rfl rfl (two_of HT_.out (by kernel_rfl)) (by decide) (by decide) (fun K hK => ?_) (fun K hK => ?_)
  ·refine box_step ?hg (N:=43) ?hd (cs:=#[.slice (some ⟨g1,0,none⟩) 1 1,.int .i64 (rd_T35 l0 si).f0,.int .i64 (rd_T35 l0 si).f1,.int .i64 (rd_T35 l0 si).f2,.int .i64 (rd_T35 l0 si).f3]) (t:=74) ?hr ?_;(case hd => rfl);(case hg => rfl);(case hr => first|(go_simp;done)|(go_simp;rfl))
   intro gA hg_ w1_ b_gA hb_
   have l_gA : w2.heap.size ≤ gA:=by rw [hg_];exact hB_.size
   have n_gA_gB : gA ≠ gB:=by have h_ : gB < w_.heap.size:=b_gB.lt;omega
   replace b_g1:=b_g1.keep hb_
   replace b_g2:=b_g2.keep hb_
   replace b_gB:=b_gB.keep hb_
   replace b_gq:=b_gq.keep hb_
   replace hB_:=keep_below hB_ hb_
   clear hb_ hg_
   refine hK.out _ _ hB_ (fun hHeld => ?_)
   clear hK K
   exact norm_ (by simp only [putAll,Act.put,sA,sZ,sS] <;> rfl) (hJ_1_7_9_15_17 (g1,gA,g2,gB,gq) _ ⟨hB_,b_g1,l_g1,b_gA,l_gA,b_g2,l_g2,b_gB,l_gB,b_gq,l_gq,n_g1_g2,n_gA_gB⟩)
  ·refine box_step ?hg (N:=9) ?hd (cs:=#[.pointer none]) (t:=72) ?hr ?_;(case hd => rfl);(case hg => rfl);(case hr => first|(go_simp;done)|(go_simp;rfl))
   intro gp hg_ w1_ b_gp hb_
   have l_gp : w2.heap.size ≤ gp:=by rw [hg_];exact hB_.size
   have n_gp_gq : gp ≠ gq:=by have h_ : gq < w_.heap.size:=b_gq.lt;omega
   replace b_g1:=b_g1.keep hb_
   replace b_g2:=b_g2.keep hb_
   replace b_gB:=b_gB.keep hb_
   replace b_gq:=b_gq.keep hb_
   replace hB_:=keep_below hB_ hb_
   clear hb_ hg_
   refine hK.out _ _ hB_ (fun hHeld => ?_)
   clear hK K
   exact norm_ (by simp only [putAll,Act.put,sA,sZ,sS] <;> rfl) (hJ_1_9_15_16_17 (g1,g2,gB,gp,gq) _ ⟨hB_,b_g1,l_g1,b_g2,l_g2,b_gB,l_gB,b_gp,l_gp,b_gq,l_gq,n_g1_g2,n_gp_gq⟩)
 ·rintro ⟨g1,g2,gp,gq⟩ w_ ⟨hB_,b_g1,l_g1,b_g2,l_g2,b_gp,l_gp,b_gq,l_gq,n_g1_g2,n_gp_gq⟩
  have hHeld:=hB_
  refine norm_ (a':=?_) ?_ ?_
  rotate_left
  ·simp only [putAll,Act.put,sA,sZ,sS]
   rfl
  refine two_ (i:=7) (j:=15) (Ni:=some 43) (Nj:=some 51) #[tt,tt,tt,tt,tt,tt,tt,tt,tt,tt,tt,tt,tt,tt,tt,ff,tt,tt,ff,ff] #[tt,tt,tt,tt,tt,tt,tt,ff,tt,tt,tt,tt,tt,tt,tt,tt,tt,tt,ff,ff] rfl rfl rfl rfl (two_of HT_.out (by kernel_rfl)) (by decide) (by decide) (fun K hK => ?_) (fun K hK => ?_)
  ·refine box_step ?hg (N:=43) ?hd (cs:=#[.slice (some ⟨g1,0,none⟩) 1 1,.int .i64 (rd_T35 l0 si).f0,.int .i64 (rd_T35 l0 si).f1,.int .i64 (rd_T35 l0 si).f2,.int .i64 (rd_T35 l0 si).f3]) (t:=74) ?hr ?_;(case hd => rfl);(case hg => rfl);(case hr => first|(go_simp;done)|(go_simp;rfl))
   intro gA hg_ w1_ b_gA hb_
   have l_gA : w2.heap.size ≤ gA:=by rw [hg_];exact hB_.size
   replace b_g1:=b_g1.keep hb_
   replace b_g2:=b_g2.keep hb_
   replace b_gp:=b_gp.keep hb_
   replace b_gq:=b_gq.keep hb_
   replace hB_:=keep_below hB_ hb_
   clear hb_ hg_
   refine hK.out _ _ hB_ (fun hHeld => ?_)
   clear hK K
   exact norm_ (by simp only [putAll,Act.put,sA,sZ,sS] <;> rfl) (hJ_1_7_9_16_17 (g1,gA,g2,gp,gq) _ ⟨hB_,b_g1,l_g1,b_gA,l_gA,b_g2,l_g2,b_gp,l_gp,b_gq,l_gq,n_g1_g2,n_gp_gq⟩)
  ·refine box_step ?hg (N:=51) ?hd (cs:=#[.slice (some ⟨g2,0,none⟩) 1 1,.int .i64 (rd_T35 l0 sj).f0,.int .i64 (rd_T35 l0 sj).f1,.int .i64 (rd_T35 l0 sj).f2,.int .i64 (rd_T35 l0 sj).f3]) (t:=74) ?hr ?_;(case hd => rfl);(case hg => rfl);(case hr => first|(go_simp;done)|(go_simp;rfl))
   intro gB hg_ w1_ b_gB hb_
   have l_gB : w2.heap.size ≤ gB:=by rw [hg_];exact hB_.size
   replace b_g1:=b_g1.keep hb_
   replace b_g2:=b_g2.keep hb_
   replace b_gp:=b_gp.keep hb_
   replace b_gq:=b_gq.keep hb_
   replace hB_:=keep_below hB_ hb_
   clear hb_ hg_
   refine hK.out _ _ hB_ (fun hHeld => ?_)
   clear hK K
   exact norm_ (by simp only [putAll,Act.put,sA,sZ,sS] <;> rfl) (hJ_1_9_15_16_17 (g1,g2,gB,gp,gq) _ ⟨hB_,b_g1,l_g1,b_g2,l_g2,b_gB,l_gB,b_gp,l_gp,b_gq,l_gq,n_g1_g2,n_gp_gq⟩)
 ·rintro ⟨g2,gB,gp,gq⟩ w_ ⟨hB_,b_g2,l_g2,b_gB,l_gB,b_gp,l_gp,b_gq,l_gq,n_gp_gq⟩
  have hHeld:=hB_
  refine norm_ (a':=?_) ?_ ?_
  rotate_left
  ·simp only [putAll,Act.put,sA,sZ,sS]
   rfl
  refine one_ (i:=1) (N:=some 37) #[tt,tt,tt,tt,tt,tt,ff,ff,tt,tt,tt,tt,tt,tt,tt,tt,tt,tt,ff,ff] rfl rfl (one_of HT_.out (by kernel_rfl)) (by decide) (fun K hK => ?_)
  ·refine slice_step ?hg (N:=37) ?hd (cs:=#[.int .i64 si]) (t:=3) (n:=1) ?hr ?_;(case hd => rfl);(case hg => rfl);(case hr => first|(go_simp;done)|(go_simp;rfl))
   intro g1 hg_ w1_ b_g1 hb_
   have l_g1 : w2.heap.size ≤ g1:=by rw [hg_];exact hB_.size
   have n_g1_g2 : g1 ≠ g2:=by have h_ : g2 < w_.heap.size:=b_g2.lt;omega
   replace b_g2:=b_g2.keep hb_
   replace b_gB:=b_gB.keep hb_
   replace b_gp:=b_gp.keep hb_
   replace b_gq:=b_gq.keep hb_
   replace hB_:=keep_below hB_ hb_
   clear hb_ hg_
   refine hK.out _ _ hB_ (fun hHeld => ?_)
   clear hK K
   refine norm_ (a':=?_) ?_ ?_
   rotate_left
   ·show Act.put _ (some 37) _ = _
    simp only [Act.put,sA,sZ,sS]
    rfl
   refine pure_ (i:=6) (N:=some 42) (v:=?_) (a':=?_) #[tt,tt,tt,tt,tt,tt,tt,ff,tt,tt,tt,tt,tt,tt,tt,tt,tt,tt,ff,ff] rfl rfl (any_of HT_.out (by kernel_rfl)) (fun _ _ _ h => h) (Or.inl ⟨by rfl,?_⟩) ?_ ?_
   rotate_left
   ·intro w'
    go_simp
    with_reducible rfl
   rotate_left
   ·simp only [Act.put,sA,sZ,sS,i64_w,i32_w]
    rfl
   exact norm_ (by simp only [putAll,Act.put,sA,sZ,sS] <;> rfl) (hJ_1_9_15_16_17 (g1,g2,gB,gp,gq) _ ⟨hB_,b_g1,l_g1,b_g2,l_g2,b_gB,l_gB,b_gp,l_gp,b_gq,l_gq,n_g1_g2,n_gp_gq⟩)
 ·rintro ⟨g1,gA,g2⟩ w_ ⟨hB_,b_g1,l_g1,b_gA,l_gA,b_g2,l_g2,n_g1_g2⟩
  have hHeld:=hB_
  refine norm_ (a':=?_) ?_ ?_
  rotate_left
  ·simp only [putAll,Act.put,sA,sZ,sS]
   rfl
  refine three_ (i:=15) (j:=16) (k:=17) (Ni:=some 51) (Nj:=some 9) (Nk:=some 10) #[tt,tt,tt,tt,tt,tt,tt,tt,tt,tt,tt,tt,tt,tt,tt,tt,ff,ff,ff,ff] #[tt,tt,tt,tt,tt,tt,tt,tt,tt,tt,tt,tt,tt,tt,tt,ff,tt,ff,ff,ff] #[tt,tt,tt,tt,tt,tt,tt,tt,tt,tt,tt,tt,tt,tt,tt,ff,ff,tt,ff,ff] rfl rfl rfl rfl rfl rfl (three_of HT_.out (by kernel_rfl)) (by decide) (by decide) (by decide) (fun K hK => ?_) (fun K hK => ?_) (fun K hK => ?_)
  ·refine box_step ?hg (N:=51) ?hd (cs:=#[.slice (some ⟨g2,0,none⟩) 1 1,.int .i64 (rd_T35 l0 sj).f0,.int .i64 (rd_T35 l0 sj).f1,.int .i64 (rd_T35 l0 sj).f2,.int .i64 (rd_T35 l0 sj).f3]) (t:=74) ?hr ?_;(case hd => rfl);(case hg => rfl);(case hr => first|(go_simp;done)|(go_simp;rfl))
   intro gB hg_ w1_ b_gB hb_
   have l_gB : w2.heap.size ≤ gB:=by rw [hg_];exact hB_.size
   have n_gA_gB : gA ≠ gB:=by have h_ : gA < w_.heap.size:=b_gA.lt;omega
   replace b_g1:=b_g1.keep hb_
   replace b_gA:=b_gA.keep hb_
   replace b_g2:=b_g2.keep hb_
   replace hB_:=keep_below hB_ hb_
   clear hb_ hg_
   refine hK.out _ _ hB_ (fun hHeld => ?_)
   clear hK K
   exact norm_ (by simp only [putAll,Act.put,sA,sZ,sS] <;> rfl) (hJ_1_7_9_15 (g1,gA,g2,gB) _ ⟨hB_,b_g1,l_g1,b_gA,l_gA,b_g2,l_g2,b_gB,l_gB,n_g1_g2,n_gA_gB⟩)
  ·refine box_step ?hg (N:=9) ?hd (cs:=#[.pointer none]) (t:=72) ?hr ?_;(case hd => rfl);(case hg => rfl);(case hr => first|(go_simp;done)|(go_simp;rfl))
   intro gp hg_ w1_ b_gp hb_
   have l_gp : w2.heap.size ≤ gp:=by rw [hg_];exact hB_.size
   replace b_g1:=b_g1.keep hb_
   replace b_gA:=b_gA.keep hb_
   replace b_g2:=b_g2.keep hb_
   replace hB_:=keep_below hB_ hb_
   clear hb_ hg_
   refine hK.out _ _ hB_ (fun hHeld => ?_)
   clear hK K
   exact norm_ (by simp only [putAll,Act.put,sA,sZ,sS] <;> rfl) (hJ_1_7_9_16 (g1,gA,g2,gp) _ ⟨hB_,b_g1,l_g1,b_gA,l_gA,b_g2,l_g2,b_gp,l_gp,n_g1_g2⟩)
  ·refine box_step ?hg (N:=10) ?hd (cs:=#[.pointer none]) (t:=72) ?hr ?_;(case hd => rfl);(case hg => rfl);(case hr => first|(go_simp;done)|(go_simp;rfl))
   intro gq hg_ w1_ b_gq hb_
   have l_gq : w2.heap.size ≤ gq:=by rw [hg_];exact hB_.size
   replace b_g1:=b_g1.keep hb_
   replace b_gA:=b_gA.keep hb_
   replace b_g2:=b_g2.keep hb_
   replace hB_:=keep_below hB_ hb_
   clear hb_ hg_
   refine hK.out _ _ hB_ (fun hHeld => ?_)
   clear hK K
   exact norm_ (by simp only [putAll,Act.put,sA,sZ,sS] <;> rfl) (hJ_1_7_9_17 (g1,gA,g2,gq) _ ⟨hB_,b_g1,l_g1,b_gA,l_gA,b_g2,l_g2,b_gq,l_gq,n_g1_g2⟩)
 ·rintro ⟨g1,gA,gp⟩ w_ ⟨hB_,b_g1,l_g1,b_gA,l_gA,b_gp,l_gp⟩
  have hHeld:=hB_
  refine norm_ (a':=?_) ?_ ?_
  rotate_left
  ·simp only [putAll,Act.put,sA,sZ,sS]
   rfl
  refine two_ (i:=9) (j:=17) (Ni:=some 45) (Nj:=some 10) #[tt,tt,tt,tt,tt,tt,tt,tt,tt,tt,tt,tt,tt,tt,ff,ff,tt,ff,ff,ff] #[tt,tt,tt,tt,tt,tt,tt,tt,tt,ff,tt,tt,tt,tt,ff,ff,tt,tt,ff,ff] rfl rfl rfl rfl (two_of HT_.out (by kernel_rfl)) (by decide) (by decide) (fun K hK => ?_) (fun K hK => ?_)
  ·refine slice_step ?hg (N:=45) ?hd (cs:=#[.int .i64 sj]) (t:=3) (n:=1) ?hr ?_;(case hd => rfl);(case hg => rfl);(case hr => first|(go_simp;done)|(go_simp;rfl))
   intro g2 hg_ w1_ b_g2 hb_
   have l_g2 : w2.heap.size ≤ g2:=by rw [hg_];exact hB_.size
   have n_g1_g2 : g1 ≠ g2:=by have h_ : g1 < w_.heap.size:=b_g1.lt;omega
   replace b_g1:=b_g1.keep hb_
   replace b_gA:=b_gA.keep hb_
   replace b_gp:=b_gp.keep hb_
   replace hB_:=keep_below hB_ hb_
   clear hb_ hg_
   refine hK.out _ _ hB_ (fun hHeld => ?_)
   clear hK K
   refine norm_ (a':=?_) ?_ ?_
   rotate_left
   ·show Act.put _ (some 45) _ = _
    simp only [Act.put,sA,sZ,sS]
    rfl
   refine pure_ (i:=14) (N:=some 50) (v:=?_) (a':=?_) #[tt,tt,tt,tt,tt,tt,tt,tt,tt,tt,tt,tt,tt,tt,tt,ff,tt,ff,ff,ff] rfl rfl (any_of HT_.out (by kernel_rfl)) (fun _ _ _ h => h) (Or.inl ⟨by rfl,?_⟩) ?_ ?_
   rotate_left
   ·intro w'
    go_simp
    with_reducible rfl
   rotate_left
   ·simp only [Act.put,sA,sZ,sS,i64_w,i32_w]
    rfl
   exact norm_ (by simp only [putAll,Act.put,sA,sZ,sS] <;> rfl) (hJ_1_7_9_16 (g1,gA,g2,gp) _ ⟨hB_,b_g1,l_g1,b_gA,l_gA,b_g2,l_g2,b_gp,l_gp,n_g1_g2⟩)
  ·refine box_step ?hg (N:=10) ?hd (cs:=#[.pointer none]) (t:=72) ?hr ?_;(case hd => rfl);(case hg => rfl);(case hr => first|(go_simp;done)|(go_simp;rfl))
   intro gq hg_ w1_ b_gq hb_
   have l_gq : w2.heap.size ≤ gq:=by rw [hg_];exact hB_.size
   have n_gp_gq : gp ≠ gq:=by have h_ : gp < w_.heap.size:=b_gp.lt;omega
   replace b_g1:=b_g1.keep hb_
   replace b_gA:=b_gA.keep hb_
   replace b_gp:=b_gp.keep hb_
   replace hB_:=keep_below hB_ hb_
   clear hb_ hg_
   refine hK.out _ _ hB_ (fun hHeld => ?_)
   clear hK K
   exact norm_ (by simp only [putAll,Act.put,sA,sZ,sS] <;> rfl) (hJ_1_7_16_17 (g1,gA,gp,gq) _ ⟨hB_,b_g1,l_g1,b_gA,l_gA,b_gp,l_gp,b_gq,l_gq,n_gp_gq⟩)
 ·rintro ⟨g1,gA,gq⟩ w_ ⟨hB_,b_g1,l_g1,b_gA,l_gA,b_gq,l_gq⟩
  have hHeld:=hB_
  refine norm_ (a':=?_) ?_ ?_
  rotate_left
  ·simp only [putAll,Act.put,sA,sZ,sS]
   rfl
  refine two_ (i:=9) (j:=16) (Ni:=some 45) (Nj:=some 9) #[tt,tt,tt,tt,tt,tt,tt,tt,tt,tt,tt,tt,tt,tt,ff,ff,ff,tt,ff,ff] #[tt,tt,tt,tt,tt,tt,tt,tt,tt,ff,tt,tt,tt,tt,ff,ff,tt,tt,ff,ff] rfl rfl rfl rfl (two_of HT_.out (by kernel_rfl)) (by decide) (by decide) (fun K hK => ?_) (fun K hK => ?_)
  ·refine slice_step ?hg (N:=45) ?hd (cs:=#[.int .i64 sj]) (t:=3) (n:=1) ?hr ?_;(case hd => rfl);(case hg => rfl);(case hr => first|(go_simp;done)|(go_simp;rfl))
   intro g2 hg_ w1_ b_g2 hb_
   have l_g2 : w2.heap.size ≤ g2:=by rw [hg_];exact hB_.size
   have n_g1_g2 : g1 ≠ g2:=by have h_ : g1 < w_.heap.size:=b_g1.lt;omega
   replace b_g1:=b_g1.keep hb_
   replace b_gA:=b_gA.keep hb_
   replace b_gq:=b_gq.keep hb_
   replace hB_:=keep_below hB_ hb_
   clear hb_ hg_
   refine hK.out _ _ hB_ (fun hHeld => ?_)
   clear hK K
   refine norm_ (a':=?_) ?_ ?_
   rotate_left
   ·show Act.put _ (some 45) _ = _
    simp only [Act.put,sA,sZ,sS]
    rfl
   refine pure_ (i:=14) (N:=some 50) (v:=?_) (a':=?_) #[tt,tt,tt,tt,tt,tt,tt,tt,tt,tt,tt,tt,tt,tt,tt,ff,ff,tt,ff,ff] rfl rfl (any_of HT_.out (by kernel_rfl)) (fun _ _ _ h => h) (Or.inl ⟨by rfl,?_⟩) ?_ ?_
   rotate_left
   ·intro w'
    go_simp
    with_reducible rfl
   rotate_left
   ·simp only [Act.put,sA,sZ,sS,i64_w,i32_w]
    rfl
   exact norm_ (by simp only [putAll,Act.put,sA,sZ,sS] <;> rfl) (hJ_1_7_9_17 (g1,gA,g2,gq) _ ⟨hB_,b_g1,l_g1,b_gA,l_gA,b_g2,l_g2,b_gq,l_gq,n_g1_g2⟩)
  ·refine box_step ?hg (N:=9) ?hd (cs:=#[.pointer none]) (t:=72) ?hr ?_;(case hd => rfl);(case hg => rfl);(case hr => first|(go_simp;done)|(go_simp;rfl))
   intro gp hg_ w1_ b_gp hb_
   have l_gp : w2.heap.size ≤ gp:=by rw [hg_];exact hB_.size
   have n_gp_gq : gp ≠ gq:=by have h_ : gq < w_.heap.size:=b_gq.lt;omega
   replace b_g1:=b_g1.keep hb_
   replace b_gA:=b_gA.keep hb_
   replace b_gq:=b_gq.keep hb_
   replace hB_:=keep_below hB_ hb_
   clear hb_ hg_
   refine hK.out _ _ hB_ (fun hHeld => ?_)
   clear hK K
   exact norm_ (by simp only [putAll,Act.put,sA,sZ,sS] <;> rfl) (hJ_1_7_16_17 (g1,gA,gp,gq) _ ⟨hB_,b_g1,l_g1,b_gA,l_gA,b_gp,l_gp,b_gq,l_gq,n_gp_gq⟩)
 ·rintro ⟨g1,g2,gB⟩ w_ ⟨hB_,b_g1,l_g1,b_g2,l_g2,b_gB,l_gB,n_g1_g2⟩
  have hHeld:=hB_
  refine norm_ (a':=?_) ?_ ?_
  rotate_left
  ·simp only [putAll,Act.put,sA,sZ,sS]
   rfl
  refine three_ (i:=7) (j:=16) (k:=17) (Ni:=some 43) (Nj:=some 9) (Nk:=some 10) #[tt,tt,tt,tt,tt,tt,tt,tt,tt,tt,tt,tt,tt,tt,tt,tt,ff,ff,ff,ff] #[tt,tt,tt,tt,tt,tt,tt,ff,tt,tt,tt,tt,tt,tt,tt,tt,tt,ff,ff,ff] #[tt,tt,tt,tt,tt,tt,tt,ff,tt,tt,tt,tt,tt,tt,tt,tt,ff,tt,ff,ff] rfl rfl rfl rfl rfl rfl (three_of HT_.out (by kernel_rfl)) (by decide) (by decide) (by decide) (fun K hK => ?_) (fun K hK => ?_) (fun K hK => ?_)
  ·refine box_step ?hg (N:=43) ?hd (cs:=#[.slice (some ⟨g1,0,none⟩) 1 1,.int .i64 (rd_T35 l0 si).f0,.int .i64 (rd_T35 l0 si).f1,.int .i64 (rd_T35 l0 si).f2,.int .i64 (rd_T35 l0 si).f3]) (t:=74) ?hr ?_;(case hd => rfl);(case hg => rfl);(case hr => first|(go_simp;done)|(go_simp;rfl))
   intro gA hg_ w1_ b_gA hb_
   have l_gA : w2.heap.size ≤ gA:=by rw [hg_];exact hB_.size
   have n_gA_gB : gA ≠ gB:=by have h_ : gB < w_.heap.size:=b_gB.lt;omega
   replace b_g1:=b_g1.keep hb_
   replace b_g2:=b_g2.keep hb_
   replace b_gB:=b_gB.keep hb_
   replace hB_:=keep_below hB_ hb_
   clear hb_ hg_
   refine hK.out _ _ hB_ (fun hHeld => ?_)
   clear hK K
   exact norm_ (by simp only [putAll,Act.put,sA,sZ,sS] <;> rfl) (hJ_1_7_9_15 (g1,gA,g2,gB) _ ⟨hB_,b_g1,l_g1,b_gA,l_gA,b_g2,l_g2,b_gB,l_gB,n_g1_g2,n_gA_gB⟩)
  ·refine box_step ?hg (N:=9) ?hd (cs:=#[.pointer none]) (t:=72) ?hr ?_;(case hd => rfl);(case hg => rfl);(case hr => first|(go_simp;done)|(go_simp;rfl))
   intro gp hg_ w1_ b_gp hb_
   have l_gp : w2.heap.size ≤ gp:=by rw [hg_];exact hB_.size
   replace b_g1:=b_g1.keep hb_
   replace b_g2:=b_g2.keep hb_
   replace b_gB:=b_gB.keep hb_
   replace hB_:=keep_below hB_ hb_
   clear hb_ hg_
   refine hK.out _ _ hB_ (fun hHeld => ?_)
   clear hK K
   exact norm_ (by simp only [putAll,Act.put,sA,sZ,sS] <;> rfl) (hJ_1_9_15_16 (g1,g2,gB,gp) _ ⟨hB_,b_g1,l_g1,b_g2,l_g2,b_gB,l_gB,b_gp,l_gp,n_g1_g2⟩)
  ·refine box_step ?hg (N:=10) ?hd (cs:=#[.pointer none]) (t:=72) ?hr ?_;(case hd => rfl);(case hg => rfl);(case hr => first|(go_simp;done)|(go_simp;rfl))
   intro gq hg_ w1_ b_gq hb_
   have l_gq : w2.heap.size ≤ gq:=by rw [hg_];exact hB_.size
   replace b_g1:=b_g1.keep hb_
   replace b_g2:=b_g2.keep hb_
   replace b_gB:=b_gB.keep hb_
   replace hB_:=keep_below hB_ hb_
   clear hb_ hg_
   refine hK.out _ _ hB_ (fun hHeld => ?_)
   clear hK K
   exact norm_ (by simp only [putAll,Act.put,sA,sZ,sS] <;> rfl) (hJ_1_9_15_17 (g1,g2,gB,gq) _ ⟨hB_,b_g1,l_g1,b_g2,l_g2,b_gB,l_gB,b_gq,l_gq,n_g1_g2⟩)
 ·rintro ⟨g1,g2,gp⟩ w_ ⟨hB_,b_g1,l_g1,b_g2,l_g2,b_gp,l_gp,n_g1_g2⟩
  have hHeld:=hB_
  refine norm_ (a':=?_) ?_ ?_
  rotate_left
  ·simp only [putAll,Act.put,sA,sZ,sS]
   rfl
  refine three_ (i:=7) (j:=15) (k:=17) (Ni:=some 43) (Nj:=some 51) (Nk:=some 10) #[tt,tt,tt,tt,tt,tt,tt,tt,tt,tt,tt,tt,tt,tt,tt,ff,tt,ff,ff,ff] #[tt,tt,tt,tt,tt,tt,tt,ff,tt,tt,tt,tt,tt,tt,tt,tt,tt,ff,ff,ff] #[tt,tt,tt,tt,tt,tt,tt,ff,tt,tt,tt,tt,tt,tt,tt,ff,tt,tt,ff,ff] rfl rfl rfl rfl rfl rfl (three_of HT_.out (by kernel_rfl)) (by decide) (by decide) (by decide) (fun K hK => ?_) (fun K hK => ?_) (fun K hK => ?_)
  ·refine box_step ?hg (N:=43) ?hd (cs:=#[.slice (some ⟨g1,0,none⟩) 1 1,.int .i64 (rd_T35 l0 si).f0,.int .i64 (rd_T35 l0 si).f1,.int .i64 (rd_T35 l0 si).f2,.int .i64 (rd_T35 l0 si).f3]) (t:=74) ?hr ?_;(case hd => rfl);(case hg => rfl);(case hr => first|(go_simp;done)|(go_simp;rfl))
   intro gA hg_ w1_ b_gA hb_
   have l_gA : w2.heap.size ≤ gA:=by rw [hg_];exact hB_.size
   replace b_g1:=b_g1.keep hb_
   replace b_g2:=b_g2.keep hb_
   replace b_gp:=b_gp.keep hb_
   replace hB_:=keep_below hB_ hb_
   clear hb_ hg_
   refine hK.out _ _ hB_ (fun hHeld => ?_)
   clear hK K
   exact norm_ (by simp only [putAll,Act.put,sA,sZ,sS] <;> rfl) (hJ_1_7_9_16 (g1,gA,g2,gp) _ ⟨hB_,b_g1,l_g1,b_gA,l_gA,b_g2,l_g2,b_gp,l_gp,n_g1_g2⟩)
  ·refine box_step ?hg (N:=51) ?hd (cs:=#[.slice (some ⟨g2,0,none⟩) 1 1,.int .i64 (rd_T35 l0 sj).f0,.int .i64 (rd_T35 l0 sj).f1,.int .i64 (rd_T35 l0 sj).f2,.int .i64 (rd_T35 l0 sj).f3]) (t:=74) ?hr ?_;(case hd => rfl);(case hg => rfl);(case hr => first|(go_simp;done)|(go_simp;rfl))
   intro gB hg_ w1_ b_gB hb_
   have l_gB : w2.heap.size ≤ gB:=by rw [hg_];exact hB_.size
   replace b_g1:=b_g1.keep hb_
   replace b_g2:=b_g2.keep hb_
   replace b_gp:=b_gp.keep hb_
   replace hB_:=keep_below hB_ hb_
   clear hb_ hg_
   refine hK.out _ _ hB_ (fun hHeld => ?_)
   clear hK K
   exact norm_ (by simp only [putAll,Act.put,sA,sZ,sS] <;> rfl) (hJ_1_9_15_16 (g1,g2,gB,gp) _ ⟨hB_,b_g1,l_g1,b_g2,l_g2,b_gB,l_gB,b_gp,l_gp,n_g1_g2⟩)
  ·refine box_step ?hg (N:=10) ?hd (cs:=#[.pointer none]) (t:=72) ?hr ?_;(case hd => rfl);(case hg => rfl);(case hr => first|(go_simp;done)|(go_simp;rfl))
   intro gq hg_ w1_ b_gq hb_
   have l_gq : w2.heap.size ≤ gq:=by rw [hg_];exact hB_.size
   have n_gp_gq : gp ≠ gq:=by have h_ : gp < w_.heap.size:=b_gp.lt;omega
   replace b_g1:=b_g1.keep hb_
   replace b_g2:=b_g2.keep hb_
   replace b_gp:=b_gp.keep hb_
   replace hB_:=keep_below hB_ hb_
   clear hb_ hg_
   refine hK.out _ _ hB_ (fun hHeld => ?_)
   clear hK K
   exact norm_ (by simp only [putAll,Act.put,sA,sZ,sS] <;> rfl) (hJ_1_9_16_17 (g1,g2,gp,gq) _ ⟨hB_,b_g1,l_g1,b_g2,l_g2,b_gp,l_gp,b_gq,l_gq,n_g1_g2,n_gp_gq⟩)
 ·rintro ⟨g1,g2,gq⟩ w_ ⟨hB_,b_g1,l_g1,b_g2,l_g2,b_gq,l_gq,n_g1_g2⟩
  have hHeld:=hB_
  refine norm_ (a':=?_) ?_ ?_
  rotate_left
  ·simp only [putAll,Act.put,sA,sZ,sS]
   rfl
  refine three_ (i:=7) (j:=15) (k:=16) (Ni:=some 43) (Nj:=some 51) (Nk:=some 9) #[tt,tt,tt,tt,tt,tt,tt,tt,tt,tt,tt,tt,tt,tt,tt,ff,ff,tt,ff,ff] #[tt,tt,tt,tt,tt,tt,tt,ff,tt,tt,tt,tt,tt,tt,tt,tt,ff,tt,ff,ff] #[tt,tt,tt,tt,tt,tt,tt,ff,tt,tt,tt,tt,tt,tt,tt,ff,tt,tt,ff,ff] rfl rfl rfl rfl rfl rfl (three_of HT_.out (by kernel_rfl)) (by decide) (by decide) (by decide) (fun K hK => ?_) (fun K hK => ?_) (fun K hK => ?_)
  ·refine box_step ?hg (N:=43) ?hd (cs:=#[.slice (some ⟨g1,0,none⟩) 1 1,.int .i64 (rd_T35 l0 si).f0,.int .i64 (rd_T35 l0 si).f1,.int .i64 (rd_T35 l0 si).f2,.int .i64 (rd_T35 l0 si).f3]) (t:=74) ?hr ?_;(case hd => rfl);(case hg => rfl);(case hr => first|(go_simp;done)|(go_simp;rfl))
   intro gA hg_ w1_ b_gA hb_
   have l_gA : w2.heap.size ≤ gA:=by rw [hg_];exact hB_.size
   replace b_g1:=b_g1.keep hb_
   replace b_g2:=b_g2.keep hb_
   replace b_gq:=b_gq.keep hb_
   replace hB_:=keep_below hB_ hb_
   clear hb_ hg_
   refine hK.out _ _ hB_ (fun hHeld => ?_)
   clear hK K
   exact norm_ (by simp only [putAll,Act.put,sA,sZ,sS] <;> rfl) (hJ_1_7_9_17 (g1,gA,g2,gq) _ ⟨hB_,b_g1,l_g1,b_gA,l_gA,b_g2,l_g2,b_gq,l_gq,n_g1_g2⟩)
  ·refine box_step ?hg (N:=51) ?hd (cs:=#[.slice (some ⟨g2,0,none⟩) 1 1,.int .i64 (rd_T35 l0 sj).f0,.int .i64 (rd_T35 l0 sj).f1,.int .i64 (rd_T35 l0 sj).f2,.int .i64 (rd_T35 l0 sj).f3]) (t:=74) ?hr ?_;(case hd => rfl);(case hg => rfl);(case hr => first|(go_simp;done)|(go_simp;rfl))
   intro gB hg_ w1_ b_gB hb_
   have l_gB : w2.heap.size ≤ gB:=by rw [hg_];exact hB_.size
   replace b_g1:=b_g1.keep hb_
   replace b_g2:=b_g2.keep hb_
   replace b_gq:=b_gq.keep hb_
   replace hB_:=keep_below hB_ hb_
   clear hb_ hg_
   refine hK.out _ _ hB_ (fun hHeld => ?_)
   clear hK K
   exact norm_ (by simp only [putAll,Act.put,sA,sZ,sS] <;> rfl) (hJ_1_9_15_17 (g1,g2,gB,gq) _ ⟨hB_,b_g1,l_g1,b_g2,l_g2,b_gB,l_gB,b_gq,l_gq,n_g1_g2⟩)
  ·refine box_step ?hg (N:=9) ?hd (cs:=#[.pointer none]) (t:=72) ?hr ?_;(case hd => rfl);(case hg => rfl);(case hr => first|(go_simp;done)|(go_simp;rfl))
   intro gp hg_ w1_ b_gp hb_
   have l_gp : w2.heap.size ≤ gp:=by rw [hg_];exact hB_.size
   have n_gp_gq : gp ≠ gq:=by have h_ : gq < w_.heap.size:=b_gq.lt;omega
   replace b_g1:=b_g1.keep hb_
   replace b_g2:=b_g2.keep hb_
   replace b_gq:=b_gq.keep hb_
   replace hB_:=keep_below hB_ hb_
   clear hb_ hg_
   refine hK.out _ _ hB_ (fun hHeld => ?_)
   clear hK K
   exact norm_ (by simp only [putAll,Act.put,sA,sZ,sS] <;> rfl) (hJ_1_9_16_17 (g1,g2,gp,gq) _ ⟨hB_,b_g1,l_g1,b_g2,l_g2,b_gp,l_gp,b_gq,l_gq,n_g1_g2,n_gp_gq⟩)
 ·rintro ⟨g1,gp,gq⟩ w_ ⟨hB_,b_g1,l_g1,b_gp,l_gp,b_gq,l_gq,n_gp_gq⟩
  have hHeld:=hB_
  refine norm_ (a':=?_) ?_ ?_
  rotate_left
  ·simp only [putAll,Act.put,sA,sZ,sS]
   rfl
  refine two_ (i:=7) (j:=9) (Ni:=some 43) (Nj:=some 45) #[tt,tt,tt,tt,tt,tt,tt,tt,tt,ff,tt,tt,tt,tt,ff,ff,tt,tt,ff,ff] #[tt,tt,tt,tt,tt,tt,tt,ff,tt,tt,tt,tt,tt,tt,ff,ff,tt,tt,ff,ff] rfl rfl rfl rfl (two_of HT_.out (by kernel_rfl)) (by decide) (by decide) (fun K hK => ?_) (fun K hK => ?_)
  ·refine box_step ?hg (N:=43) ?hd (cs:=#[.slice (some ⟨g1,0,none⟩) 1 1,.int .i64 (rd_T35 l0 si).f0,.int .i64 (rd_T35 l0 si).f1,.int .i64 (rd_T35 l0 si).f2,.int .i64 (rd_T35 l0 si).f3]) (t:=74) ?hr ?_;(case hd => rfl);(case hg => rfl);(case hr => first|(go_simp;done)|(go_simp;rfl))
   intro gA hg_ w1_ b_gA hb_
   have l_gA : w2.heap.size ≤ gA:=by rw [hg_];exact hB_.size
   replace b_g1:=b_g1.keep hb_
   replace b_gp:=b_gp.keep hb_
   replace b_gq:=b_gq.keep hb_
   replace hB_:=keep_below hB_ hb_
   clear hb_ hg_
   refine hK.out _ _ hB_ (fun hHeld => ?_)
   clear hK K
   exact norm_ (by simp only [putAll,Act.put,sA,sZ,sS] <;> rfl) (hJ_1_7_16_17 (g1,gA,gp,gq) _ ⟨hB_,b_g1,l_g1,b_gA,l_gA,b_gp,l_gp,b_gq,l_gq,n_gp_gq⟩)
  ·refine slice_step ?hg (N:=45) ?hd (cs:=#[.int .i64 sj]) (t:=3) (n:=1) ?hr ?_;(case hd => rfl);(case hg => rfl);(case hr => first|(go_simp;done)|(go_simp;rfl))
   intro g2 hg_ w1_ b_g2 hb_
   have l_g2 : w2.heap.size ≤ g2:=by rw [hg_];exact hB_.size
   have n_g1_g2 : g1 ≠ g2:=by have h_ : g1 < w_.heap.size:=b_g1.lt;omega
   replace b_g1:=b_g1.keep hb_
   replace b_gp:=b_gp.keep hb_
   replace b_gq:=b_gq.keep hb_
   replace hB_:=keep_below hB_ hb_
   clear hb_ hg_
   refine hK.out _ _ hB_ (fun hHeld => ?_)
   clear hK K
   refine norm_ (a':=?_) ?_ ?_
   rotate_left
   ·show Act.put _ (some 45) _ = _
    simp only [Act.put,sA,sZ,sS]
    rfl
   refine pure_ (i:=14) (N:=some 50) (v:=?_) (a':=?_) #[tt,tt,tt,tt,tt,tt,tt,ff,tt,tt,tt,tt,tt,tt,tt,ff,tt,tt,ff,ff] rfl rfl (any_of HT_.out (by kernel_rfl)) (fun _ _ _ h => h) (Or.inl ⟨by rfl,?_⟩) ?_ ?_
   rotate_left
   ·intro w'
    go_simp
    with_reducible rfl
   rotate_left
   ·simp only [Act.put,sA,sZ,sS,i64_w,i32_w]
    rfl
   exact norm_ (by simp only [putAll,Act.put,sA,sZ,sS] <;> rfl) (hJ_1_9_16_17 (g1,g2,gp,gq) _ ⟨hB_,b_g1,l_g1,b_g2,l_g2,b_gp,l_gp,b_gq,l_gq,n_g1_g2,n_gp_gq⟩)
 ·rintro ⟨g2,gB,gp⟩ w_ ⟨hB_,b_g2,l_g2,b_gB,l_gB,b_gp,l_gp⟩
  have hHeld:=hB_
  refine norm_ (a':=?_) ?_ ?_
  rotate_left
  ·simp only [putAll,Act.put,sA,sZ,sS]
   rfl
  refine two_ (i:=1) (j:=17) (Ni:=some 37) (Nj:=some 10) #[tt,tt,tt,tt,tt,tt,ff,ff,tt,tt,tt,tt,tt,tt,tt,tt,tt,ff,ff,ff] #[tt,ff,tt,tt,tt,tt,ff,ff,tt,tt,tt,tt,tt,tt,tt,tt,tt,tt,ff,ff] rfl rfl rfl rfl (two_of HT_.out (by kernel_rfl)) (by decide) (by decide) (fun K hK => ?_) (fun K hK => ?_)
  ·refine slice_step ?hg (N:=37) ?hd (cs:=#[.int .i64 si]) (t:=3) (n:=1) ?hr ?_;(case hd => rfl);(case hg => rfl);(case hr => first|(go_simp;done)|(go_simp;rfl))
   intro g1 hg_ w1_ b_g1 hb_
   have l_g1 : w2.heap.size ≤ g1:=by rw [hg_];exact hB_.size
   have n_g1_g2 : g1 ≠ g2:=by have h_ : g2 < w_.heap.size:=b_g2.lt;omega
   replace b_g2:=b_g2.keep hb_
   replace b_gB:=b_gB.keep hb_
   replace b_gp:=b_gp.keep hb_
   replace hB_:=keep_below hB_ hb_
   clear hb_ hg_
   refine hK.out _ _ hB_ (fun hHeld => ?_)
   clear hK K
   refine norm_ (a':=?_) ?_ ?_
   rotate_left
   ·show Act.put _ (some 37) _ = _
    simp only [Act.put,sA,sZ,sS]
    rfl
   refine pure_ (i:=6) (N:=some 42) (v:=?_) (a':=?_) #[tt,tt,tt,tt,tt,tt,tt,ff,tt,tt,tt,tt,tt,tt,tt,tt,tt,ff,ff,ff] rfl rfl (any_of HT_.out (by kernel_rfl)) (fun _ _ _ h => h) (Or.inl ⟨by rfl,?_⟩) ?_ ?_
   rotate_left
   ·intro w'
    go_simp
    with_reducible rfl
   rotate_left
   ·simp only [Act.put,sA,sZ,sS,i64_w,i32_w]
    rfl
   exact norm_ (by simp only [putAll,Act.put,sA,sZ,sS] <;> rfl) (hJ_1_9_15_16 (g1,g2,gB,gp) _ ⟨hB_,b_g1,l_g1,b_g2,l_g2,b_gB,l_gB,b_gp,l_gp,n_g1_g2⟩)
  ·refine box_step ?hg (N:=10) ?hd (cs:=#[.pointer none]) (t:=72) ?hr ?_;(case hd => rfl);(case hg => rfl);(case hr => first|(go_simp;done)|(go_simp;rfl))
   intro gq hg_ w1_ b_gq hb_
   have l_gq : w2.heap.size ≤ gq:=by rw [hg_];exact hB_.size
   have n_gp_gq : gp ≠ gq:=by have h_ : gp < w_.heap.size:=b_gp.lt;omega
   replace b_g2:=b_g2.keep hb_
   replace b_gB:=b_gB.keep hb_
   replace b_gp:=b_gp.keep hb_
   replace hB_:=keep_below hB_ hb_
   clear hb_ hg_
   refine hK.out _ _ hB_ (fun hHeld => ?_)
   clear hK K
   exact norm_ (by simp only [putAll,Act.put,sA,sZ,sS] <;> rfl) (hJ_9_15_16_17 (g2,gB,gp,gq) _ ⟨hB_,b_g2,l_g2,b_gB,l_gB,b_gp,l_gp,b_gq,l_gq,n_gp_gq⟩)
 ·rintro ⟨g2,gB,gq⟩ w_ ⟨hB_,b_g2,l_g2,b_gB,l_gB,b_gq,l_gq⟩
  have hHeld:=hB_
  refine norm_ (a':=?_) ?_ ?_
  rotate_left
  ·simp only [putAll,Act.put,sA,sZ,sS]
   rfl
  refine two_ (i:=1) (j:=16) (Ni:=some 37) (Nj:=some 9) #[tt,tt,tt,tt,tt,tt,ff,ff,tt,tt,tt,tt,tt,tt,tt,tt,ff,tt,ff,ff] #[tt,ff,tt,tt,tt,tt,ff,ff,tt,tt,tt,tt,tt,tt,tt,tt,tt,tt,ff,ff] rfl rfl rfl rfl (two_of HT_.out (by kernel_rfl)) (by decide) (by decide) (fun K hK => ?_) (fun K hK => ?_)
  ·refine slice_step ?hg (N:=37) ?hd (cs:=#[.int .i64 si]) (t:=3) (n:=1) ?hr ?_;(case hd => rfl);(case hg => rfl);(case hr => first|(go_simp;done)|(go_simp;rfl))
   intro g1 hg_ w1_ b_g1 hb_
   have l_g1 : w2.heap.size ≤ g1:=by rw [hg_];exact hB_.size
   have n_g1_g2 : g1 ≠ g2:=by have h_ : g2 < w_.heap.size:=b_g2.lt;omega
   replace b_g2:=b_g2.keep hb_
   replace b_gB:=b_gB.keep hb_
   replace b_gq:=b_gq.keep hb_
   replace hB_:=keep_below hB_ hb_
   clear hb_ hg_
   refine hK.out _ _ hB_ (fun hHeld => ?_)
   clear hK K
   refine norm_ (a':=?_) ?_ ?_
   rotate_left
   ·show Act.put _ (some 37) _ = _
    simp only [Act.put,sA,sZ,sS]
    rfl
   refine pure_ (i:=6) (N:=some 42) (v:=?_) (a':=?_) #[tt,tt,tt,tt,tt,tt,tt,ff,tt,tt,tt,tt,tt,tt,tt,tt,ff,tt,ff,ff] rfl rfl (any_of HT_.out (by kernel_rfl)) (fun _ _ _ h => h) (Or.inl ⟨by rfl,?_⟩) ?_ ?_
   rotate_left
   ·intro w'
    go_simp
    with_reducible rfl
   rotate_left
   ·simp only [Act.put,sA,sZ,sS,i64_w,i32_w]
    rfl
   exact norm_ (by simp only [putAll,Act.put,sA,sZ,sS] <;> rfl) (hJ_1_9_15_17 (g1,g2,gB,gq) _ ⟨hB_,b_g1,l_g1,b_g2,l_g2,b_gB,l_gB,b_gq,l_gq,n_g1_g2⟩)
  ·refine box_step ?hg (N:=9) ?hd (cs:=#[.pointer none]) (t:=72) ?hr ?_;(case hd => rfl);(case hg => rfl);(case hr => first|(go_simp;done)|(go_simp;rfl))
   intro gp hg_ w1_ b_gp hb_
   have l_gp : w2.heap.size ≤ gp:=by rw [hg_];exact hB_.size
   have n_gp_gq : gp ≠ gq:=by have h_ : gq < w_.heap.size:=b_gq.lt;omega
   replace b_g2:=b_g2.keep hb_
   replace b_gB:=b_gB.keep hb_
   replace b_gq:=b_gq.keep hb_
   replace hB_:=keep_below hB_ hb_
   clear hb_ hg_
   refine hK.out _ _ hB_ (fun hHeld => ?_)
   clear hK K
   exact norm_ (by simp only [putAll,Act.put,sA,sZ,sS] <;> rfl) (hJ_9_15_16_17 (g2,gB,gp,gq) _ ⟨hB_,b_g2,l_g2,b_gB,l_gB,b_gp,l_gp,b_gq,l_gq,n_gp_gq⟩)
 ·rintro ⟨g2,gp,gq⟩ w_ ⟨hB_,b_g2,l_g2,b_gp,l_gp,b_gq,l_gq,n_gp_gq⟩
  have hHeld:=hB_
  refine norm_ (a':=?_) ?_ ?_
  rotate_left
  ·simp only [putAll,Act.put,sA,sZ,sS]
   rfl
  refine two_ (i:=1) (j:=15) (Ni:=some 37) (Nj:=some 51) #[tt,tt,tt,tt,tt,tt,ff,ff,tt,tt,tt,tt,tt,tt,tt,ff,tt,tt,ff,ff] #[tt,ff,tt,tt,tt,tt,ff,ff,tt,tt,tt,tt,tt,tt,tt,tt,tt,tt,ff,ff] rfl rfl rfl rfl (two_of HT_.out (by kernel_rfl)) (by decide) (by decide) (fun K hK => ?_) (fun K hK => ?_)
  ·refine slice_step ?hg (N:=37) ?hd (cs:=#[.int .i64 si]) (t:=3) (n:=1) ?hr ?_;(case hd => rfl);(case hg => rfl);(case hr => first|(go_simp;done)|(go_simp;rfl))
   intro g1 hg_ w1_ b_g1 hb_
   have l_g1 : w2.heap.size ≤ g1:=by rw [hg_];exact hB_.size
   have n_g1_g2 : g1 ≠ g2:=by have h_ : g2 < w_.heap.size:=b_g2.lt;omega
   replace b_g2:=b_g2.keep hb_
   replace b_gp:=b_gp.keep hb_
   replace b_gq:=b_gq.keep hb_
   replace hB_:=keep_below hB_ hb_
   clear hb_ hg_
   refine hK.out _ _ hB_ (fun hHeld => ?_)
   clear hK K
   refine norm_ (a':=?_) ?_ ?_
   rotate_left
   ·show Act.put _ (some 37) _ = _
    simp only [Act.put,sA,sZ,sS]
    rfl
   refine pure_ (i:=6) (N:=some 42) (v:=?_) (a':=?_) #[tt,tt,tt,tt,tt,tt,tt,ff,tt,tt,tt,tt,tt,tt,tt,ff,tt,tt,ff,ff] rfl rfl (any_of HT_.out (by kernel_rfl)) (fun _ _ _ h => h) (Or.inl ⟨by rfl,?_⟩) ?_ ?_
   rotate_left
   ·intro w'
    go_simp
    with_reducible rfl
   rotate_left
   ·simp only [Act.put,sA,sZ,sS,i64_w,i32_w]
    rfl
   exact norm_ (by simp only [putAll,Act.put,sA,sZ,sS] <;> rfl) (hJ_1_9_16_17 (g1,g2,gp,gq) _ ⟨hB_,b_g1,l_g1,b_g2,l_g2,b_gp,l_gp,b_gq,l_gq,n_g1_g2,n_gp_gq⟩)
  ·refine box_step ?hg (N:=51) ?hd (cs:=#[.slice (some ⟨g2,0,none⟩) 1 1,.int .i64 (rd_T35 l0 sj).f0,.int .i64 (rd_T35 l0 sj).f1,.int .i64 (rd_T35 l0 sj).f2,.int .i64 (rd_T35 l0 sj).f3]) (t:=74) ?hr ?_;(case hd => rfl);(case hg => rfl);(case hr => first|(go_simp;done)|(go_simp;rfl))
   intro gB hg_ w1_ b_gB hb_
   have l_gB : w2.heap.size ≤ gB:=by rw [hg_];exact hB_.size
   replace b_g2:=b_g2.keep hb_
   replace b_gp:=b_gp.keep hb_
   replace b_gq:=b_gq.keep hb_
   replace hB_:=keep_below hB_ hb_
   clear hb_ hg_
   refine hK.out _ _ hB_ (fun hHeld => ?_)
   clear hK K
   exact norm_ (by simp only [putAll,Act.put,sA,sZ,sS] <;> rfl) (hJ_9_15_16_17 (g2,gB,gp,gq) _ ⟨hB_,b_g2,l_g2,b_gB,l_gB,b_gp,l_gp,b_gq,l_gq,n_gp_gq⟩)
 ·rintro ⟨g1,gA⟩ w_ ⟨hB_,b_g1,l_g1,b_gA,l_gA⟩
  have hHeld:=hB_
  refine norm_ (a':=?_) ?_ ?_
  rotate_left
  ·simp only [putAll,Act.put,sA,sZ,sS]
   rfl
  refine three_ (i:=9) (j:=16) (k:=17) (Ni:=some 45) (Nj:=some 9) (Nk:=some 10) #[tt,tt,tt,tt,tt,tt,tt,tt,tt,tt,tt,tt,tt,tt,ff,ff,ff,ff,ff,ff] #[tt,tt,tt,tt,tt,tt,tt,tt,tt,ff,tt,tt,tt,tt,ff,ff,tt,ff,ff,ff] #[tt,tt,tt,tt,tt,tt,tt,tt,tt,ff,tt,tt,tt,tt,ff,ff,ff,tt,ff,ff] rfl rfl rfl rfl rfl rfl (three_of HT_.out (by kernel_rfl)) (by decide) (by decide) (by decide) (fun K hK => ?_) (fun K hK => ?_) (fun K hK => ?_)
  ·refine slice_step ?hg (N:=45) ?hd (cs:=#[.int .i64 sj]) (t:=3) (n:=1) ?hr ?_;(case hd => rfl);(case hg => rfl);(case hr => first|(go_simp;done)|(go_simp;rfl))
   intro g2 hg_ w1_ b_g2 hb_
   have l_g2 : w2.heap.size ≤ g2:=by rw [hg_];exact hB_.size
   have n_g1_g2 : g1 ≠ g2:=by have h_ : g1 < w_.heap.size:=b_g1.lt;omega
   replace b_g1:=b_g1.keep hb_
   replace b_gA:=b_gA.keep hb_
   replace hB_:=keep_below hB_ hb_
   clear hb_ hg_
   refine hK.out _ _ hB_ (fun hHeld => ?_)
   clear hK K
   refine norm_ (a':=?_) ?_ ?_
   rotate_left
   ·show Act.put _ (some 45) _ = _
    simp only [Act.put,sA,sZ,sS]
    rfl
   refine pure_ (i:=14) (N:=some 50) (v:=?_) (a':=?_) #[tt,tt,tt,tt,tt,tt,tt,tt,tt,tt,tt,tt,tt,tt,tt,ff,ff,ff,ff,ff] rfl rfl (any_of HT_.out (by kernel_rfl)) (fun _ _ _ h => h) (Or.inl ⟨by rfl,?_⟩) ?_ ?_
   rotate_left
   ·intro w'
    go_simp
    with_reducible rfl
   rotate_left
   ·simp only [Act.put,sA,sZ,sS,i64_w,i32_w]
    rfl
   exact norm_ (by simp only [putAll,Act.put,sA,sZ,sS] <;> rfl) (hJ_1_7_9 (g1,gA,g2) _ ⟨hB_,b_g1,l_g1,b_gA,l_gA,b_g2,l_g2,n_g1_g2⟩)
  ·refine box_step ?hg (N:=9) ?hd (cs:=#[.pointer none]) (t:=72) ?hr ?_;(case hd => rfl);(case hg => rfl);(case hr => first|(go_simp;done)|(go_simp;rfl))
   intro gp hg_ w1_ b_gp hb_
   have l_gp : w2.heap.size ≤ gp:=by rw [hg_];exact hB_.size
   replace b_g1:=b_g1.keep hb_
   replace b_gA:=b_gA.keep hb_
   replace hB_:=keep_below hB_ hb_
   clear hb_ hg_
   refine hK.out _ _ hB_ (fun hHeld => ?_)
   clear hK K
   exact norm_ (by simp only [putAll,Act.put,sA,sZ,sS] <;> rfl) (hJ_1_7_16 (g1,gA,gp) _ ⟨hB_,b_g1,l_g1,b_gA,l_gA,b_gp,l_gp⟩)
  ·refine box_step ?hg (N:=10) ?hd (cs:=#[.pointer none]) (t:=72) ?hr ?_;(case hd => rfl);(case hg => rfl);(case hr => first|(go_simp;done)|(go_simp;rfl))
   intro gq hg_ w1_ b_gq hb_
   have l_gq : w2.heap.size ≤ gq:=by rw [hg_];exact hB_.size
   replace b_g1:=b_g1.keep hb_
   replace b_gA:=b_gA.keep hb_
   replace hB_:=keep_below hB_ hb_
   clear hb_ hg_
   refine hK.out _ _ hB_ (fun hHeld => ?_)
   clear hK K
   exact norm_ (by simp only [putAll,Act.put,sA,sZ,sS] <;> rfl) (hJ_1_7_17 (g1,gA,gq) _ ⟨hB_,b_g1,l_g1,b_gA,l_gA,b_gq,l_gq⟩)
 ·rintro ⟨g1,g2⟩ w_ ⟨hB_,b_g1,l_g1,b_g2,l_g2,n_g1_g2⟩
  have hHeld:=hB_
  refine norm_ (a':=?_) ?_ ?_
  rotate_left
  ·simp only [putAll,Act.put,sA,sZ,sS]
   rfl
  refine four_ (i:=7) (j:=15) (k:=16) (m:=17) (Ni:=some 43) (Nj:=some 51) (Nk:=some 9) (Nm:=some 10) #[tt,tt,tt,tt,tt,tt,tt,tt,tt,tt,tt,tt,tt,tt,tt,ff,ff,ff,ff,ff] #[tt,tt,tt,tt,tt,tt,tt,ff,tt,tt,tt,tt,tt,tt,tt,tt,ff,ff,ff,ff] #[tt,tt,tt,tt,tt,tt,tt,ff,tt,tt,tt,tt,tt,tt,tt,ff,tt,ff,ff,ff] #[tt,tt,tt,tt,tt,tt,tt,ff,tt,tt,tt,tt,tt,tt,tt,ff,ff,tt,ff,ff] rfl rfl rfl rfl rfl rfl rfl rfl (four_of HT_.out (by kernel_rfl)) (by decide) (by decide) (by decide) (by decide) (fun K hK => ?_) (fun K hK => ?_) (fun K hK => ?_) (fun K hK => ?_)
  ·refine box_step ?hg (N:=43) ?hd (cs:=#[.slice (some ⟨g1,0,none⟩) 1 1,.int .i64 (rd_T35 l0 si).f0,.int .i64 (rd_T35 l0 si).f1,.int .i64 (rd_T35 l0 si).f2,.int .i64 (rd_T35 l0 si).f3]) (t:=74) ?hr ?_;(case hd => rfl);(case hg => rfl);(case hr => first|(go_simp;done)|(go_simp;rfl))
   intro gA hg_ w1_ b_gA hb_
   have l_gA : w2.heap.size ≤ gA:=by rw [hg_];exact hB_.size
   replace b_g1:=b_g1.keep hb_
   replace b_g2:=b_g2.keep hb_
   replace hB_:=keep_below hB_ hb_
   clear hb_ hg_
   refine hK.out _ _ hB_ (fun hHeld => ?_)
   clear hK K
   exact norm_ (by simp only [putAll,Act.put,sA,sZ,sS] <;> rfl) (hJ_1_7_9 (g1,gA,g2) _ ⟨hB_,b_g1,l_g1,b_gA,l_gA,b_g2,l_g2,n_g1_g2⟩)
  ·refine box_step ?hg (N:=51) ?hd (cs:=#[.slice (some ⟨g2,0,none⟩) 1 1,.int .i64 (rd_T35 l0 sj).f0,.int .i64 (rd_T35 l0 sj).f1,.int .i64 (rd_T35 l0 sj).f2,.int .i64 (rd_T35 l0 sj).f3]) (t:=74) ?hr ?_;(case hd => rfl);(case hg => rfl);(case hr => first|(go_simp;done)|(go_simp;rfl))
   intro gB hg_ w1_ b_gB hb_
   have l_gB : w2.heap.size ≤ gB:=by rw [hg_];exact hB_.size
   replace b_g1:=b_g1.keep hb_
   replace b_g2:=b_g2.keep hb_
   replace hB_:=keep_below hB_ hb_
   clear hb_ hg_
   refine hK.out _ _ hB_ (fun hHeld => ?_)
   clear hK K
   exact norm_ (by simp only [putAll,Act.put,sA,sZ,sS] <;> rfl) (hJ_1_9_15 (g1,g2,gB) _ ⟨hB_,b_g1,l_g1,b_g2,l_g2,b_gB,l_gB,n_g1_g2⟩)
  ·refine box_step ?hg (N:=9) ?hd (cs:=#[.pointer none]) (t:=72) ?hr ?_;(case hd => rfl);(case hg => rfl);(case hr => first|(go_simp;done)|(go_simp;rfl))
   intro gp hg_ w1_ b_gp hb_
   have l_gp : w2.heap.size ≤ gp:=by rw [hg_];exact hB_.size
   replace b_g1:=b_g1.keep hb_
   replace b_g2:=b_g2.keep hb_
   replace hB_:=keep_below hB_ hb_
   clear hb_ hg_
   refine hK.out _ _ hB_ (fun hHeld => ?_)
   clear hK K
   exact norm_ (by simp only [putAll,Act.put,sA,sZ,sS] <;> rfl) (hJ_1_9_16 (g1,g2,gp) _ ⟨hB_,b_g1,l_g1,b_g2,l_g2,b_gp,l_gp,n_g1_g2⟩)
  ·refine box_step ?hg (N:=10) ?hd (cs:=#[.pointer none]) (t:=72) ?hr ?_;(case hd => rfl);(case hg => rfl);(case hr => first|(go_simp;done)|(go_simp;rfl))
   intro gq hg_ w1_ b_gq hb_
   have l_gq : w2.heap.size ≤ gq:=by rw [hg_];exact hB_.size
   replace b_g1:=b_g1.keep hb_
   replace b_g2:=b_g2.keep hb_
   replace hB_:=keep_below hB_ hb_
   clear hb_ hg_
   refine hK.out _ _ hB_ (fun hHeld => ?_)
   clear hK K
   exact norm_ (by simp only [putAll,Act.put,sA,sZ,sS] <;> rfl) (hJ_1_9_17 (g1,g2,gq) _ ⟨hB_,b_g1,l_g1,b_g2,l_g2,b_gq,l_gq,n_g1_g2⟩)
 ·rintro ⟨g1,gp⟩ w_ ⟨hB_,b_g1,l_g1,b_gp,l_gp⟩
  have hHeld:=hB_
  refine norm_ (a':=?_) ?_ ?_
  rotate_left
  ·simp only [putAll,Act.put,sA,sZ,sS]
   rfl
  refine three_ (i:=7) (j:=9) (k:=17) (Ni:=some 43) (Nj:=some 45) (Nk:=some 10) #[tt,tt,tt,tt,tt,tt,tt,tt,tt,ff,tt,tt,tt,tt,ff,ff,tt,ff,ff,ff] #[tt,tt,tt,tt,tt,tt,tt,ff,tt,tt,tt,tt,tt,tt,ff,ff,tt,ff,ff,ff] #[tt,tt,tt,tt,tt,tt,tt,ff,tt,ff,tt,tt,tt,tt,ff,ff,tt,tt,ff,ff] rfl rfl rfl rfl rfl rfl (three_of HT_.out (by kernel_rfl)) (by decide) (by decide) (by decide) (fun K hK => ?_) (fun K hK => ?_) (fun K hK => ?_)
  ·refine box_step ?hg (N:=43) ?hd (cs:=#[.slice (some ⟨g1,0,none⟩) 1 1,.int .i64 (rd_T35 l0 si).f0,.int .i64 (rd_T35 l0 si).f1,.int .i64 (rd_T35 l0 si).f2,.int .i64 (rd_T35 l0 si).f3]) (t:=74) ?hr ?_;(case hd => rfl);(case hg => rfl);(case hr => first|(go_simp;done)|(go_simp;rfl))
   intro gA hg_ w1_ b_gA hb_
   have l_gA : w2.heap.size ≤ gA:=by rw [hg_];exact hB_.size
   replace b_g1:=b_g1.keep hb_
   replace b_gp:=b_gp.keep hb_
   replace hB_:=keep_below hB_ hb_
   clear hb_ hg_
   refine hK.out _ _ hB_ (fun hHeld => ?_)
   clear hK K
   exact norm_ (by simp only [putAll,Act.put,sA,sZ,sS] <;> rfl) (hJ_1_7_16 (g1,gA,gp) _ ⟨hB_,b_g1,l_g1,b_gA,l_gA,b_gp,l_gp⟩)
  ·refine slice_step ?hg (N:=45) ?hd (cs:=#[.int .i64 sj]) (t:=3) (n:=1) ?hr ?_;(case hd => rfl);(case hg => rfl);(case hr => first|(go_simp;done)|(go_simp;rfl))
   intro g2 hg_ w1_ b_g2 hb_
   have l_g2 : w2.heap.size ≤ g2:=by rw [hg_];exact hB_.size
   have n_g1_g2 : g1 ≠ g2:=by have h_ : g1 < w_.heap.size:=b_g1.lt;omega
   replace b_g1:=b_g1.keep hb_
   replace b_gp:=b_gp.keep hb_
   replace hB_:=keep_below hB_ hb_
   clear hb_ hg_
   refine hK.out _ _ hB_ (fun hHeld => ?_)
   clear hK K
   refine norm_ (a':=?_) ?_ ?_
   rotate_left
   ·show Act.put _ (some 45) _ = _
    simp only [Act.put,sA,sZ,sS]
    rfl
   refine pure_ (i:=14) (N:=some 50) (v:=?_) (a':=?_) #[tt,tt,tt,tt,tt,tt,tt,ff,tt,tt,tt,tt,tt,tt,tt,ff,tt,ff,ff,ff] rfl rfl (any_of HT_.out (by kernel_rfl)) (fun _ _ _ h => h) (Or.inl ⟨by rfl,?_⟩) ?_ ?_
   rotate_left
   ·intro w'
    go_simp
    with_reducible rfl
   rotate_left
   ·simp only [Act.put,sA,sZ,sS,i64_w,i32_w]
    rfl
   exact norm_ (by simp only [putAll,Act.put,sA,sZ,sS] <;> rfl) (hJ_1_9_16 (g1,g2,gp) _ ⟨hB_,b_g1,l_g1,b_g2,l_g2,b_gp,l_gp,n_g1_g2⟩)
  ·refine box_step ?hg (N:=10) ?hd (cs:=#[.pointer none]) (t:=72) ?hr ?_;(case hd => rfl);(case hg => rfl);(case hr => first|(go_simp;done)|(go_simp;rfl))
   intro gq hg_ w1_ b_gq hb_
   have l_gq : w2.heap.size ≤ gq:=by rw [hg_];exact hB_.size
   have n_gp_gq : gp ≠ gq:=by have h_ : gp < w_.heap.size:=b_gp.lt;omega
   replace b_g1:=b_g1.keep hb_
   replace b_gp:=b_gp.keep hb_
   replace hB_:=keep_below hB_ hb_
   clear hb_ hg_
   refine hK.out _ _ hB_ (fun hHeld => ?_)
   clear hK K
   exact norm_ (by simp only [putAll,Act.put,sA,sZ,sS] <;> rfl) (hJ_1_16_17 (g1,gp,gq) _ ⟨hB_,b_g1,l_g1,b_gp,l_gp,b_gq,l_gq,n_gp_gq⟩)
 ·rintro ⟨g1,gq⟩ w_ ⟨hB_,b_g1,l_g1,b_gq,l_gq⟩
  have hHeld:=hB_
  refine norm_ (a':=?_) ?_ ?_
  rotate_left
  ·simp only [putAll,Act.put,sA,sZ,sS]
   rfl
  refine three_ (i:=7) (j:=9) (k:=16) (Ni:=some 43) (Nj:=some 45) (Nk:=some 9) #[tt,tt,tt,tt,tt,tt,tt,tt,tt,ff,tt,tt,tt,tt,ff,ff,ff,tt,ff,ff] #[tt,tt,tt,tt,tt,tt,tt,ff,tt,tt,tt,tt,tt,tt,ff,ff,ff,tt,ff,ff] #[tt,tt,tt,tt,tt,tt,tt,ff,tt,ff,tt,tt,tt,tt,ff,ff,tt,tt,ff,ff] rfl rfl rfl rfl rfl rfl (three_of HT_.out (by kernel_rfl)) (by decide) (by decide) (by decide) (fun K hK => ?_) (fun K hK => ?_) (fun K hK => ?_)
  ·refine box_step ?hg (N:=43) ?hd (cs:=#[.slice (some ⟨g1,0,none⟩) 1 1,.int .i64 (rd_T35 l0 si).f0,.int .i64 (rd_T35 l0 si).f1,.int .i64 (rd_T35 l0 si).f2,.int .i64 (rd_T35 l0 si).f3]) (t:=74) ?hr ?_;(case hd => rfl);(case hg => rfl);(case hr => first|(go_simp;done)|(go_simp;rfl))
   intro gA hg_ w1_ b_gA hb_
   have l_gA : w2.heap.size ≤ gA:=by rw [hg_];exact hB_.size
   replace b_g1:=b_g1.keep hb_
   replace b_gq:=b_gq.keep hb_
   replace hB_:=keep_below hB_ hb_
   clear hb_ hg_
   refine hK.out _ _ hB_ (fun hHeld => ?_)
   clear hK K
   exact norm_ (by simp only [putAll,Act.put,sA,sZ,sS] <;> rfl) (hJ_1_7_17 (g1,gA,gq) _ ⟨hB_,b_g1,l_g1,b_gA,l_gA,b_gq,l_gq⟩)
  ·refine slice_step ?hg (N:=45) ?hd (cs:=#[.int .i64 sj]) (t:=3) (n:=1) ?hr ?_;(case hd => rfl);(case hg => rfl);(case hr => first|(go_simp;done)|(go_simp;rfl))
   intro g2 hg_ w1_ b_g2 hb_
   have l_g2 : w2.heap.size ≤ g2:=by rw [hg_];exact hB_.size
   have n_g1_g2 : g1 ≠ g2:=by have h_ : g1 < w_.heap.size:=b_g1.lt;omega
   replace b_g1:=b_g1.keep hb_
   replace b_gq:=b_gq.keep hb_
   replace hB_:=keep_below hB_ hb_
   clear hb_ hg_
   refine hK.out _ _ hB_ (fun hHeld => ?_)
   clear hK K
   refine norm_ (a':=?_) ?_ ?_
   rotate_left
   ·show Act.put _ (some 45) _ = _
    simp only [Act.put,sA,sZ,sS]
    rfl
   refine pure_ (i:=14) (N:=some 50) (v:=?_) (a':=?_) #[tt,tt,tt,tt,tt,tt,tt,ff,tt,tt,tt,tt,tt,tt,tt,ff,ff,tt,ff,ff] rfl rfl (any_of HT_.out (by kernel_rfl)) (fun _ _ _ h => h) (Or.inl ⟨by rfl,?_⟩) ?_ ?_
   rotate_left
   ·intro w'
    go_simp
    with_reducible rfl
   rotate_left
   ·simp only [Act.put,sA,sZ,sS,i64_w,i32_w]
    rfl
   exact norm_ (by simp only [putAll,Act.put,sA,sZ,sS] <;> rfl) (hJ_1_9_17 (g1,g2,gq) _ ⟨hB_,b_g1,l_g1,b_g2,l_g2,b_gq,l_gq,n_g1_g2⟩)
  ·refine box_step ?hg (N:=9) ?hd (cs:=#[.pointer none]) (t:=72) ?hr ?_;(case hd => rfl);(case hg => rfl);(case hr => first|(go_simp;done)|(go_simp;rfl))
   intro gp hg_ w1_ b_gp hb_
   have l_gp : w2.heap.size ≤ gp:=by rw [hg_];exact hB_.size
   have n_gp_gq : gp ≠ gq:=by have h_ : gq < w_.heap.size:=b_gq.lt;omega
   replace b_g1:=b_g1.keep hb_
   replace b_gq:=b_gq.keep hb_
   replace hB_:=keep_below hB_ hb_
   clear hb_ hg_
   refine hK.out _ _ hB_ (fun hHeld => ?_)
   clear hK K
   exact norm_ (by simp only [putAll,Act.put,sA,sZ,sS] <;> rfl) (hJ_1_16_17 (g1,gp,gq) _ ⟨hB_,b_g1,l_g1,b_gp,l_gp,b_gq,l_gq,n_gp_gq⟩)
 ·rintro ⟨g2,gB⟩ w_ ⟨hB_,b_g2,l_g2,b_gB,l_gB⟩
  have hHeld:=hB_
  refine norm_ (a':=?_) ?_ ?_
  rotate_left
  ·simp only [putAll,Act.put,sA,sZ,sS]
   rfl
  refine three_ (i:=1) (j:=16) (k:=17) (Ni:=some 37) (Nj:=some 9) (Nk:=some 10) #[tt,tt,tt,tt,tt,tt,ff,ff,tt,tt,tt,tt,tt,tt,tt,tt,ff,ff,ff,ff] #[tt,ff,tt,tt,tt,tt,ff,ff,tt,tt,tt,tt,tt,tt,tt,tt,tt,ff,ff,ff] #[tt,ff,tt,tt,tt,tt,ff,ff,tt,tt,tt,tt,tt,tt,tt,tt,ff,tt,ff,ff] rfl rfl rfl rfl rfl rfl (three_of HT_.out (by kernel_rfl)) (by decide) (by decide) (by decide) (fun K hK => ?_) (fun K hK => ?_) (fun K hK => ?_)
  ·refine slice_step ?hg (N:=37) ?hd (cs:=#[.int .i64 si]) (t:=3) (n:=1) ?hr ?_;(case hd => rfl);(case hg => rfl);(case hr => first|(go_simp;done)|(go_simp;rfl))
   intro g1 hg_ w1_ b_g1 hb_
   have l_g1 : w2.heap.size ≤ g1:=by rw [hg_];exact hB_.size
   have n_g1_g2 : g1 ≠ g2:=by have h_ : g2 < w_.heap.size:=b_g2.lt;omega
   replace b_g2:=b_g2.keep hb_
   replace b_gB:=b_gB.keep hb_
   replace hB_:=keep_below hB_ hb_
   clear hb_ hg_
   refine hK.out _ _ hB_ (fun hHeld => ?_)
   clear hK K
   refine norm_ (a':=?_) ?_ ?_
   rotate_left
   ·show Act.put _ (some 37) _ = _
    simp only [Act.put,sA,sZ,sS]
    rfl
   refine pure_ (i:=6) (N:=some 42) (v:=?_) (a':=?_) #[tt,tt,tt,tt,tt,tt,tt,ff,tt,tt,tt,tt,tt,tt,tt,tt,ff,ff,ff,ff] rfl rfl (any_of HT_.out (by kernel_rfl)) (fun _ _ _ h => h) (Or.inl ⟨by rfl,?_⟩) ?_ ?_
   rotate_left
   ·intro w'
    go_simp
    with_reducible rfl
   rotate_left
   ·simp only [Act.put,sA,sZ,sS,i64_w,i32_w]
    rfl
   exact norm_ (by simp only [putAll,Act.put,sA,sZ,sS] <;> rfl) (hJ_1_9_15 (g1,g2,gB) _ ⟨hB_,b_g1,l_g1,b_g2,l_g2,b_gB,l_gB,n_g1_g2⟩)
  ·refine box_step ?hg (N:=9) ?hd (cs:=#[.pointer none]) (t:=72) ?hr ?_;(case hd => rfl);(case hg => rfl);(case hr => first|(go_simp;done)|(go_simp;rfl))
   intro gp hg_ w1_ b_gp hb_
   have l_gp : w2.heap.size ≤ gp:=by rw [hg_];exact hB_.size
   replace b_g2:=b_g2.keep hb_
   replace b_gB:=b_gB.keep hb_
   replace hB_:=keep_below hB_ hb_
   clear hb_ hg_
   refine hK.out _ _ hB_ (fun hHeld => ?_)
   clear hK K
   exact norm_ (by simp only [putAll,Act.put,sA,sZ,sS] <;> rfl) (hJ_9_15_16 (g2,gB,gp) _ ⟨hB_,b_g2,l_g2,b_gB,l_gB,b_gp,l_gp⟩)
  ·refine box_step ?hg (N:=10) ?hd (cs:=#[.pointer none]) (t:=72) ?hr ?_;(case hd => rfl);(case hg => rfl);(case hr => first|(go_simp;done)|(go_simp;rfl))
   intro gq hg_ w1_ b_gq hb_
   have l_gq : w2.heap.size ≤ gq:=by rw [hg_];exact hB_.size
   replace b_g2:=b_g2.keep hb_
   replace b_gB:=b_gB.keep hb_
   replace hB_:=keep_below hB_ hb_
   clear hb_ hg_
   refine hK.out _ _ hB_ (fun hHeld => ?_)
   clear hK K
   exact norm_ (by simp only [putAll,Act.put,sA,sZ,sS] <;> rfl) (hJ_9_15_17 (g2,gB,gq) _ ⟨hB_,b_g2,l_g2,b_gB,l_gB,b_gq,l_gq⟩)
 ·rintro ⟨g2,gp⟩ w_ ⟨hB_,b_g2,l_g2,b_gp,l_gp⟩
  have hHeld:=hB_
  refine norm_ (a':=?_) ?_ ?_
  rotate_left
  ·simp only [putAll,Act.put,sA,sZ,sS]
   rfl
  refine three_ (i:=1) (j:=15) (k:=17) (Ni:=some 37) (Nj:=some 51) (Nk:=some 10) #[tt,tt,tt,tt,tt,tt,ff,ff,tt,tt,tt,tt,tt,tt,tt,ff,tt,ff,ff,ff] #[tt,ff,tt,tt,tt,tt,ff,ff,tt,tt,tt,tt,tt,tt,tt,tt,tt,ff,ff,ff] #[tt,ff,tt,tt,tt,tt,ff,ff,tt,tt,tt,tt,tt,tt,tt,ff,tt,tt,ff,ff] rfl rfl rfl rfl rfl rfl (three_of HT_.out (by kernel_rfl)) (by decide) (by decide) (by decide) (fun K hK => ?_) (fun K hK => ?_) (fun K hK => ?_)
  ·refine slice_step ?hg (N:=37) ?hd (cs:=#[.int .i64 si]) (t:=3) (n:=1) ?hr ?_;(case hd => rfl);(case hg => rfl);(case hr => first|(go_simp;done)|(go_simp;rfl))
   intro g1 hg_ w1_ b_g1 hb_
   have l_g1 : w2.heap.size ≤ g1:=by rw [hg_];exact hB_.size
   have n_g1_g2 : g1 ≠ g2:=by have h_ : g2 < w_.heap.size:=b_g2.lt;omega
   replace b_g2:=b_g2.keep hb_
   replace b_gp:=b_gp.keep hb_
   replace hB_:=keep_below hB_ hb_
   clear hb_ hg_
   refine hK.out _ _ hB_ (fun hHeld => ?_)
   clear hK K
   refine norm_ (a':=?_) ?_ ?_
   rotate_left
   ·show Act.put _ (some 37) _ = _
    simp only [Act.put,sA,sZ,sS]
    rfl
   refine pure_ (i:=6) (N:=some 42) (v:=?_) (a':=?_) #[tt,tt,tt,tt,tt,tt,tt,ff,tt,tt,tt,tt,tt,tt,tt,ff,tt,ff,ff,ff] rfl rfl (any_of HT_.out (by kernel_rfl)) (fun _ _ _ h => h) (Or.inl ⟨by rfl,?_⟩) ?_ ?_
   rotate_left
   ·intro w'
    go_simp
    with_reducible rfl
   rotate_left
   ·simp only [Act.put,sA,sZ,sS,i64_w,i32_w]
    rfl
   exact norm_ (by simp only [putAll,Act.put,sA,sZ,sS] <;> rfl) (hJ_1_9_16 (g1,g2,gp) _ ⟨hB_,b_g1,l_g1,b_g2,l_g2,b_gp,l_gp,n_g1_g2⟩)
  ·refine box_step ?hg (N:=51) ?hd (cs:=#[.slice (some ⟨g2,0,none⟩) 1 1,.int .i64 (rd_T35 l0 sj).f0,.int .i64 (rd_T35 l0 sj).f1,.int .i64 (rd_T35 l0 sj).f2,.int .i64 (rd_T35 l0 sj).f3]) (t:=74) ?hr ?_;(case hd => rfl);(case hg => rfl);(case hr => first|(go_simp;done)|(go_simp;rfl))
   intro gB hg_ w1_ b_gB hb_
   have l_gB : w2.heap.size ≤ gB:=by rw [hg_];exact hB_.size
   replace b_g2:=b_g2.keep hb_
   replace b_gp:=b_gp.keep hb_
   replace hB_:=keep_below hB_ hb_
   clear hb_ hg_
   refine hK.out _ _ hB_ (fun hHeld => ?_)
   clear hK K
   exact norm_ (by simp only [putAll,Act.put,sA,sZ,sS] <;> rfl) (hJ_9_15_16 (g2,gB,gp) _ ⟨hB_,b_g2,l_g2,b_gB,l_gB,b_gp,l_gp⟩)
  ·refine box_step ?hg (N:=10) ?hd (cs:=#[.pointer none]) (t:=72) ?hr ?_;(case hd => rfl);(case hg => rfl);(case hr => first|(go_simp;done)|(go_simp;rfl))
   intro gq hg_ w1_ b_gq hb_
   have l_gq : w2.heap.size ≤ gq:=by rw [hg_];exact hB_.size
   have n_gp_gq : gp ≠ gq:=by have h_ : gp < w_.heap.size:=b_gp.lt;omega
   replace b_g2:=b_g2.keep hb_
   replace b_gp:=b_gp.keep hb_
   replace hB_:=keep_below hB_ hb_
   clear hb_ hg_
   refine hK.out _ _ hB_ (fun hHeld => ?_)
   clear hK K
   exact norm_ (by simp only [putAll,Act.put,sA,sZ,sS] <;> rfl) (hJ_9_16_17 (g2,gp,gq) _ ⟨hB_,b_g2,l_g2,b_gp,l_gp,b_gq,l_gq,n_gp_gq⟩)
 ·rintro ⟨g2,gq⟩ w_ ⟨hB_,b_g2,l_g2,b_gq,l_gq⟩
  have hHeld:=hB_
  refine norm_ (a':=?_) ?_ ?_
  rotate_left
  ·simp only [putAll,Act.put,sA,sZ,sS]
   rfl
  refine three_ (i:=1) (j:=15) (k:=16) (Ni:=some 37) (Nj:=some 51) (Nk:=some 9) #[tt,tt,tt,tt,tt,tt,ff,ff,tt,tt,tt,tt,tt,tt,tt,ff,ff,tt,ff,ff] #[tt,ff,tt,tt,tt,tt,ff,ff,tt,tt,tt,tt,tt,tt,tt,tt,ff,tt,ff,ff] #[tt,ff,tt,tt,tt,tt,ff,ff,tt,tt,tt,tt,tt,tt,tt,ff,tt,tt,ff,ff] rfl rfl rfl rfl rfl rfl (three_of HT_.out (by kernel_rfl)) (by decide) (by decide) (by decide) (fun K hK => ?_) (fun K hK => ?_) (fun K hK => ?_)
  ·refine slice_step ?hg (N:=37) ?hd (cs:=#[.int .i64 si]) (t:=3) (n:=1) ?hr ?_;(case hd => rfl);(case hg => rfl);(case hr => first|(go_simp;done)|(go_simp;rfl))
   intro g1 hg_ w1_ b_g1 hb_
   have l_g1 : w2.heap.size ≤ g1:=by rw [hg_];exact hB_.size
   have n_g1_g2 : g1 ≠ g2:=by have h_ : g2 < w_.heap.size:=b_g2.lt;omega
   replace b_g2:=b_g2.keep hb_
   replace b_gq:=b_gq.keep hb_
   replace hB_:=keep_below hB_ hb_
   clear hb_ hg_
   refine hK.out _ _ hB_ (fun hHeld => ?_)
   clear hK K
   refine norm_ (a':=?_) ?_ ?_
   rotate_left
   ·show Act.put _ (some 37) _ = _
    simp only [Act.put,sA,sZ,sS]
    rfl
   refine pure_ (i:=6) (N:=some 42) (v:=?_) (a':=?_) #[tt,tt,tt,tt,tt,tt,tt,ff,tt,tt,tt,tt,tt,tt,tt,ff,ff,tt,ff,ff] rfl rfl (any_of HT_.out (by kernel_rfl)) (fun _ _ _ h => h) (Or.inl ⟨by rfl,?_⟩) ?_ ?_
   rotate_left
   ·intro w'
    go_simp
    with_reducible rfl
   rotate_left
   ·simp only [Act.put,sA,sZ,sS,i64_w,i32_w]
    rfl
   exact norm_ (by simp only [putAll,Act.put,sA,sZ,sS] <;> rfl) (hJ_1_9_17 (g1,g2,gq) _ ⟨hB_,b_g1,l_g1,b_g2,l_g2,b_gq,l_gq,n_g1_g2⟩)
  ·refine box_step ?hg (N:=51) ?hd (cs:=#[.slice (some ⟨g2,0,none⟩) 1 1,.int .i64 (rd_T35 l0 sj).f0,.int .i64 (rd_T35 l0 sj).f1,.int .i64 (rd_T35 l0 sj).f2,.int .i64 (rd_T35 l0 sj).f3]) (t:=74) ?hr ?_;(case hd => rfl);(case hg => rfl);(case hr => first|(go_simp;done)|(go_simp;rfl))
   intro gB hg_ w1_ b_gB hb_
   have l_gB : w2.heap.size ≤ gB:=by rw [hg_];exact hB_.size
   replace b_g2:=b_g2.keep hb_
   replace b_gq:=b_gq.keep hb_
   replace hB_:=keep_below hB_ hb_
   clear hb_ hg_
   refine hK.out _ _ hB_ (fun hHeld => ?_)
   clear hK K
   exact norm_ (by simp only [putAll,Act.put,sA,sZ,sS] <;> rfl) (hJ_9_15_17 (g2,gB,gq) _ ⟨hB_,b_g2,l_g2,b_gB,l_gB,b_gq,l_gq⟩)
  ·refine box_step ?hg (N:=9) ?hd (cs:=#[.pointer none]) (t:=72) ?hr ?_;(case hd => rfl);(case hg => rfl);(case hr => first|(go_simp;done)|(go_simp;rfl))
   intro gp hg_ w1_ b_gp hb_
   have l_gp : w2.heap.size ≤ gp:=by rw [hg_];exact hB_.size
   have n_gp_gq : gp ≠ gq:=by have h_ : gq < w_.heap.size:=b_gq.lt;omega
   replace b_g2:=b_g2.keep hb_
   replace b_gq:=b_gq.keep hb_
   replace hB_:=keep_below hB_ hb_
   clear hb_ hg_
   refine hK.out _ _ hB_ (fun hHeld => ?_)
   clear hK K
   exact norm_ (by simp only [putAll,Act.put,sA,sZ,sS] <;> rfl) (hJ_9_16_17 (g2,gp,gq) _ ⟨hB_,b_g2,l_g2,b_gp,l_gp,b_gq,l_gq,n_gp_gq⟩)
 ·rintro ⟨gp,gq⟩ w_ ⟨hB_,b_gp,l_gp,b_gq,l_gq,n_gp_gq⟩
  have hHeld:=hB_
  refine norm_ (a':=?_) ?_ ?_
  rotate_left
  ·simp only [putAll,Act.put,sA,sZ,sS]
   rfl
  refine two_ (i:=1) (j:=9) (Ni:=some 37) (Nj:=some 45) #[tt,tt,tt,tt,tt,tt,ff,ff,tt,ff,tt,tt,tt,tt,ff,ff,tt,tt,ff,ff] #[tt,ff,tt,tt,tt,tt,ff,ff,tt,tt,tt,tt,tt,tt,ff,ff,tt,tt,ff,ff] rfl rfl rfl rfl (two_of HT_.out (by kernel_rfl)) (by decide) (by decide) (fun K hK => ?_) (fun K hK => ?_)
  ·refine slice_step ?hg (N:=37) ?hd (cs:=#[.int .i64 si]) (t:=3) (n:=1) ?hr ?_;(case hd => rfl);(case hg => rfl);(case hr => first|(go_simp;done)|(go_simp;rfl))
   intro g1 hg_ w1_ b_g1 hb_
   have l_g1 : w2.heap.size ≤ g1:=by rw [hg_];exact hB_.size
   replace b_gp:=b_gp.keep hb_
   replace b_gq:=b_gq.keep hb_
   replace hB_:=keep_below hB_ hb_
   clear hb_ hg_
   refine hK.out _ _ hB_ (fun hHeld => ?_)
   clear hK K
   refine norm_ (a':=?_) ?_ ?_
   rotate_left
   ·show Act.put _ (some 37) _ = _
    simp only [Act.put,sA,sZ,sS]
    rfl
   refine pure_ (i:=6) (N:=some 42) (v:=?_) (a':=?_) #[tt,tt,tt,tt,tt,tt,tt,ff,tt,ff,tt,tt,tt,tt,ff,ff,tt,tt,ff,ff] rfl rfl (any_of HT_.out (by kernel_rfl)) (fun _ _ _ h => h) (Or.inl ⟨by rfl,?_⟩) ?_ ?_
   rotate_left
   ·intro w'
    go_simp
    with_reducible rfl
   rotate_left
   ·simp only [Act.put,sA,sZ,sS,i64_w,i32_w]
    rfl
   exact norm_ (by simp only [putAll,Act.put,sA,sZ,sS] <;> rfl) (hJ_1_16_17 (g1,gp,gq) _ ⟨hB_,b_g1,l_g1,b_gp,l_gp,b_gq,l_gq,n_gp_gq⟩)
  ·refine slice_step ?hg (N:=45) ?hd (cs:=#[.int .i64 sj]) (t:=3) (n:=1) ?hr ?_;(case hd => rfl);(case hg => rfl);(case hr => first|(go_simp;done)|(go_simp;rfl))
   intro g2 hg_ w1_ b_g2 hb_
   have l_g2 : w2.heap.size ≤ g2:=by rw [hg_];exact hB_.size
   replace b_gp:=b_gp.keep hb_
   replace b_gq:=b_gq.keep hb_
   replace hB_:=keep_below hB_ hb_
   clear hb_ hg_
   refine hK.out _ _ hB_ (fun hHeld => ?_)
   clear hK K
   refine norm_ (a':=?_) ?_ ?_
   rotate_left
   ·show Act.put _ (some 45) _ = _
    simp only [Act.put,sA,sZ,sS]
    rfl
   refine pure_ (i:=14) (N:=some 50) (v:=?_) (a':=?_) #[tt,ff,tt,tt,tt,tt,ff,ff,tt,tt,tt,tt,tt,tt,tt,ff,tt,tt,ff,ff] rfl rfl (any_of HT_.out (by kernel_rfl)) (fun _ _ _ h => h) (Or.inl ⟨by rfl,?_⟩) ?_ ?_
   rotate_left
   ·intro w'
    go_simp
    with_reducible rfl
   rotate_left
   ·simp only [Act.put,sA,sZ,sS,i64_w,i32_w]
    rfl
   exact norm_ (by simp only [putAll,Act.put,sA,sZ,sS] <;> rfl) (hJ_9_16_17 (g2,gp,gq) _ ⟨hB_,b_g2,l_g2,b_gp,l_gp,b_gq,l_gq,n_gp_gq⟩)
 ·rintro g1 w_ ⟨hB_,b_g1,l_g1⟩
  have hHeld:=hB_
  refine norm_ (a':=?_) ?_ ?_
  rotate_left
  ·simp only [putAll,Act.put,sA,sZ,sS]
   rfl
  refine four_ (i:=7) (j:=9) (k:=16) (m:=17) (Ni:=some 43) (Nj:=some 45) (Nk:=some 9) (Nm:=some 10) #[tt,tt,tt,tt,tt,tt,tt,tt,tt,ff,tt,tt,tt,tt,ff,ff,ff,ff,ff,ff] #[tt,tt,tt,tt,tt,tt,tt,ff,tt,tt,tt,tt,tt,tt,ff,ff,ff,ff,ff,ff] #[tt,tt,tt,tt,tt,tt,tt,ff,tt,ff,tt,tt,tt,tt,ff,ff,tt,ff,ff,ff] #[tt,tt,tt,tt,tt,tt,tt,ff,tt,ff,tt,tt,tt,tt,ff,ff,ff,tt,ff,ff] rfl rfl rfl rfl rfl rfl rfl rfl (four_of HT_.out (by kernel_rfl)) (by decide) (by decide) (by decide) (by decide) (fun K hK => ?_) (fun K hK => ?_) (fun K hK => ?_) (fun K hK => ?_)
  ·refine box_step ?hg (N:=43) ?hd (cs:=#[.slice (some ⟨g1,0,none⟩) 1 1,.int .i64 (rd_T35 l0 si).f0,.int .i64 (rd_T35 l0 si).f1,.int .i64 (rd_T35 l0 si).f2,.int .i64 (rd_T35 l0 si).f3]) (t:=74) ?hr ?_;(case hd => rfl);(case hg => rfl);(case hr => first|(go_simp;done)|(go_simp;rfl))
   intro gA hg_ w1_ b_gA hb_
   have l_gA : w2.heap.size ≤ gA:=by rw [hg_];exact hB_.size
   replace b_g1:=b_g1.keep hb_
   replace hB_:=keep_below hB_ hb_
   clear hb_ hg_
   refine hK.out _ _ hB_ (fun hHeld => ?_)
   clear hK K
   exact norm_ (by simp only [putAll,Act.put,sA,sZ,sS] <;> rfl) (hJ_1_7 (g1,gA) _ ⟨hB_,b_g1,l_g1,b_gA,l_gA⟩)
  ·refine slice_step ?hg (N:=45) ?hd (cs:=#[.int .i64 sj]) (t:=3) (n:=1) ?hr ?_;(case hd => rfl);(case hg => rfl);(case hr => first|(go_simp;done)|(go_simp;rfl))
   intro g2 hg_ w1_ b_g2 hb_
   have l_g2 : w2.heap.size ≤ g2:=by rw [hg_];exact hB_.size
   have n_g1_g2 : g1 ≠ g2:=by have h_ : g1 < w_.heap.size:=b_g1.lt;omega
   replace b_g1:=b_g1.keep hb_
   replace hB_:=keep_below hB_ hb_
   clear hb_ hg_
   refine hK.out _ _ hB_ (fun hHeld => ?_)
   clear hK K
   refine norm_ (a':=?_) ?_ ?_
   rotate_left
   ·show Act.put _ (some 45) _ = _
    simp only [Act.put,sA,sZ,sS]
    rfl
   refine pure_ (i:=14) (N:=some 50) (v:=?_) (a':=?_) #[tt,tt,tt,tt,tt,tt,tt,ff,tt,tt,tt,tt,tt,tt,tt,ff,ff,ff,ff,ff] rfl rfl (any_of HT_.out (by kernel_rfl)) (fun _ _ _ h => h) (Or.inl ⟨by rfl,?_⟩) ?_ ?_
   rotate_left
   ·intro w'
    go_simp
    with_reducible rfl
   rotate_left
   ·simp only [Act.put,sA,sZ,sS,i64_w,i32_w]
    rfl
   exact norm_ (by simp only [putAll,Act.put,sA,sZ,sS] <;> rfl) (hJ_1_9 (g1,g2) _ ⟨hB_,b_g1,l_g1,b_g2,l_g2,n_g1_g2⟩)
  ·refine box_step ?hg (N:=9) ?hd (cs:=#[.pointer none]) (t:=72) ?hr ?_;(case hd => rfl);(case hg => rfl);(case hr => first|(go_simp;done)|(go_simp;rfl))
   intro gp hg_ w1_ b_gp hb_
   have l_gp : w2.heap.size ≤ gp:=by rw [hg_];exact hB_.size
   replace b_g1:=b_g1.keep hb_
   replace hB_:=keep_below hB_ hb_
   clear hb_ hg_
   refine hK.out _ _ hB_ (fun hHeld => ?_)
   clear hK K
   exact norm_ (by simp only [putAll,Act.put,sA,sZ,sS] <;> rfl) (hJ_1_16 (g1,gp) _ ⟨hB_,b_g1,l_g1,b_gp,l_gp⟩)
  ·refine box_step ?hg (N:=10) ?hd (cs:=#[.pointer none]) (t:=72) ?hr ?_;(case hd => rfl);(case hg => rfl);(case hr => first|(go_simp;done)|(go_simp;rfl))
   intro gq hg_ w1_ b_gq hb_
   have l_gq : w2.heap.size ≤ gq:=by rw [hg_];exact hB_.size
   replace b_g1:=b_g1.keep hb_
   replace hB_:=keep_below hB_ hb_
   clear hb_ hg_
   refine hK.out _ _ hB_ (fun hHeld => ?_)
   clear hK K
   exact norm_ (by simp only [putAll,Act.put,sA,sZ,sS] <;> rfl) (hJ_1_17 (g1,gq) _ ⟨hB_,b_g1,l_g1,b_gq,l_gq⟩)
 ·rintro g2 w_ ⟨hB_,b_g2,l_g2⟩
  have hHeld:=hB_
  refine norm_ (a':=?_) ?_ ?_
  rotate_left
  ·simp only [putAll,Act.put,sA,sZ,sS]
   rfl
  refine four_ (i:=1) (j:=15) (k:=16) (m:=17) (Ni:=some 37) (Nj:=some 51) (Nk:=some 9) (Nm:=some 10) #[tt,tt,tt,tt,tt,tt,ff,ff,tt,tt,tt,tt,tt,tt,tt,ff,ff,ff,ff,ff] #[tt,ff,tt,tt,tt,tt,ff,ff,tt,tt,tt,tt,tt,tt,tt,tt,ff,ff,ff,ff] #[tt,ff,tt,tt,tt,tt,ff,ff,tt,tt,tt,tt,tt,tt,tt,ff,tt,ff,ff,ff] #[tt,ff,tt,tt,tt,tt,ff,ff,tt,tt,tt,tt,tt,tt,tt,ff,ff,tt,ff,ff] rfl rfl rfl rfl rfl rfl rfl rfl (four_of HT_.out (by kernel_rfl)) (by decide) (by decide) (by decide) (by decide) (fun K hK => ?_) (fun K hK => ?_) (fun K hK => ?_) (fun K hK => ?_)
  ·refine slice_step ?hg (N:=37) ?hd (cs:=#[.int .i64 si]) (t:=3) (n:=1) ?hr ?_;(case hd => rfl);(case hg => rfl);(case hr => first|(go_simp;done)|(go_simp;rfl))
   intro g1 hg_ w1_ b_g1 hb_
   have l_g1 : w2.heap.size ≤ g1:=by rw [hg_];exact hB_.size
   have n_g1_g2 : g1 ≠ g2:=by have h_ : g2 < w_.heap.size:=b_g2.lt;omega
   replace b_g2:=b_g2.keep hb_
   replace hB_:=keep_below hB_ hb_
   clear hb_ hg_
   refine hK.out _ _ hB_ (fun hHeld => ?_)
   clear hK K
   refine norm_ (a':=?_) ?_ ?_
   rotate_left
   ·show Act.put _ (some 37) _ = _
    simp only [Act.put,sA,sZ,sS]
    rfl
   refine pure_ (i:=6) (N:=some 42) (v:=?_) (a':=?_) #[tt,tt,tt,tt,tt,tt,tt,ff,tt,tt,tt,tt,tt,tt,tt,ff,ff,ff,ff,ff] rfl rfl (any_of HT_.out (by kernel_rfl)) (fun _ _ _ h => h) (Or.inl ⟨by rfl,?_⟩) ?_ ?_
   rotate_left
   ·intro w'
    go_simp
    with_reducible rfl
   rotate_left
   ·simp only [Act.put,sA,sZ,sS,i64_w,i32_w]
    rfl
   exact norm_ (by simp only [putAll,Act.put,sA,sZ,sS] <;> rfl) (hJ_1_9 (g1,g2) _ ⟨hB_,b_g1,l_g1,b_g2,l_g2,n_g1_g2⟩)
  ·refine box_step ?hg (N:=51) ?hd (cs:=#[.slice (some ⟨g2,0,none⟩) 1 1,.int .i64 (rd_T35 l0 sj).f0,.int .i64 (rd_T35 l0 sj).f1,.int .i64 (rd_T35 l0 sj).f2,.int .i64 (rd_T35 l0 sj).f3]) (t:=74) ?hr ?_;(case hd => rfl);(case hg => rfl);(case hr => first|(go_simp;done)|(go_simp;rfl))
   intro gB hg_ w1_ b_gB hb_
   have l_gB : w2.heap.size ≤ gB:=by rw [hg_];exact hB_.size
   replace b_g2:=b_g2.keep hb_
   replace hB_:=keep_below hB_ hb_
   clear hb_ hg_
   refine hK.out _ _ hB_ (fun hHeld => ?_)
   clear hK K
   exact norm_ (by simp only [putAll,Act.put,sA,sZ,sS] <;> rfl) (hJ_9_15 (g2,gB) _ ⟨hB_,b_g2,l_g2,b_gB,l_gB⟩)
  ·refine box_step ?hg (N:=9) ?hd (cs:=#[.pointer none]) (t:=72) ?hr ?_;(case hd => rfl);(case hg => rfl);(case hr => first|(go_simp;done)|(go_simp;rfl))
   intro gp hg_ w1_ b_gp hb_
   have l_gp : w2.heap.size ≤ gp:=by rw [hg_];exact hB_.size
   replace b_g2:=b_g2.keep hb_
   replace hB_:=keep_below hB_ hb_
   clear hb_ hg_
   refine hK.out _ _ hB_ (fun hHeld => ?_)
   clear hK K
   exact norm_ (by simp only [putAll,Act.put,sA,sZ,sS] <;> rfl) (hJ_9_16 (g2,gp) _ ⟨hB_,b_g2,l_g2,b_gp,l_gp⟩)
  ·refine box_step ?hg (N:=10) ?hd (cs:=#[.pointer none]) (t:=72) ?hr ?_;(case hd => rfl);(case hg => rfl);(case hr => first|(go_simp;done)|(go_simp;rfl))
   intro gq hg_ w1_ b_gq hb_
   have l_gq : w2.heap.size ≤ gq:=by rw [hg_];exact hB_.size
   replace b_g2:=b_g2.keep hb_
   replace hB_:=keep_below hB_ hb_
   clear hb_ hg_
   refine hK.out _ _ hB_ (fun hHeld => ?_)
   clear hK K
   exact norm_ (by simp only [putAll,Act.put,sA,sZ,sS] <;> rfl) (hJ_9_17 (g2,gq) _ ⟨hB_,b_g2,l_g2,b_gq,l_gq⟩)
 ·rintro gp w_ ⟨hB_,b_gp,l_gp⟩
  have hHeld:=hB_
  refine norm_ (a':=?_) ?_ ?_
  rotate_left
  ·simp only [putAll,Act.put,sA,sZ,sS]
   rfl
  refine three_ (i:=1) (j:=9) (k:=17) (Ni:=some 37) (Nj:=some 45) (Nk:=some 10) #[tt,tt,tt,tt,tt,tt,ff,ff,tt,ff,tt,tt,tt,tt,ff,ff,tt,ff,ff,ff] #[tt,ff,tt,tt,tt,tt,ff,ff,tt,tt,tt,tt,tt,tt,ff,ff,tt,ff,ff,ff] #[tt,ff,tt,tt,tt,tt,ff,ff,tt,ff,tt,tt,tt,tt,ff,ff,tt,tt,ff,ff] rfl rfl rfl rfl rfl rfl (three_of HT_.out (by kernel_rfl)) (by decide) (by decide) (by decide) (fun K hK => ?_) (fun K hK => ?_) (fun K hK => ?_)
  ·refine slice_step ?hg (N:=37) ?hd (cs:=#[.int .i64 si]) (t:=3) (n:=1) ?hr ?_;(case hd => rfl);(case hg => rfl);(case hr => first|(go_simp;done)|(go_simp;rfl))
   intro g1 hg_ w1_ b_g1 hb_
   have l_g1 : w2.heap.size ≤ g1:=by rw [hg_];exact hB_.size
   replace b_gp:=b_gp.keep hb_
   replace hB_:=keep_below hB_ hb_
   clear hb_ hg_
   refine hK.out _ _ hB_ (fun hHeld => ?_)
   clear hK K
   refine norm_ (a':=?_) ?_ ?_
   rotate_left
   ·show Act.put _ (some 37) _ = _
    simp only [Act.put,sA,sZ,sS]
    rfl
   refine pure_ (i:=6) (N:=some 42) (v:=?_) (a':=?_) #[tt,tt,tt,tt,tt,tt,tt,ff,tt,ff,tt,tt,tt,tt,ff,ff,tt,ff,ff,ff] rfl rfl (any_of HT_.out (by kernel_rfl)) (fun _ _ _ h => h) (Or.inl ⟨by rfl,?_⟩) ?_ ?_
   rotate_left
   ·intro w'
    go_simp
    with_reducible rfl
   rotate_left
   ·simp only [Act.put,sA,sZ,sS,i64_w,i32_w]
    rfl
   exact norm_ (by simp only [putAll,Act.put,sA,sZ,sS] <;> rfl) (hJ_1_16 (g1,gp) _ ⟨hB_,b_g1,l_g1,b_gp,l_gp⟩)
  ·refine slice_step ?hg (N:=45) ?hd (cs:=#[.int .i64 sj]) (t:=3) (n:=1) ?hr ?_;(case hd => rfl);(case hg => rfl);(case hr => first|(go_simp;done)|(go_simp;rfl))
   intro g2 hg_ w1_ b_g2 hb_
   have l_g2 : w2.heap.size ≤ g2:=by rw [hg_];exact hB_.size
   replace b_gp:=b_gp.keep hb_
   replace hB_:=keep_below hB_ hb_
   clear hb_ hg_
   refine hK.out _ _ hB_ (fun hHeld => ?_)
   clear hK K
   refine norm_ (a':=?_) ?_ ?_
   rotate_left
   ·show Act.put _ (some 45) _ = _
    simp only [Act.put,sA,sZ,sS]
    rfl
   refine pure_ (i:=14) (N:=some 50) (v:=?_) (a':=?_) #[tt,ff,tt,tt,tt,tt,ff,ff,tt,tt,tt,tt,tt,tt,tt,ff,tt,ff,ff,ff] rfl rfl (any_of HT_.out (by kernel_rfl)) (fun _ _ _ h => h) (Or.inl ⟨by rfl,?_⟩) ?_ ?_
   rotate_left
   ·intro w'
    go_simp
    with_reducible rfl
   rotate_left
   ·simp only [Act.put,sA,sZ,sS,i64_w,i32_w]
    rfl
   exact norm_ (by simp only [putAll,Act.put,sA,sZ,sS] <;> rfl) (hJ_9_16 (g2,gp) _ ⟨hB_,b_g2,l_g2,b_gp,l_gp⟩)
  ·refine box_step ?hg (N:=10) ?hd (cs:=#[.pointer none]) (t:=72) ?hr ?_;(case hd => rfl);(case hg => rfl);(case hr => first|(go_simp;done)|(go_simp;rfl))
   intro gq hg_ w1_ b_gq hb_
   have l_gq : w2.heap.size ≤ gq:=by rw [hg_];exact hB_.size
   have n_gp_gq : gp ≠ gq:=by have h_ : gp < w_.heap.size:=b_gp.lt;omega
   replace b_gp:=b_gp.keep hb_
   replace hB_:=keep_below hB_ hb_
   clear hb_ hg_
   refine hK.out _ _ hB_ (fun hHeld => ?_)
   clear hK K
   exact norm_ (by simp only [putAll,Act.put,sA,sZ,sS] <;> rfl) (hJ_16_17 (gp,gq) _ ⟨hB_,b_gp,l_gp,b_gq,l_gq,n_gp_gq⟩)
 ·rintro gq w_ ⟨hB_,b_gq,l_gq⟩
  have hHeld:=hB_
  refine norm_ (a':=?_) ?_ ?_
  rotate_left
  ·simp only [putAll,Act.put,sA,sZ,sS]
   rfl
  refine three_ (i:=1) (j:=9) (k:=16) (Ni:=some 37) (Nj:=some 45) (Nk:=some 9) #[tt,tt,tt,tt,tt,tt,ff,ff,tt,ff,tt,tt,tt,tt,ff,ff,ff,tt,ff,ff] #[tt,ff,tt,tt,tt,tt,ff,ff,tt,tt,tt,tt,tt,tt,ff,ff,ff,tt,ff,ff] #[tt,ff,tt,tt,tt,tt,ff,ff,tt,ff,tt,tt,tt,tt,ff,ff,tt,tt,ff,ff] rfl rfl rfl rfl rfl rfl (three_of HT_.out (by kernel_rfl)) (by decide) (by decide) (by decide) (fun K hK => ?_) (fun K hK => ?_) (fun K hK => ?_)
  ·refine slice_step ?hg (N:=37) ?hd (cs:=#[.int .i64 si]) (t:=3) (n:=1) ?hr ?_;(case hd => rfl);(case hg => rfl);(case hr => first|(go_simp;done)|(go_simp;rfl))
   intro g1 hg_ w1_ b_g1 hb_
   have l_g1 : w2.heap.size ≤ g1:=by rw [hg_];exact hB_.size
   replace b_gq:=b_gq.keep hb_
   replace hB_:=keep_below hB_ hb_
   clear hb_ hg_
   refine hK.out _ _ hB_ (fun hHeld => ?_)
   clear hK K
   refine norm_ (a':=?_) ?_ ?_
   rotate_left
   ·show Act.put _ (some 37) _ = _
    simp only [Act.put,sA,sZ,sS]
    rfl
   refine pure_ (i:=6) (N:=some 42) (v:=?_) (a':=?_) #[tt,tt,tt,tt,tt,tt,tt,ff,tt,ff,tt,tt,tt,tt,ff,ff,ff,tt,ff,ff] rfl rfl (any_of HT_.out (by kernel_rfl)) (fun _ _ _ h => h) (Or.inl ⟨by rfl,?_⟩) ?_ ?_
   rotate_left
   ·intro w'
    go_simp
    with_reducible rfl
   rotate_left
   ·simp only [Act.put,sA,sZ,sS,i64_w,i32_w]
    rfl
   exact norm_ (by simp only [putAll,Act.put,sA,sZ,sS] <;> rfl) (hJ_1_17 (g1,gq) _ ⟨hB_,b_g1,l_g1,b_gq,l_gq⟩)
  ·refine slice_step ?hg (N:=45) ?hd (cs:=#[.int .i64 sj]) (t:=3) (n:=1) ?hr ?_;(case hd => rfl);(case hg => rfl);(case hr => first|(go_simp;done)|(go_simp;rfl))
   intro g2 hg_ w1_ b_g2 hb_
   have l_g2 : w2.heap.size ≤ g2:=by rw [hg_];exact hB_.size
   replace b_gq:=b_gq.keep hb_
   replace hB_:=keep_below hB_ hb_
   clear hb_ hg_
   refine hK.out _ _ hB_ (fun hHeld => ?_)
   clear hK K
   refine norm_ (a':=?_) ?_ ?_
   rotate_left
   ·show Act.put _ (some 45) _ = _
    simp only [Act.put,sA,sZ,sS]
    rfl
   refine pure_ (i:=14) (N:=some 50) (v:=?_) (a':=?_) #[tt,ff,tt,tt,tt,tt,ff,ff,tt,tt,tt,tt,tt,tt,tt,ff,ff,tt,ff,ff] rfl rfl (any_of HT_.out (by kernel_rfl)) (fun _ _ _ h => h) (Or.inl ⟨by rfl,?_⟩) ?_ ?_
   rotate_left
   ·intro w'
    go_simp
    with_reducible rfl
   rotate_left
   ·simp only [Act.put,sA,sZ,sS,i64_w,i32_w]
    rfl
   exact norm_ (by simp only [putAll,Act.put,sA,sZ,sS] <;> rfl) (hJ_9_17 (g2,gq) _ ⟨hB_,b_g2,l_g2,b_gq,l_gq⟩)
  ·refine box_step ?hg (N:=9) ?hd (cs:=#[.pointer none]) (t:=72) ?hr ?_;(case hd => rfl);(case hg => rfl);(case hr => first|(go_simp;done)|(go_simp;rfl))
   intro gp hg_ w1_ b_gp hb_
   have l_gp : w2.heap.size ≤ gp:=by rw [hg_];exact hB_.size
   have n_gp_gq : gp ≠ gq:=by have h_ : gq < w_.heap.size:=b_gq.lt;omega
   replace b_gq:=b_gq.keep hb_
   replace hB_:=keep_below hB_ hb_
   clear hb_ hg_
   refine hK.out _ _ hB_ (fun hHeld => ?_)
   clear hK K
   exact norm_ (by simp only [putAll,Act.put,sA,sZ,sS] <;> rfl) (hJ_16_17 (gp,gq) _ ⟨hB_,b_gp,l_gp,b_gq,l_gq,n_gp_gq⟩)
 rintro ⟨g1,gA,g2,gB,gp,gq⟩ w_ ⟨hB_,b_g1,l_g1,b_gA,l_gA,b_g2,l_g2,b_gB,l_gB,b_gp,l_gp,b_gq,l_gq,n_g1_g2,n_gA_gB,n_gp_gq⟩
 have hHeld:=hB_
 refine norm_ (a':=?_) ?_ ?_
 rotate_left
 ·simp only [putAll,Act.put,sA,sZ,sS]
  rfl
 have bA : Blk w_ gA 74 #[.slice (some ⟨g1,0,none⟩) 1 1,.int .i64 (rd_T35 l0 si).f0,.int .i64 (rd_T35 l0 si).f1,.int .i64 (rd_T35 l0 si).f2,.int .i64 (rd_T35 l0 si).f3]:=b_gA
 have bB : Blk w_ gB 74 #[.slice (some ⟨g2,0,none⟩) 1 1,.int .i64 (rd_T35 l0 sj).f0,.int .i64 (rd_T35 l0 sj).f1,.int .i64 (rd_T35 l0 sj).f2,.int .i64 (rd_T35 l0 sj).f3]:=b_gB
 have b1 : Blk w_ g1 3 #[.int .i64 si]:=b_g1
 have b2 : Blk w_ g2 3 #[.int .i64 sj]:=b_g2
 have bp : Blk w_ gp 72 #[.pointer (some ⟨gA,0,none⟩)]:=b_gp
 have bq : Blk w_ gq 72 #[.pointer none]:=b_gq
 have m1 : w2.heap.size ≤ g1:=l_g1
 have m2 : w2.heap.size ≤ g2:=l_g2
 have mA : w2.heap.size ≤ gA:=l_gA
 have mB : w2.heap.size ≤ gB:=l_gB
 have mp : w2.heap.size ≤ gp:=l_gp
 have mq : w2.heap.size ≤ gq:=l_gq
 have nAB : gA ≠ gB:=n_gA_gB
 have n12 : g1 ≠ g2:=n_g1_g2
 have npq : gp ≠ gq:=n_gp_gq
 have hB3:=keep_below hB hB_
 clear b_gA b_gB b_g1 b_g2 b_gp b_gq l_g1 l_g2 l_gA l_gB l_gp l_gq n_gA_gB n_g1_g2 n_gp_gq hB_ hHeld
 have z1:=bq.frozen 0
 have z2 : w_.cell? ⟨gq,0,none⟩ = some (.pointer none):=bq.cell 0
 refine last_ (i:=19) (N:=none) #[tt,tt,tt,tt,tt,tt,tt,tt,tt,tt,tt,tt,tt,tt,tt,tt,tt,tt,tt,tt] rfl rfl (one_of HT_.out (by kernel_rfl)) (by decide) (fun K hK => ?_)
 refine skip_ (w1:=?_) (by rfl) rfl ?_ ?_
 rotate_left
 ·go_simp
  with_reducible rfl
 refine hK.out _ _ ?_
 clear hK K
 clear z1 z2
 refine done_ (done_of HT_.out (by kernel_rfl)) ?_
 have hsz:=hB.size
 replace bA:=bA.far (p:=⟨gq,0,none⟩) (bA.ne_ bq (by decide)) (.pointer (some ⟨gB,0,none⟩))
 replace bB:=bB.far (p:=⟨gq,0,none⟩) (bB.ne_ bq (by decide)) (.pointer (some ⟨gB,0,none⟩))
 replace b1:=b1.far (p:=⟨gq,0,none⟩) (b1.ne_ bq (by decide)) (.pointer (some ⟨gB,0,none⟩))
 replace b2:=b2.far (p:=⟨gq,0,none⟩) (b2.ne_ bq (by decide)) (.pointer (some ⟨gB,0,none⟩))
 replace bp:=bp.far (p:=⟨gq,0,none⟩) npq (.pointer (some ⟨gB,0,none⟩))
 replace hB3:=hB3.setCell (p:=⟨gq,0,none⟩) (show w.heap.size ≤ gq by omega) (.pointer (some ⟨gB,0,none⟩))
 replace bq : Blk (w_.setCell ⟨gq,0,none⟩ (.pointer (some ⟨gB,0,none⟩))) gq 72 #[.pointer (some ⟨gB,0,none⟩)]:=by simpa using bq.set_ 0 (.pointer (some ⟨gB,0,none⟩))
 generalize w_.setCell ⟨gq,0,none⟩ (.pointer (some ⟨gB,0,none⟩)) = w7 at bA bB b1 b2 bp bq hB3 ⊢
 clear x0 x1 x2 x3 y0' y1' y2' y3' HT_ HW_
 have o1:=own_of_blk b1 (show w.heap.size ≤ g1 by omega)
 have o2:=own_of_blk b2 (show w.heap.size ≤ g2 by omega)
 clear b1 b2
 have v1:=wrap_small (z:=2*(l0.length : Int)) (by omega) (by omega)
 have v2:=wrap_small (z:=2*(l0.length : Int) / 5) (by omega) (by omega)
 have v3:=wrap_small (z:=(l0.length : Int) - 2) (by omega) (by omega)
 obtain ⟨lst,hlst⟩ : ∃ m : Int,max (2*(l0.length : Int) / 5) 1 = m:=⟨_,rfl⟩
 have v4 : (if 2*(l0.length : Int) / 5 < 1 then 1 else 2*(l0.length : Int) / 5) = lst:=by rw [← hlst];split <;> omega
 go_wp2
 obtain ⟨AB,hAB,HF⟩:=Option.bind_eq_some_iff.1 H.out
 rw [hlst] at hAB
 clear H v1 v2 v4 hlst
 have c1:=Blk.new w7 3 #[.int .i64 lst]
 have c2:=Blk.new (w7.alloc (.cells #[.int .i64 lst] 3)) 3 #[.int .i64 ((l0.length : Int) - 2)]
 rw [World.size_alloc] at c2
 have l1:=(o1.lt g1 rfl).2
 have l2:=(o2.lt g2 rfl).2
 have hs3:=hB3.size
 have hPA : PartRel w ((w7.alloc (.cells #[.int .i64 lst] 3)).alloc (.cells #[.int .i64 ((l0.length : Int) - 2)] 3)) gA gB gp gq (w7.heap.size+1) w7.heap.size (sideOf l0 si) (sideOf l0 sj) ((l0.length : Int) - 2) lst (.slice (some ⟨g1,0,none⟩) 1 1) (.slice (some ⟨g2,0,none⟩) 1 1) :=
  ⟨(bA.alloc _).alloc _,(bB.alloc _).alloc _,(bp.alloc _).alloc _,(bq.alloc _).alloc _,c2,c1.alloc _,(o1.alloc _).alloc _,(o2.alloc _).alloc _,fun k e e2 => n12 (by simp [Value.ownBlock] at e e2;omega),fun e => by simp [Value.ownBlock] at e;omega,fun e => by simp [Value.ownBlock] at e;omega,fun e => by simp [Value.ownBlock] at e;omega,fun e => by simp [Value.ownBlock] at e;omega,nAB,by omega,by omega,by omega,by omega,keep_below_alloc _ (keep_below_alloc _ hB3)⟩
 clear bA bB bp bq o1 o2 c1 c2 l1 l2 hB3 hC hB
 have HR0:=Lib.hid hr0
 have N7:=Lib.hid hs3
 clear hr0 hs3 m1 m2 mA mB mp mq nAB n12 npq hsz v3
 obtain ⟨gl,hgl⟩ : ∃ g,g = w7.heap.size+1:=⟨_,rfl⟩
 obtain ⟨gm,hgm⟩ : ∃ g,g = w7.heap.size:=⟨_,rfl⟩
 rw [← hgl] at hPA ⊢
 rw [← hgm] at hPA ⊢
 clear hgl hgm
 go_loopw [63] (fun v63 wr => ∃ (n : Int) (a b : Side) (left : Int) (va vb : Value),v63 = .int .i64 n∧0 ≤ n∧n ≤ l0.length∧Hid (partL si sj lst (l0.drop n.toNat) n left a b = some AB∧left ≤ 1000∧0 < a.1.length∧a.1.length ≤ 900∧0 < b.1.length∧b.1.length ≤ 900)∧PartRel w wr gA gB gp gq gl gm a b left lst va vb) (fun v63 _ => l0.length - (intOf v63).toNat)
 case atStart => exact ⟨0,_,_,_,_,_,rfl,Int.le_refl _,by omega,Lib.hid ⟨hAB,by omega,by simp [sideOf],by simp [sideOf],by simp [sideOf],by simp [sideOf]⟩,hPA⟩
 case round =>
  obtain ⟨n,a,b,left,va,vb,rfl,n0,n1,HH,hP⟩:=hrel
  clear hPA hAB
  by_cases hlt : n < l0.length
  ·have hd : decide (n < (l0.length : Int)) = true:=decide_eq_true hlt
   have hC:=Kd.C_below HR0.out hP.hB
   obtain ⟨ad_,e_,x0,x1,x2,x3⟩:=at_T35 hC n n0 hlt
   injection e_ with e_
   subst e_
   clear hC
   have p2 : (0 ≤ n) = True:=eq_true n0
   have p3 : (n < (l0.length : Int)) = True:=eq_true hlt
   have hw:=wrap_small (z:=n+1) (by omega) (by omega)
   obtain ⟨HX,b1,b2,b3,b4,b5⟩:=HH.out
   rw [drop_rd l0 n n0 hlt] at HX
   unfold partL at HX
   clear HH
   obtain ⟨x,hx⟩ : ∃ x,x = rd_T35 l0 n:=⟨_,rfl⟩
   rw [← hx] at HX x0 x1 x2 x3
   clear hx
   by_cases hi : n = si
   ·rw [if_pos (Or.inl hi)] at HX
    subst hi
    have HX':=Lib.hid HX
    clear HX
    go_wp2
    go_roundw
    case rel => exact ⟨n+1,a,b,left,va,vb,by simp [hw],by omega,by omega,Lib.hid ⟨HX'.out,b1,b2,b3,b4,b5⟩,hP.step (bA (Below.refl _ _) _)⟩
    case measure => simp [intOf,hw];omega
   have d1 : (n == si) = false:=beq_eq_false_iff_ne.mpr hi
   by_cases hj : n = sj
   ·rw [if_pos (Or.inr hj)] at HX
    subst hj
    have HX':=Lib.hid HX
    clear HX
    go_wp2
    go_roundw
    case rel => exact ⟨n+1,a,b,left,va,vb,by simp [hw],by omega,by omega,Lib.hid ⟨HX'.out,b1,b2,b3,b4,b5⟩,hP.step (bA (Below.refl _ _) _)⟩
    case measure => simp [intOf,hw];omega
   have d2 : (n == sj) = false:=beq_eq_false_iff_ne.mpr hj
   rw [if_neg (fun e => e.elim hi hj)] at HX
   by_cases h9 : -900 ≤ left
   case neg => rw [if_neg h9] at HX;cases HX
   rw [if_pos h9] at HX
   obtain ⟨c,hc,HX⟩:=Option.bind_eq_some_iff.1 HX
   have hw2:=wrap_small (z:=left - 1) (by omega) (by omega)
   have hx:=Blk.new wr 35 #[.int .i64 x.f0,.int .i64 x.f1,.int .i64 x.f2,.int .i64 x.f3]
   have hP1:=hP.step (bA (Below.refl _ _) (.cells #[.int .i64 x.f0,.int .i64 x.f1,.int .i64 x.f2,.int .i64 x.f3] 35))
   obtain ⟨HC',HX'⟩ : Hid (chooseF (a.1.length : Int) (b.1.length : Int) left lst a.2.1 a.2.2.1 a.2.2.2.1 a.2.2.2.2 b.2.1 b.2.2.1 b.2.2.2.1 b.2.2.2.2 x.f0 x.f1 x.f2 x.f3 = some c)∧True:=⟨Lib.hid hc,trivial⟩
   have HXX:=Lib.hid HX
   clear hc HX HX'
   go_wp2
   generalize wr.heap.size = G at hx ⊢
   generalize wr.alloc (.cells #[.int .i64 x.f0,.int .i64 x.f1,.int .i64 x.f2,.int .i64 x.f3] 35) = W1 at hx hP1 ⊢
   clear x0 x1 x2 x3 hP
   refine start_ (n:=6) (S:=(fun w' => w'.cell? ⟨G,0,none⟩ = some (.int .i64 x.f0)∧w'.cell? ⟨G,1,none⟩ = some (.int .i64 x.f1)∧w'.cell? ⟨G,2,none⟩ = some (.int .i64 x.f2)∧w'.cell? ⟨G,3,none⟩ = some (.int .i64 x.f3))) (ds:=[]) #[ff,ff,ff,ff,ff,ff] (by kernel_rfl) rfl rfl ⟨hx.cell 0,hx.cell 1,hx.cell 2,hx.cell 3⟩ (fun hHeld => ?_)
   refine with_tabW r33.tab15 r33.bits15 (fun HT_ HW_ => ?_)
   refine pure_ (i:=0) (N:=some 76) (v:=?_) (a':=?_) #[tt,ff,ff,ff,ff,ff] rfl rfl (any_of HT_.out (by kernel_rfl)) (fun _ _ _ h => h) (Or.inl ⟨by rfl,?_⟩) ?_ ?_
   rotate_left
   ·intro w'
    go_simp
    with_reducible rfl
   rotate_left
   ·simp only [Act.put,sA,sZ,sS,i64_w,i32_w]
    rfl
   refine take_ (i:=1) (N:=some 77) (v:=?_) (a':=?_) #[tt,tt,ff,ff,ff,ff] rfl rfl (take_ofW HT_.out HW_.out (by kernel_rfl)) (fun _ _ _ h => h) (Or.inl ⟨by rfl,?_⟩) hHeld ?_ ?_
   rotate_left
   ·rintro w' ⟨s0,s1,s2,s3⟩
    go_simp
    with_reducible rfl
   rotate_left
   ·simp only [Act.put,sA,sZ,sS,i64_w,i32_w]
    rfl
   refine pure_ (i:=3) (N:=some 79) (v:=?_) (a':=?_) #[tt,tt,ff,tt,ff,ff] rfl rfl (any_of HT_.out (by kernel_rfl)) (fun _ _ _ h => h) (Or.inl ⟨by rfl,?_⟩) ?_ ?_
   rotate_left
   ·intro w'
    go_simp
    with_reducible rfl
   rotate_left
   ·simp only [Act.put,sA,sZ,sS,i64_w,i32_w]
    rfl
   refine take_ (i:=4) (N:=some 80) (v:=?_) (a':=?_) #[tt,tt,ff,tt,tt,ff] rfl rfl (take_ofW HT_.out HW_.out (by kernel_rfl)) (fun _ _ _ h => h) (Or.inl ⟨by rfl,?_⟩) hHeld ?_ ?_
   rotate_left
   ·rintro w' ⟨s0,s1,s2,s3⟩
    go_simp
    with_reducible rfl
   rotate_left
   ·simp only [Act.put,sA,sZ,sS,i64_w,i32_w]
    rfl
   refine one_ (i:=2) (N:=some 78) #[tt,tt,tt,tt,tt,ff] rfl rfl (one_of HT_.out (by kernel_rfl)) (by decide) (fun K hK => ?_)
   refine goesC Try.func54 (by kernel_rfl) rfl #[.pointer (some ⟨gp,0,none⟩),.pointer (some ⟨gl,0,none⟩),.pointer (some ⟨gm,0,none⟩),.pointer (some ⟨gq,0,none⟩)] #[.agg #[.int .i64 x.f0,.int .i64 x.f1,.int .i64 x.f2,.int .i64 x.f3]] _ (by rfl) rfl rfl (by rfl) (by (try simp only [List.map_toArray,List.map_cons,List.map_nil]);first|done|rfl) ?_
   obtain ⟨qa,ca,rfl,_⟩:=hP1.oA.form b2
   obtain ⟨qb,cb,rfl,_⟩:=hP1.oB.form b4
   have hP2 : PartRel w W1.drew gA gB gp gq gl gm a b left lst _ _:=hP1.step (below_drew (Below.refl _ _))
   have hx2 : Blk W1.drew G _ _:=hx
   clear hP1 hx
   refine (choose_any _ gA gB gp gq gl gm qa qb ca cb a.1.length b.1.length left lst _ _ _ _ _ _ _ _ x.f0 x.f1 x.f2 x.f3 c hP2.bA hP2.bB hP2.bp hP2.bq hP2.bl hP2.bm (by omega) (by omega) (by omega) (by omega) HC'.out).mono ?_
   rintro e w4 ⟨rfl,hb4⟩
   refine ⟨_,rfl,?_⟩
   have hP4:=hP2.step hb4
   have hx4:=hx2.keep hb4
   clear hP2 hx2 hb4
   refine hK.out _ _ ⟨hx4.cell 0,hx4.cell 1,hx4.cell 2,hx4.cell 3⟩ (fun hHeld => ?_)
   clear hK K
   refine norm_ (a':=?_) ?_ ?_
   rotate_left
   ·first|(show Act.put _ (some 78) _ = _;simp only [Act.put,sA,sZ,sS,i64_w,i32_w];rfl)|with_reducible rfl
   have HX:=HXX.out
   clear HXX HC'
   rcases Bool.eq_false_or_eq_true c with rfl|rfl
   ·rw [if_pos rfl] at HX
    obtain ⟨a',ha',HX⟩:=Option.bind_eq_some_iff.1 HX
    unfold putF at ha'
    by_cases hla : a.1.length < 900
    case neg => rw [if_neg hla] at ha';cases ha'
    rw [if_pos hla] at ha'
    obtain ⟨⟨u0,u1,u2,u3⟩,hu,ha'⟩:=Option.bind_eq_some_iff.1 ha'
    injection ha' with ha'
    subst ha'
    have hQ4:=hP4
    refine one_ (i:=5) (N:=some 81) #[tt,tt,tt,tt,tt,tt] rfl rfl (one_of HT_.out (by kernel_rfl)) (by decide) (fun K hK => ?_)
    refine goes_ Try.func55 (by kernel_rfl) rfl #[.pointer (some ⟨gA,0,none⟩),.int .i64 n,.agg #[.int .i64 x.f0,.int .i64 x.f1,.int .i64 x.f2,.int .i64 x.f3]] (by rfl) rfl rfl (by (try simp only [List.map_toArray,List.map_cons,List.map_nil]);first|done|rfl) ?_
    refine (put_any w w4 gA _ a.1 n _ _ _ _ _ _ _ _ u0 u1 u2 u3 hQ4.bA hQ4.oA hQ4.hB hQ4.mA (by omega) hu).mono ?_
    rintro e w5 ⟨⟨rv,rfl⟩,v',q1,q2,q3,q4,q5⟩
    refine ⟨_,rfl,?_⟩
    have hP5:=hQ4.put q1 q2 q3 q4 q5
    have hx5:=hQ4.rest_ q5 hx4 (by decide) (by decide)
    clear q1 q2 q3 q4 q5 hQ4 hP4
    refine hK.out _ _ ⟨hx5.cell 0,hx5.cell 1,hx5.cell 2,hx5.cell 3⟩ (fun hHeld => ?_)
    clear hK K
    refine norm_ (a':=?_) ?_ ?_
    rotate_left
    ·first|(show Act.put _ (some 81) _ = _;simp only [Act.put,sA,sZ,sS,i64_w,i32_w];rfl)|with_reducible rfl
    refine done_ (done_of HT_.out (by kernel_rfl)) ?_
    have cl:=hP5.bl.cell 0
    have fl:=hP5.bl.frozen 0
    go_wp2
    go_roundw
    case rel =>
     refine ⟨n+1,_,_,left - 1,_,_,by simp [hw],by omega,by omega,Lib.hid ⟨HX,by omega,?_⟩,(hP5.setLeft (left - 1))⟩
     simp
     omega
    case measure => simp [intOf,hw];omega
   ·rw [if_neg (by simp)] at HX
    obtain ⟨a',ha',HX⟩:=Option.bind_eq_some_iff.1 HX
    unfold putF at ha'
    by_cases hla : b.1.length < 900
    case neg => rw [if_neg hla] at ha';cases ha'
    rw [if_pos hla] at ha'
    obtain ⟨⟨u0,u1,u2,u3⟩,hu,ha'⟩:=Option.bind_eq_some_iff.1 ha'
    injection ha' with ha'
    subst ha'
    have hQ4:=hP4.swap
    refine one_ (i:=5) (N:=some 81) #[tt,tt,tt,tt,tt,tt] rfl rfl (one_of HT_.out (by kernel_rfl)) (by decide) (fun K hK => ?_)
    refine goes_ Try.func55 (by kernel_rfl) rfl #[.pointer (some ⟨gB,0,none⟩),.int .i64 n,.agg #[.int .i64 x.f0,.int .i64 x.f1,.int .i64 x.f2,.int .i64 x.f3]] (by rfl) rfl rfl (by (try simp only [List.map_toArray,List.map_cons,List.map_nil]);first|done|rfl) ?_
    refine (put_any w w4 gB _ b.1 n _ _ _ _ _ _ _ _ u0 u1 u2 u3 hQ4.bA hQ4.oA hQ4.hB hQ4.mA (by omega) hu).mono ?_
    rintro e w5 ⟨⟨rv,rfl⟩,v',q1,q2,q3,q4,q5⟩
    refine ⟨_,rfl,?_⟩
    have hP5:=hQ4.put q1 q2 q3 q4 q5
    have hx5:=hQ4.rest_ q5 hx4 (by decide) (by decide)
    clear q1 q2 q3 q4 q5 hQ4 hP4
    refine hK.out _ _ ⟨hx5.cell 0,hx5.cell 1,hx5.cell 2,hx5.cell 3⟩ (fun hHeld => ?_)
    clear hK K
    refine norm_ (a':=?_) ?_ ?_
    rotate_left
    ·first|(show Act.put _ (some 81) _ = _;simp only [Act.put,sA,sZ,sS,i64_w,i32_w];rfl)|with_reducible rfl
    refine done_ (done_of HT_.out (by kernel_rfl)) ?_
    have cl:=hP5.bl.cell 0
    have fl:=hP5.bl.frozen 0
    go_wp2
    go_roundw
    case rel =>
     refine ⟨n+1,_,_,left - 1,_,_,by simp [hw],by omega,by omega,Lib.hid ⟨HX,by omega,?_⟩,(hP5.setLeft (left - 1)).swap⟩
     simp
     omega
    case measure => simp [intOf,hw];omega
  ·have hd : decide (n < (l0.length : Int)) = false:=decide_eq_false hlt
   have hn : n = l0.length:=by omega
   subst hn
   obtain ⟨HX,_,b2,_,b4,_⟩:=HH.out
   rw [List.drop_eq_nil_of_le (by omega)] at HX
   unfold partL at HX
   injection HX with HX
   subst HX
   obtain ⟨p,hp,HG⟩:=Option.bind_eq_some_iff.1 HF
   obtain ⟨q,hq,HG⟩:=Option.bind_eq_some_iff.1 HG
   injection HG with HG
   injection HG with e1 HG
   injection HG with e2 e3
   subst e1 e2 e3
   have Hp:=Lib.hid hp
   have Hq:=Lib.hid hq
   clear HH HF hp hq
   go_wp2
   have hP1 : PartRel w wr.drew gA gB gp gq gl gm a b left lst va vb:=hP.step (below_drew (Below.refl _ _))
   refine start_ (n:=13) (S:=(fun w' => w'.cell? ⟨gp,0,none⟩ = some (.pointer (some ⟨gA,0,none⟩))∧w'.cell? ⟨gA,0,none⟩ = some va∧w'.cell? ⟨gq,0,none⟩ = some (.pointer (some ⟨gB,0,none⟩))∧w'.cell? ⟨gB,0,none⟩ = some vb)) (ds:=[]) #[ff,ff,ff,ff,ff,ff,ff,ff,ff,ff,ff,ff,ff] (by kernel_rfl) rfl rfl ⟨hP1.bp.cell 0,hP1.bA.cell 0,hP1.bq.cell 0,hP1.bB.cell 0⟩ (fun hHeld => ?_)
   refine with_tabW r33.tab18 r33.bits18 (fun HT_ HW_ => ?_)
   refine take_ (i:=0) (N:=some 85) (v:=?_) (a':=?_) #[tt,ff,ff,ff,ff,ff,ff,ff,ff,ff,ff,ff,ff] rfl rfl (take_ofW HT_.out HW_.out (by kernel_rfl)) (fun _ _ _ h => h) (Or.inl ⟨by rfl,?_⟩) hHeld ?_ ?_
   rotate_left
   ·rintro w' ⟨s0,s1,s2,s3⟩
    go_simp
    with_reducible rfl
   rotate_left
   ·simp only [Act.put,sA,sZ,sS,i64_w,i32_w]
    rfl
   refine pure_ (i:=1) (N:=some 86) (v:=?_) (a':=?_) #[tt,tt,ff,ff,ff,ff,ff,ff,ff,ff,ff,ff,ff] rfl rfl (any_of HT_.out (by kernel_rfl)) (fun _ _ _ h => h) (Or.inl ⟨by rfl,?_⟩) ?_ ?_
   rotate_left
   ·intro w'
    go_simp
    with_reducible rfl
   rotate_left
   ·simp only [Act.put,sA,sZ,sS,i64_w,i32_w]
    rfl
   refine pure_ (i:=2) (N:=some 87) (v:=?_) (a':=?_) #[tt,tt,tt,ff,ff,ff,ff,ff,ff,ff,ff,ff,ff] rfl rfl (any_of HT_.out (by kernel_rfl)) (fun _ _ _ h => h) (Or.inl ⟨by rfl,?_⟩) ?_ ?_
   rotate_left
   ·intro w'
    go_simp
    with_reducible rfl
   rotate_left
   ·simp only [Act.put,sA,sZ,sS,i64_w,i32_w]
    rfl
   refine take_ (i:=3) (N:=some 88) (v:=?_) (a':=?_) #[tt,tt,tt,tt,ff,ff,ff,ff,ff,ff,ff,ff,ff] rfl rfl (take_ofW HT_.out HW_.out (by kernel_rfl)) (fun _ _ _ h => h) (Or.inl ⟨by rfl,?_⟩) hHeld ?_ ?_
   rotate_left
   ·rintro w' ⟨s0,s1,s2,s3⟩
    go_simp
    with_reducible rfl
   rotate_left
   ·simp only [Act.put,sA,sZ,sS,i64_w,i32_w]
    rfl
   refine take_ (i:=5) (N:=some 90) (v:=?_) (a':=?_) #[tt,tt,tt,tt,ff,tt,ff,ff,ff,ff,ff,ff,ff] rfl rfl (take_ofW HT_.out HW_.out (by kernel_rfl)) (fun _ _ _ h => h) (Or.inl ⟨by rfl,?_⟩) hHeld ?_ ?_
   rotate_left
   ·rintro w' ⟨s0,s1,s2,s3⟩
    go_simp
    with_reducible rfl
   rotate_left
   ·simp only [Act.put,sA,sZ,sS,i64_w,i32_w]
    rfl
   refine pure_ (i:=6) (N:=some 91) (v:=?_) (a':=?_) #[tt,tt,tt,tt,ff,tt,tt,ff,ff,ff,ff,ff,ff] rfl rfl (any_of HT_.out (by kernel_rfl)) (fun _ _ _ h => h) (Or.inl ⟨by rfl,?_⟩) ?_ ?_
   rotate_left
   ·intro w'
    go_simp
    with_reducible rfl
   rotate_left
   ·simp only [Act.put,sA,sZ,sS,i64_w,i32_w]
    rfl
   refine pure_ (i:=7) (N:=some 92) (v:=?_) (a':=?_) #[tt,tt,tt,tt,ff,tt,tt,tt,ff,ff,ff,ff,ff] rfl rfl (any_of HT_.out (by kernel_rfl)) (fun _ _ _ h => h) (Or.inl ⟨by rfl,?_⟩) ?_ ?_
   rotate_left
   ·intro w'
    go_simp
    with_reducible rfl
   rotate_left
   ·simp only [Act.put,sA,sZ,sS,i64_w,i32_w]
    rfl
   refine take_ (i:=8) (N:=some 93) (v:=?_) (a':=?_) #[tt,tt,tt,tt,ff,tt,tt,tt,tt,ff,ff,ff,ff] rfl rfl (take_ofW HT_.out HW_.out (by kernel_rfl)) (fun _ _ _ h => h) (Or.inl ⟨by rfl,?_⟩) hHeld ?_ ?_
   rotate_left
   ·rintro w' ⟨s0,s1,s2,s3⟩
    go_simp
    with_reducible rfl
   rotate_left
   ·simp only [Act.put,sA,sZ,sS,i64_w,i32_w]
    rfl
   refine one_ (i:=4) (N:=some 89) #[tt,tt,tt,tt,tt,tt,tt,tt,tt,ff,ff,ff,ff] rfl rfl (one_of HT_.out (by kernel_rfl)) (by decide) (fun K hK => ?_)
   refine goes_ Try.func56 (by kernel_rfl) rfl #[va] (by rfl) rfl rfl (by (try simp only [List.map_toArray,List.map_cons,List.map_nil]);first|done|rfl) ?_
   generalize wr.drew = W at hP1 ⊢
   have RA : Kd.R (Kd.int .i64) 3 W w.heap.size (fun k_ => va.ownBlock = some k_) va a.1:=Kd.R_of_own (enc:=.int .i64) hP1.oA (fun k h => h)
   refine (key_sorted.calls k (fun k_ => va.ownBlock = some k_) va a.1 p w W hP1.hB RA Hp.out).mono ?_
   rintro e w8 ⟨v0,rfl,R0,hB8,K8⟩
   refine ⟨_,rfl,?_⟩
   have kA : ∀ {g : Nat} {t : TypeId} {cs : Array Value},Blk W g t cs→3 ≠ t→Blk w8 g t cs:=fun h hne => (K8.2 _ h.lt (own_blk_ne hP1.oA h hne)).trans h
   have tp:=kA hP1.bp (by decide)
   have tA:=kA hP1.bA (by decide)
   have tq:=kA hP1.bq (by decide)
   have tB:=kA hP1.bB (by decide)
   have oB8:=own_mv hP1.oB (fun k hk => K8.2 k (hP1.oB.lt k hk).2 (fun e => hP1.ab k e hk))
   refine hK.out _ _ ⟨tp.cell 0,tA.cell 0,tq.cell 0,tB.cell 0⟩ (fun hHeld => ?_)
   clear hK K
   refine norm_ (a':=?_) ?_ ?_
   rotate_left
   ·first|(show Act.put _ (some 89) _ = _;simp only [Act.put,sA,sZ,sS,i64_w,i32_w];rfl)|with_reducible rfl
   refine one_ (i:=9) (N:=some 94) #[tt,tt,tt,tt,tt,tt,tt,tt,tt,tt,ff,ff,ff] rfl rfl (one_of HT_.out (by kernel_rfl)) (by decide) (fun K hK => ?_)
   refine goes_ Try.func56 (by kernel_rfl) rfl #[vb] (by rfl) rfl rfl (by (try simp only [List.map_toArray,List.map_cons,List.map_nil]);first|done|rfl) ?_
   have RB : Kd.R (Kd.int .i64) 3 w8 w.heap.size (fun k_ => vb.ownBlock = some k_) vb b.1:=Kd.R_of_own (enc:=.int .i64) oB8 (fun k h => h)
   refine (key_sorted.calls k (fun k_ => vb.ownBlock = some k_) vb b.1 q w w8 hB8 RB Hq.out).mono ?_
   rintro e w9 ⟨v1,rfl,R1,hB9,K9⟩
   refine ⟨_,rfl,?_⟩
   have kB : ∀ {g : Nat} {t : TypeId} {cs : Array Value},Blk w8 g t cs→3 ≠ t→Blk w9 g t cs:=fun h hne => (K9.2 _ h.lt (own_blk_ne oB8 h hne)).trans h
   refine hK.out _ _ ⟨(kB tp (by decide)).cell 0,(kB tA (by decide)).cell 0,(kB tq (by decide)).cell 0,(kB tB (by decide)).cell 0⟩ (fun hHeld => ?_)
   clear hK K
   refine norm_ (a':=?_) ?_ ?_
   rotate_left
   ·first|(show Act.put _ (some 94) _ = _;simp only [Act.put,sA,sZ,sS,i64_w,i32_w];rfl)|with_reducible rfl
   refine pure_ (i:=10) (N:=some 2) (v:=?_) (a':=?_) #[tt,tt,tt,tt,tt,tt,tt,tt,tt,tt,tt,ff,ff] rfl rfl (any_of HT_.out (by kernel_rfl)) (fun _ _ _ h => h) (Or.inl ⟨by rfl,?_⟩) ?_ ?_
   rotate_left
   ·intro w'
    go_simp
    with_reducible rfl
   rotate_left
   ·simp only [Act.put,sA,sZ,sS,i64_w,i32_w]
    rfl
   refine pure_ (i:=11) (N:=some 3) (v:=?_) (a':=?_) #[tt,tt,tt,tt,tt,tt,tt,tt,tt,tt,tt,tt,ff] rfl rfl (any_of HT_.out (by kernel_rfl)) (fun _ _ _ h => h) (Or.inl ⟨by rfl,?_⟩) ?_ ?_
   rotate_left
   ·intro w'
    go_simp
    with_reducible rfl
   rotate_left
   ·simp only [Act.put,sA,sZ,sS,i64_w,i32_w]
    rfl
   refine pure_ (i:=12) (N:=some 4) (v:=?_) (a':=?_) #[tt,tt,tt,tt,tt,tt,tt,tt,tt,tt,tt,tt,tt] rfl rfl (any_of HT_.out (by kernel_rfl)) (fun _ _ _ h => h) (Or.inl ⟨by rfl,?_⟩) ?_ ?_
   rotate_left
   ·intro w'
    go_simp
    with_reducible rfl
   rotate_left
   ·simp only [Act.put,sA,sZ,sS,i64_w,i32_w]
    rfl
   refine done_ (done_of HT_.out (by kernel_rfl)) ?_
   go_wp2
   have far : ∀ j,vb.ownBlock = some j→¬ (va.ownBlock = some j∨W.heap.size ≤ j):=fun j hj h => h.elim (fun e => hP1.ab j e hj) (fun e => by have:=(hP1.oB.lt j hj).2;omega)
   have R0b:=Kd.R_bound R0
   refine bodyPost_ret (v:=.tuple #[v0,v1,.int .i64 0]) (by simp [results,Try.results33,go_sem, *]) rfl ⟨v0,v1,rfl,?_,?_,hB9⟩
   ·refine Kd.R_mono (Kd.R_step R0b (fun j hj hl => K9.2 j hl (fun e => far j e hj.1))) (fun j hj e => ?_)
    rcases R1.1 j e.symm with h|h
    ·exact far j h hj.1
    ·have:=hj.2.2.1
     omega
   ·refine Kd.R_mono R1 (fun j hj e => ?_)
    have h0:=R0b.1 j e.symm
    rcases hj with h|h
    ·exact far j h h0.1
    ·have:=h0.2.2.1
     omega
end Go.Proofs.Ythlhmijgbjcloaa.A
