/- What the row of this claim reaches. No condition. -/
import Derived.StillTailTactics
import Derived.Test.YtknlbfandkmeiaaQMIter
import Derived.Test.YtknlbfandkmeiaaQMDel
import Derived.Test.YtknlbfandkmeiaaQReg
set_option linter.unusedVariables false
set_option linter.unusedSimpArgs false
namespace Go.Proofs.Ytknlbfandkmeiaa.M
open Go.RowKit Go.Proofs.YtknlbfandkmeiaaW.PrintWords Go.Proofs.YtknlbfandkmeiaaW.PrintLast Go.Proofs.YtknlbfandkmeiaaW.PrintMore
def apr.T29 : Bool × List (List Nat × List Nat) := (true, [([], []), ([0], [0]), ([], []), ([1, 0, 1], [1]), ([2, 3, 0, 1, 2, 3], [2])])
def apr.B29 : List Nat := [0, 1, 0, 3, 15]
theorem apr.tab29 : rtab .any (opsOf Try.f44 29) = apr.T29 := by kernel_rfl
theorem apr.bits29 : waitsOk apr.T29.2 apr.B29 = true := by kernel_rfl
set_option maxHeartbeats 4000000 in
set_option maxRecDepth 100000 in
theorem apply_end (w W : World) (g6 g7 g11 n8 c8 na ca : Nat) (A8 Aa : Option Addr) (r1 r4 : List S51) (hn8 : r1.length = n8) (hna : r4.length = na) (er : Int) (v6 z1 z2 z3 : Value) (hB : Below w.heap.size w W) (h6 : w.heap.size ≤ g6) (h7 : w.heap.size ≤ g7) (n67 : g6 ≠ g7) (n611 : g6 ≠ g11) (n711 : g7 ≠ g11)
    (b6 : Blk W g6 24 #[v6]) (b7 : Blk W g7 41 #[z1, z2, z3]) (b11 : Blk W g11 41 #[.int .i64 er, .int .u64 0, .slice Aa na ca])
    (ho8 : W.ownsRow w.heap.size 51 6 (.slice A8 n8 c8) n8 (rowOf r1)) (hoa : W.ownsRow w.heap.size 51 6 (.slice Aa na ca) na (rowOf r4)) (hdis : ∀ k, (Value.slice A8 n8 c8).ownBlock = some k → (Value.slice Aa na ca).ownBlock ≠ some k) (u0 u1 u2 u3 u4 u5 u9 u10 u12 u13 u14 u15 u16 u17 u18 u19 u20 u21 u22 u23 u24 u25 u26 u27 u28 u29 u30 u31 u32 u33 u34 u35 u36 u37 u38 u39 u40 u41 u42 u43 u44 u45 u46 u47 u48 u49 u50 u51 u52 u53 u54 u55 u56 u57 u58 u59 u60 u61 u62 u63 u64 u65 u66 u67 u68 u69 u70 u71 u72 u73 u74 u75 u76 u77 u78 u79 u80 u81 u82 u83 u84 u85 u86 u87 u88 u89 u90 u91 u92 u93 : Value) :
    ((Go.Code.region 29 #[{ dst := some 91, op := Go.Op.move (Go.Operand.tmp 8), type := 22, pos := "model.go:81", after := #[], guard := none }, { dst := some 92, op := Go.Op.build 24 #[(0, Go.Operand.tmp 91)], type := 24, pos := "model.go:81", after := #[{ on := 0, ground := Go.Ground.data }], guard := none }, { dst := some 93, op := Go.Op.load 41 (Go.Operand.tmp 11), type := 41, pos := "model.go:81", after := #[{ on := 3, ground := Go.Ground.gcOnly Go.Departure.lateStores }], guard := none }, { dst := none, op := Go.Op.store 24 (Go.Operand.tmp 6) (Go.Operand.tmp 92), type := 0, pos := "model.go:81", after := #[{ on := 1, ground := Go.Ground.data }, { on := 0, ground := Go.Ground.phase }, { on := 1, ground := Go.Ground.phase }, { on := 2, ground := Go.Ground.textOnly Go.Departure.lateStores }], guard := none }, { dst := none, op := Go.Op.store 41 (Go.Operand.tmp 7) (Go.Operand.tmp 93), type := 0, pos := "model.go:81", after := #[{ on := 2, ground := Go.Ground.data }, { on := 3, ground := Go.Ground.chain }, { on := 0, ground := Go.Ground.phase }, { on := 1, ground := Go.Ground.phase }, { on := 2, ground := Go.Ground.phase }, { on := 3, ground := Go.Ground.phase }], guard := none }] true).seq Go.Code.ret).wp Try.prog (bodyPost Try.prog Try.f44 fun e w' => ∃ v0_ v3_ : Value, e = .returned (.tuple #[.agg #[v0_], .agg #[.int .i64 er, .int .u64 0, v3_]]) ∧ Kd.R k51 51 w' w.heap.size (fun k_ => some k_ ≠ (v3_ : Value).ownBlock) v0_ r1 ∧ Kd.R k51 51 w' w.heap.size (fun k_ => some k_ ≠ (v0_ : Value).ownBlock) v3_ r4 ∧ Below w.heap.size w w')
      ⟨#[u0, u1, u2, u3, u4, u5, .pointer (some ⟨g6, 0, none⟩), .pointer (some ⟨g7, 0, none⟩), .slice A8 n8 c8, u9, u10, .pointer (some ⟨g11, 0, none⟩), u12, u13, u14, u15, u16, u17, u18, u19, u20, u21, u22, u23, u24, u25, u26, u27, u28, u29, u30, u31, u32, u33, u34, u35, u36, u37, u38, u39, u40, u41, u42, u43, u44, u45, u46, u47, u48, u49, u50, u51, u52, u53, u54, u55, u56, u57, u58, u59, u60, u61, u62, u63, u64, u65, u66, u67, u68, u69, u70, u71, u72, u73, u74, u75, u76, u77, u78, u79, u80, u81, u82, u83, u84, u85, u86, u87, u88, u89, u90, u91, u92, u93], []⟩ W := by
  have x86 := own_blk_ne ho8 b6 (by decide)
  have x87 := own_blk_ne ho8 b7 (by decide)
  have xa6 := own_blk_ne hoa b6 (by decide)
  have xa7 := own_blk_ne hoa b7 (by decide)
  have H8 := Lib.hid ho8
  have HA := Lib.hid hoa
  have HX := Lib.hid (And.intro x86 (And.intro x87 (And.intro xa6 (And.intro xa7 hdis))))
  clear ho8 hoa x86 x87 xa6 xa7 hdis
  have HN := Lib.hid (And.intro hn8 hna)
  clear hn8 hna
  have e0 := b11.cell 0
  have e1 := b11.cell 1
  have e2 := b11.cell 2
  simp at e0 e1 e2
  have q0 := b6.cell 0
  have f0 := b6.frozen 0
  simp at q0
  have r0 := b7.cell 0
  have r1 := b7.cell 1
  have r2 := b7.cell 2
  have f1 := b7.frozen 0
  have f2 := b7.frozen 1
  have f3 := b7.frozen 2
  simp at r0 r1 r2
  go_wp2
  refine start_ (n := 5) (S := (fun w' => w'.cell? ⟨g11, 0, none⟩ = some (.int .i64 er) ∧ w'.cell? ⟨g11, 1, none⟩ = some (.int .u64 0) ∧ w'.cell? ⟨g11, 2, none⟩ = some (.slice Aa na ca))) (ds := [4]) #[false, false, false, false, false] (by kernel_rfl) rfl rfl ⟨e0, e1, e2⟩ (fun hHeld => ?_)
  refine with_tabW apr.tab29 apr.bits29 (fun HT_ HW_ => ?_)
  refine pure_ (i := 0) (N := some 91) (v := ?_) (a' := ?_) #[true, false, false, false, false] rfl rfl (any_of HT_.out (by kernel_rfl)) (fun _ _ _ h => h) (Or.inl ⟨by rfl, ?_⟩) ?_ ?_
  rotate_left
  · intro w'
    go_simp
    with_reducible rfl
  rotate_left
  · simp only [Act.put, List.setIfInBounds_toArray, List.set_cons_zero, List.set_cons_succ, i64_w, i32_w]
    rfl
  refine pure_ (i := 1) (N := some 92) (v := ?_) (a' := ?_) #[true, true, false, false, false] rfl rfl (any_of HT_.out (by kernel_rfl)) (fun _ _ _ h => h) (Or.inl ⟨by rfl, ?_⟩) ?_ ?_
  rotate_left
  · intro w'
    go_simp
    with_reducible rfl
  rotate_left
  · simp only [Act.put, List.setIfInBounds_toArray, List.set_cons_zero, List.set_cons_succ, i64_w, i32_w]
    rfl
  refine take_ (i := 2) (N := some 93) (v := ?_) (a' := ?_) #[true, true, true, false, false] rfl rfl (take_ofW HT_.out HW_.out (by kernel_rfl)) (fun _ _ _ h => h) (Or.inl ⟨by rfl, ?_⟩) hHeld ?_ ?_
  rotate_left
  · rintro w' ⟨s0, s1, s2⟩
    go_simp
    with_reducible rfl
  rotate_left
  · simp only [Act.put, List.setIfInBounds_toArray, List.set_cons_zero, List.set_cons_succ, i64_w, i32_w]
    rfl
  refine one_ (i := 3) (N := none) #[true, true, true, true, false] rfl rfl (one_of HT_.out (by kernel_rfl)) (by decide) (fun K hK => ?_)
  rw [if_pos (by rfl)]
  go_simp
  have b6w : Blk (W.setCell ⟨g6, 0, none⟩ (.slice A8 n8 c8)).drew g6 24 #[.slice A8 n8 c8] := by simpa using Blk.drew (b6.set_ 0 (.slice A8 n8 c8))
  have b7w := Blk.drew (b7.far (p := ⟨g6, 0, none⟩) (fun e => n67 e.symm) (.slice A8 n8 c8))
  have b11w := Blk.drew (b11.far (p := ⟨g6, 0, none⟩) (fun e => n611 e.symm) (.slice A8 n8 c8))
  have hBw : Below w.heap.size w (W.setCell ⟨g6, 0, none⟩ (.slice A8 n8 c8)).drew := Below.drew (hB.setCell h6 _)
  have hm : ∀ k, k ≠ g6 → k ≠ g7 → (W.setCell ⟨g6, 0, none⟩ (.slice A8 n8 c8)).drew.heap[k]? = W.heap[k]? := fun k h _ => Below.heap_setCell W ⟨g6, 0, none⟩ _ k h
  clear e0 e1 e2 q0 f0 r0 r1 r2 f1 f2 f3 hHeld
  generalize (W.setCell ⟨g6, 0, none⟩ (.slice A8 n8 c8)).drew = W1 at b6w b7w b11w hBw hm ⊢
  have e0 := b11w.cell 0
  have e1 := b11w.cell 1
  have e2 := b11w.cell 2
  simp at e0 e1 e2
  have r0 := b7w.cell 0
  have r1 := b7w.cell 1
  have r2 := b7w.cell 2
  have f1 := b7w.frozen 0
  have f2 := b7w.frozen 1
  have f3 := b7w.frozen 2
  simp at r0 r1 r2
  refine hK.out _ _ ⟨e0, e1, e2⟩ (fun hHeld => ?_)
  clear hK K
  refine last_ (i := 4) (N := none) #[true, true, true, true, true] rfl rfl (one_of HT_.out (by kernel_rfl)) (by decide) (fun K hK => ?_)
  refine skip_ (w1 := ?_) (by rfl) rfl ?_ ?_
  rotate_left
  · go_simp
    with_reducible rfl
  refine hK.out _ _ ?_
  clear hK K
  refine done_ (done_of HT_.out (by kernel_rfl)) ?_
  have B7 : Blk (((W1.setCell ⟨g7, 0, none⟩ (.int .i64 er)).setCell ⟨g7, 1, none⟩ (.int .u64 0)).setCell ⟨g7, 2, none⟩ (.slice Aa na ca)) g7 41 #[.int .i64 er, .int .u64 0, .slice Aa na ca] := by simpa using ((b7w.set_ 0 (.int .i64 er)).set_ 1 (.int .u64 0)).set_ 2 (.slice Aa na ca)
  have B6 := ((b6w.far (p := ⟨g7, 0, none⟩) n67 (.int .i64 er)).far (p := ⟨g7, 1, none⟩) n67 (.int .u64 0)).far (p := ⟨g7, 2, none⟩) n67 (.slice Aa na ca)
  have HB := ((hBw.setCell (p := ⟨g7, 0, none⟩) h7 (.int .i64 er)).setCell (p := ⟨g7, 1, none⟩) h7 (.int .u64 0)).setCell (p := ⟨g7, 2, none⟩) h7 (.slice Aa na ca)
  have hM : ∀ k, k ≠ g6 → k ≠ g7 → (((W1.setCell ⟨g7, 0, none⟩ (.int .i64 er)).setCell ⟨g7, 1, none⟩ (.int .u64 0)).setCell ⟨g7, 2, none⟩ (.slice Aa na ca)).heap[k]? = W.heap[k]? := fun k h1 h2 =>
    (Below.heap_setCell _ ⟨g7, 2, none⟩ _ k h2).trans ((Below.heap_setCell _ ⟨g7, 1, none⟩ _ k h2).trans ((Below.heap_setCell _ ⟨g7, 0, none⟩ _ k h2).trans (hm k h1 h2)))
  generalize (((W1.setCell ⟨g7, 0, none⟩ (.int .i64 er)).setCell ⟨g7, 1, none⟩ (.int .u64 0)).setCell ⟨g7, 2, none⟩ (.slice Aa na ca)) = W2 at B6 B7 HB hM ⊢
  clear e0 e1 e2 r0 r1 r2 f1 f2 f3 hHeld
  go_wp2
  refine bodyPost_ret (results_cc rfl _ _ g6 g7 24 41 #[.slice A8 n8 c8] #[.int .i64 er, .int .u64 0, .slice Aa na ca] (0, 0) (0, 0) _ _ rfl B6 Try.underlying24 rfl (by kernel_rfl) rfl B7 Try.underlying41 rfl (by kernel_rfl)) rfl ⟨.slice A8 n8 c8, .slice Aa na ca, rfl, ?_, ?_, HB⟩
  · obtain ⟨rfl, rfl⟩ := HN.out
    obtain ⟨x86, x87, xa6, xa7, hdis⟩ := HX.out
    exact R_of_row (fun k hk e => hdis k hk e.symm) (own_mv H8.out fun k hk => hM k (fun e => x86 (by rw [hk, e])) (fun e => x87 (by rw [hk, e])))
  · obtain ⟨rfl, rfl⟩ := HN.out
    obtain ⟨x86, x87, xa6, xa7, hdis⟩ := HX.out
    exact R_of_row (fun k hk e => hdis k e.symm hk) (own_mv HA.out fun k hk => hM k (fun e => xa6 (by rw [hk, e])) (fun e => xa7 (by rw [hk, e])))
def model_apply.f (l0_0 : List S51) (a1 : Int) (a2_0 : Int) (a2_1 : Bool) (a2_2 a2_3 a2_4 a2_5 a2_6 a2_7 : Int) : Option (List S51 × Int × Int × List S51) :=
  (model_find.f l0_0 a2_2).bind fun p =>
    if a2_0 = 1 ∨ a2_0 = 5 ∨ a2_0 = 6 then some (l0_0, 0, 0, [])
    else if a2_0 = 2 then
      if a2_2 = 0 then some (l0_0, 2, 0, [])
      else (key_Check.f a1 a2_3 a2_4 a2_5 a2_6).bind fun e => if e = 0 then
          (if p.2 = true then some (l0_0, 5, 0, []) else if l0_0.length = 128 then some (l0_0, 6, 0, [])
           else some (l0_0.take (loR l0_0 a2_2) ++ [⟨a2_2, ⟨a2_3, a2_4, a2_5, a2_6⟩, a2_7⟩] ++ l0_0.drop (loR l0_0 a2_2), 0, 0, []))
        else some (l0_0, 314, 0, [])
    else if a2_0 = 3 then
      if a2_2 = 0 then some (l0_0, 2, 0, []) else if p.2 = true then some (l0_0.take (loR l0_0 a2_2) ++ l0_0.drop (loR l0_0 a2_2 + 1), 0, 0, []) else some (l0_0, 4, 0, [])
    else if a2_0 = 4 then
      (key_Check.f 1 a2_3 a2_4 a2_5 a2_6).bind fun e => if e = 0 then some (l0_0, 0, 0, l0_0.filter (meetB ⟨a2_3, a2_4, a2_5, a2_6⟩)) else some (l0_0, 314, 0, [])
    else some (l0_0, 2, 0, [])
section
variable (a2_0 : Int) (a2_1 : Bool) (a2_2 a2_3 a2_4 a2_5 a2_6 a2_7 : Int)
structure ASt (w W : World) (g : Nat) (er : Int) (v8 va : Value) (l : List S51) : Prop where
  b5 : Blk W (w.heap.size + 1) 38 #[.int .i64 a2_0, .bool a2_1, .int .u32 a2_2, .int .i64 a2_3, .int .i64 a2_4, .int .i64 a2_5, .int .i64 a2_6, .int .i64 a2_7]
  b6 : Blk W (w.heap.size + 1 + 1) 24 #[.slice none 0 0]
  b7 : Blk W (w.heap.size + 1 + 1 + 1) 41 #[.int .i64 0, .int .u64 0, .slice none 0 0]
  b11 : Blk W g 41 #[.int .i64 er, .int .u64 0, va]
  row : W.ownsRow (w.heap.size + 1 + 1 + 1 + 1) 51 6 v8 l.length (rowOf l)
  hB : Below w.heap.size w W
  hg : w.heap.size + 1 + 1 + 1 + 1 ≤ g
variable {a2_0 a2_1 a2_2 a2_3 a2_4 a2_5 a2_6 a2_7} {w W W' : World} {g : Nat} {er : Int} {v8 va : Value} {l : List S51}
theorem ASt.below (h : ASt a2_0 a2_1 a2_2 a2_3 a2_4 a2_5 a2_6 a2_7 w W g er v8 va l) (hb : Below W.heap.size W W') : ASt a2_0 a2_1 a2_2 a2_3 a2_4 a2_5 a2_6 a2_7 w W' g er v8 va l :=
  ⟨h.b5.keep hb, h.b6.keep hb, h.b7.keep hb, h.b11.keep hb, own_mv h.row fun k hk => hb.block k (h.row.lt k hk).2, keep_below h.hB hb, h.hg⟩
theorem ASt.err (h : ASt a2_0 a2_1 a2_2 a2_3 a2_4 a2_5 a2_6 a2_7 w W g er v8 va l) (e : Int) : ASt a2_0 a2_1 a2_2 a2_3 a2_4 a2_5 a2_6 a2_7 w (W.setCell ⟨g, 0, none⟩ (.int .i64 e)) g e v8 va l :=
  ⟨h.b5.far (fun x => by have := h.hg; simp at x; omega) _, h.b6.far (fun x => by have := h.hg; simp at x; omega) _, h.b7.far (fun x => by have := h.hg; simp at x; omega) _, by simpa using h.b11.set_ 0 (.int .i64 e),
    own_mv h.row fun k hk => Below.heap_setCell W ⟨g, 0, none⟩ _ k (fun x => own_blk_ne h.row h.b11 (by decide) (by rw [hk, x])), h.hB.setCell (by have := h.hg; show w.heap.size ≤ g; omega) _, h.hg⟩
theorem ASt.rows (h : ASt a2_0 a2_1 a2_2 a2_3 a2_4 a2_5 a2_6 a2_7 w W g er v8 va l) (va' : Value) : ASt a2_0 a2_1 a2_2 a2_3 a2_4 a2_5 a2_6 a2_7 w (W.setCell ⟨g, 2, none⟩ va') g er v8 va' l :=
  ⟨h.b5.far (fun x => by have := h.hg; simp at x; omega) _, h.b6.far (fun x => by have := h.hg; simp at x; omega) _, h.b7.far (fun x => by have := h.hg; simp at x; omega) _, by simpa using h.b11.set_ 2 va',
    own_mv h.row fun k hk => Below.heap_setCell W ⟨g, 2, none⟩ _ k (fun x => own_blk_ne h.row h.b11 (by decide) (by rw [hk, x])), h.hB.setCell (by have := h.hg; show w.heap.size ≤ g; omega) _, h.hg⟩
theorem ASt.put (h : ASt a2_0 a2_1 a2_2 a2_3 a2_4 a2_5 a2_6 a2_7 w W g er v8 va l) {v9 : Value} {m : List S51} (hg : W.grownBy W' v8.ownBlock) (ho : W'.ownsRow (w.heap.size + 1 + 1 + 1 + 1) 51 6 v9 m.length (rowOf m)) : ASt a2_0 a2_1 a2_2 a2_3 a2_4 a2_5 a2_6 a2_7 w W' g er v9 va m :=
  ⟨h.b5.grown hg (fun x => own_blk_ne h.row h.b5 (by decide) x.symm), h.b6.grown hg (fun x => own_blk_ne h.row h.b6 (by decide) x.symm), h.b7.grown hg (fun x => own_blk_ne h.row h.b7 (by decide) x.symm), h.b11.grown hg (fun x => own_blk_ne h.row h.b11 (by decide) x.symm),
    ho, Below.grown h.hB hg h.hB.size (fun k hk => by have := (h.row.lt k hk).1; omega), h.hg⟩
theorem ASt.end_ {A8 : Option Addr} {c8 : Nat} (h : ASt a2_0 a2_1 a2_2 a2_3 a2_4 a2_5 a2_6 a2_7 w W g er (.slice A8 l.length c8) (.slice none 0 0) l) (u0 u1 u2 u3 u4 u5 u9 u10 u12 u13 u14 u15 u16 u17 u18 u19 u20 u21 u22 u23 u24 u25 u26 u27 u28 u29 u30 u31 u32 u33 u34 u35 u36 u37 u38 u39 u40 u41 u42 u43 u44 u45 u46 u47 u48 u49 u50 u51 u52 u53 u54 u55 u56 u57 u58 u59 u60 u61 u62 u63 u64 u65 u66 u67 u68 u69 u70 u71 u72 u73 u74 u75 u76 u77 u78 u79 u80 u81 u82 u83 u84 u85 u86 u87 u88 u89 u90 u91 u92 u93 : Value) :
    ((Go.Code.region 29 #[{ dst := some 91, op := Go.Op.move (Go.Operand.tmp 8), type := 22, pos := "model.go:81", after := #[], guard := none }, { dst := some 92, op := Go.Op.build 24 #[(0, Go.Operand.tmp 91)], type := 24, pos := "model.go:81", after := #[{ on := 0, ground := Go.Ground.data }], guard := none }, { dst := some 93, op := Go.Op.load 41 (Go.Operand.tmp 11), type := 41, pos := "model.go:81", after := #[{ on := 3, ground := Go.Ground.gcOnly Go.Departure.lateStores }], guard := none }, { dst := none, op := Go.Op.store 24 (Go.Operand.tmp 6) (Go.Operand.tmp 92), type := 0, pos := "model.go:81", after := #[{ on := 1, ground := Go.Ground.data }, { on := 0, ground := Go.Ground.phase }, { on := 1, ground := Go.Ground.phase }, { on := 2, ground := Go.Ground.textOnly Go.Departure.lateStores }], guard := none }, { dst := none, op := Go.Op.store 41 (Go.Operand.tmp 7) (Go.Operand.tmp 93), type := 0, pos := "model.go:81", after := #[{ on := 2, ground := Go.Ground.data }, { on := 3, ground := Go.Ground.chain }, { on := 0, ground := Go.Ground.phase }, { on := 1, ground := Go.Ground.phase }, { on := 2, ground := Go.Ground.phase }, { on := 3, ground := Go.Ground.phase }], guard := none }] true).seq Go.Code.ret).wp Try.prog (bodyPost Try.prog Try.f44 fun e w' => ∃ v0_ v3_ : Value, e = .returned (.tuple #[.agg #[v0_], .agg #[.int .i64 er, .int .u64 0, v3_]]) ∧ Kd.R k51 51 w' w.heap.size (fun k_ => some k_ ≠ (v3_ : Value).ownBlock) v0_ l ∧ Kd.R k51 51 w' w.heap.size (fun k_ => some k_ ≠ (v0_ : Value).ownBlock) v3_ [] ∧ Below w.heap.size w w')
      ⟨#[u0, u1, u2, u3, u4, u5, .pointer (some ⟨w.heap.size + 1 + 1, 0, none⟩), .pointer (some ⟨w.heap.size + 1 + 1 + 1, 0, none⟩), .slice A8 l.length c8, u9, u10, .pointer (some ⟨g, 0, none⟩), u12, u13, u14, u15, u16, u17, u18, u19, u20, u21, u22, u23, u24, u25, u26, u27, u28, u29, u30, u31, u32, u33, u34, u35, u36, u37, u38, u39, u40, u41, u42, u43, u44, u45, u46, u47, u48, u49, u50, u51, u52, u53, u54, u55, u56, u57, u58, u59, u60, u61, u62, u63, u64, u65, u66, u67, u68, u69, u70, u71, u72, u73, u74, u75, u76, u77, u78, u79, u80, u81, u82, u83, u84, u85, u86, u87, u88, u89, u90, u91, u92, u93], []⟩ W := by
  have hg := h.hg
  exact apply_end w W (w.heap.size + 1 + 1) (w.heap.size + 1 + 1 + 1) g l.length c8 0 0 A8 none l [] rfl rfl er _ _ _ _ h.hB (by omega) (by omega) (by omega) (by omega) (by omega) h.b6 h.b7 h.b11 (own_weaken h.row (by omega)) (World.ownsRow_nil _ _ _ _) (fun k _ hk => by simp [Value.ownBlock] at hk) u0 u1 u2 u3 u4 u5 u9 u10 u12 u13 u14 u15 u16 u17 u18 u19 u20 u21 u22 u23 u24 u25 u26 u27 u28 u29 u30 u31 u32 u33 u34 u35 u36 u37 u38 u39 u40 u41 u42 u43 u44 u45 u46 u47 u48 u49 u50 u51 u52 u53 u54 u55 u56 u57 u58 u59 u60 u61 u62 u63 u64 u65 u66 u67 u68 u69 u70 u71 u72 u73 u74 u75 u76 u77 u78 u79 u80 u81 u82 u83 u84 u85 u86 u87 u88 u89 u90 u91 u92 u93
end
theorem lo_le (l : List S51) (row : Int) : loR l row ≤ l.length := by
  induction l with
  | nil => simp [loR]
  | cons x l ih => unfold loR; split <;> simp <;> omega
theorem lo_lt (l : List S51) (row : Int) (h : thR l row = true) : loR l row < l.length := by
  induction l with
  | nil => simp [thR] at h
  | cons x l ih =>
    unfold loR
    unfold thR at h
    split
    · rename_i hx
      rw [if_pos hx] at h
      have := ih h
      simp
      omega
    · simp
set_option maxHeartbeats 16000000 in
set_option maxRecDepth 100000 in
theorem apply_any (A0_0 : Option Addr) (c0_0 : Nat) (l0_0 : List (S51)) (a1 : Int) (a2_0 : Int) (a2_1 : Bool) (a2_2 : Int) (a2_3 : Int) (a2_4 : Int) (a2_5 : Int) (a2_6 : Int) (a2_7 : Int) (r1 : List (S51)) (r2 : Int) (r3 : Int) (r4 : List (S51)) (w : World) (hr0_0 : Kd.C k51 w A0_0 l0_0.length l0_0) (hc0_0 : l0_0.length ≤ c0_0) (h : model_apply.f l0_0 a1 a2_0 a2_1 a2_2 a2_3 a2_4 a2_5 a2_6 a2_7 = some (r1, r2, r3, r4)) :
    Calls Try.prog 44 #[.agg #[.slice A0_0 l0_0.length c0_0], .int .i64 a1, .agg #[.int .i64 a2_0, .bool a2_1, .int .u32 a2_2, .int .i64 a2_3, .int .i64 a2_4, .int .i64 a2_5, .int .i64 a2_6, .int .i64 a2_7]] w fun e w' => ∃ v0_ v3_ : Value, e = .returned (.tuple #[.agg #[v0_], .agg #[.int .i64 r2, .int .u64 r3, v3_]]) ∧ Kd.R k51 51 w' w.heap.size (fun k_ => some k_ ≠ (v3_ : Value).ownBlock) v0_ r1 ∧ Kd.R k51 51 w' w.heap.size (fun k_ => some k_ ≠ (v0_ : Value).ownBlock) v3_ r4 ∧ Below w.heap.size w w' := by
  unfold model_apply.f at h
  obtain ⟨⟨fi, ft⟩, hf, hx⟩ := Option.bind_eq_some_iff.1 h
  clear h
  have h := hx
  clear hx
  have hfl : l0_0.length ≤ 1000 := by
    unfold model_find.f at hf
    by_cases hc : l0_0.length ≤ 1000 ∧ riseR l0_0
    · exact hc.1
    · rw [if_neg hc] at hf; cases hf
  have hfe : fi = (loR l0_0 a2_2 : Nat) ∧ ft = thR l0_0 a2_2 := by
    unfold model_find.f at hf
    by_cases hc : l0_0.length ≤ 1000 ∧ riseR l0_0
    · rw [if_pos hc] at hf
      injection hf with hf
      injection hf with h1 h2
      exact ⟨h1.symm, h2.symm⟩
    · rw [if_neg hc] at hf; cases hf
  obtain ⟨rfl, rfl⟩ := hfe
  dsimp only at h
  have HR := Lib.hid hr0_0
  have HF := Lib.hid hf
  have HH := Lib.hid h
  clear hr0_0 hf h
  go_enter Try.func44, Try.ntmps44
  obtain ⟨W0, hW0⟩ : ∃ W, ((((w.alloc (.cells #[.slice A0_0 l0_0.length c0_0] 24)).alloc (.cells #[.int .i64 a2_0, .bool a2_1, .int .u32 a2_2, .int .i64 a2_3, .int .i64 a2_4, .int .i64 a2_5, .int .i64 a2_6, .int .i64 a2_7] 38)).alloc (.cells #[.slice none 0 0] 24)).alloc (.cells #[.int .i64 0, .int .u64 0, .slice none 0 0] 41)) = W := ⟨_, rfl⟩
  have p5 : Blk W0 (w.heap.size + 1) 38 #[.int .i64 a2_0, .bool a2_1, .int .u32 a2_2, .int .i64 a2_3, .int .i64 a2_4, .int .i64 a2_5, .int .i64 a2_6, .int .i64 a2_7] := by
    rw [← hW0]; exact Blk.alloc (Blk.alloc (Blk.newAt (by simp)) _) _
  have p6 : Blk W0 (w.heap.size + 1 + 1) 24 #[.slice none 0 0] := by
    rw [← hW0]; exact Blk.alloc (Blk.newAt (by simp)) _
  have p7 : Blk W0 (w.heap.size + 1 + 1 + 1) 41 #[.int .i64 0, .int .u64 0, .slice none 0 0] := by
    rw [← hW0]; exact Blk.newAt (by simp)
  have hB0 : Below w.heap.size w W0 := by
    rw [← hW0]; exact keep_below_alloc _ (keep_below_alloc _ (keep_below_alloc _ (keep_below_alloc _ (Below.refl _ _))))
  have hs0 : W0.heap.size = w.heap.size + 1 + 1 + 1 + 1 := by rw [← hW0]; simp
  have HC := Lib.hid (api_Row_43.calls A0_0 c0_0 l0_0 l0_0 W0 (Kd.C_below HR.out hB0) hc0_0 (by unfold api_Row_43.f; rw [if_pos hfl]))
  have HW := Lib.hid hW0
  clear hW0
  go_upto_region 4 with (first
    | (go_at_call 43; rw [HW.out]; (with_reducible refine HC.out.mono ?_); rintro e w1 ⟨v8, rfl, ho1, hb1⟩
       have hrow1 := row_of_R ho1
       obtain ⟨A1, c1, rfl, hc1, hm1, hC1⟩ := C_of_row hrow1
       have q5 := p5.keep hb1; have q6 := p6.keep hb1; have q7 := p7.keep hb1; have hB1 := keep_below hB0 hb1
       have HX1 := Lib.hid (And.intro hrow1 (And.intro hc1 (And.intro hm1 (And.intro hC1 (And.intro q6 (And.intro q7 (And.intro hB1 hb1)))))))
       have k2 := q5.cell 2; simp at k2
       clear ho1 hrow1 hC1 hb1 q6 q7 hB1 hc1 hm1)
    | (go_at_call 67; (with_reducible refine (find_any A1 c1 l0_0 a2_2 _ _ w1 HX1.out.2.2.2.1 HF.out).mono ?_); rintro e w2 ⟨rfl, hb2⟩))
  have HS : ASt a2_0 a2_1 a2_2 a2_3 a2_4 a2_5 a2_6 a2_7 w (w2.alloc (.cells #[.int .i64 0, .int .u64 0, .slice none 0 0] 41)) w2.heap.size 0 (.slice A1 l0_0.length c1) (.slice none 0 0) l0_0 := by
    obtain ⟨hrow1, hc1, hm1, hC1, q6, q7, hB1, hb1⟩ := HX1.out
    have hs1 := hb1.size
    have hs2 := hb2.size
    exact ⟨(q5.keep hb2).alloc _, (q6.keep hb2).alloc _, (q7.keep hb2).alloc _, Blk.new _ _ _, (own_mv (by rw [hs0] at hrow1; exact hrow1) fun k hk => hb2.block k (hrow1.lt k hk).2).alloc _, keep_below_alloc _ (keep_below hB1 hb2), by omega⟩
  clear k2 q5 hb2
  clear HX1
  generalize w2.alloc (.cells #[.int .i64 0, .int .u64 0, .slice none 0 0] 41) = W3 at HS ⊢
  rename_i K1 hK1 K0 hK0
  have HK1 := Lib.hid hK1
  clear hK1
  have k0 := HS.b5.cell 0
  have k2 := HS.b5.cell 2
  have k3 := HS.b5.cell 3
  have k4 := HS.b5.cell 4
  have k5 := HS.b5.cell 5
  have k6 := HS.b5.cell 6
  have k7 := HS.b5.cell 7
  have m0 := HS.b11.cell 0
  have y0 := HS.b11.frozen 0
  simp at k0 k2 k3 k4 k5 k6 k7 m0
  have h := HH.out
  clear HH HW HC HF
  by_cases d1 : a2_0 = 1 ∨ a2_0 = 5 ∨ a2_0 = 6
  · rw [if_pos d1] at h
    simp only [Option.some.injEq, Prod.mk.injEq] at h
    obtain ⟨rfl, rfl, rfl, rfl⟩ := h
    rcases d1 with rfl | rfl | rfl
    · go_wp2
      refine HK1.out _ _ ?_
      exact HS.end_ _ _ _ _ _ _ _ _ _ _ _ _ _ _ _ _ _ _ _ _ _ _ _ _ _ _ _ _ _ _ _ _ _ _ _ _ _ _ _ _ _ _ _ _ _ _ _ _ _ _ _ _ _ _ _ _ _ _ _ _ _ _ _ _ _ _ _ _ _ _ _ _ _ _ _ _ _ _ _ _ _ _ _ _ _ _ _ _ _ _
    · go_wp2
      refine HK1.out _ _ ?_
      exact HS.end_ _ _ _ _ _ _ _ _ _ _ _ _ _ _ _ _ _ _ _ _ _ _ _ _ _ _ _ _ _ _ _ _ _ _ _ _ _ _ _ _ _ _ _ _ _ _ _ _ _ _ _ _ _ _ _ _ _ _ _ _ _ _ _ _ _ _ _ _ _ _ _ _ _ _ _ _ _ _ _ _ _ _ _ _ _ _ _ _ _ _
    · go_wp2
      refine HK1.out _ _ ?_
      exact HS.end_ _ _ _ _ _ _ _ _ _ _ _ _ _ _ _ _ _ _ _ _ _ _ _ _ _ _ _ _ _ _ _ _ _ _ _ _ _ _ _ _ _ _ _ _ _ _ _ _ _ _ _ _ _ _ _ _ _ _ _ _ _ _ _ _ _ _ _ _ _ _ _ _ _ _ _ _ _ _ _ _ _ _ _ _ _ _ _ _ _ _
  rw [if_neg d1] at h
  have z1 : (a2_0 == 1) = false := beq_eq_false_iff_ne.mpr (fun e => d1 (.inl e))
  have z5 : (a2_0 == 5) = false := beq_eq_false_iff_ne.mpr (fun e => d1 (.inr (.inl e)))
  have z6 : (a2_0 == 6) = false := beq_eq_false_iff_ne.mpr (fun e => d1 (.inr (.inr e)))
  clear d1
  by_cases d2 : a2_0 = 2
  · rw [if_pos d2] at h
    subst d2
    clear z1 z5 z6
    by_cases d3 : a2_2 = 0
    · rw [if_pos d3] at h
      simp only [Option.some.injEq, Prod.mk.injEq] at h
      obtain ⟨rfl, rfl, rfl, rfl⟩ := h
      subst d3
      have HE := HS.err 2
      go_wp2
      refine HK1.out _ _ ?_
      exact HE.end_ _ _ _ _ _ _ _ _ _ _ _ _ _ _ _ _ _ _ _ _ _ _ _ _ _ _ _ _ _ _ _ _ _ _ _ _ _ _ _ _ _ _ _ _ _ _ _ _ _ _ _ _ _ _ _ _ _ _ _ _ _ _ _ _ _ _ _ _ _ _ _ _ _ _ _ _ _ _ _ _ _ _ _ _ _ _ _ _ _ _
    rw [if_neg d3] at h
    have z2 : (a2_2 == 0) = false := beq_eq_false_iff_ne.mpr d3
    clear d3
    obtain ⟨e, he, hx⟩ := Option.bind_eq_some_iff.1 h
    clear h
    have h := hx
    clear hx
    have HC := fun W => Lib.hid (key_Check.calls a1 a2_3 a2_4 a2_5 a2_6 e W he)
    clear he
    by_cases d4 : e = 0
    · rw [if_pos d4] at h
      subst d4
      by_cases d5 : thR l0_0 a2_2 = true
      · rw [if_pos d5] at h
        simp only [Option.some.injEq, Prod.mk.injEq] at h
        obtain ⟨rfl, rfl, rfl, rfl⟩ := h
        go_wp2_with (go_at_call 49; (with_reducible refine (HC _).out.mono ?_); rintro e w4 ⟨rfl, hb4⟩; have HS4 := HS.below hb4; have m4 := HS4.b11.cell 0; have y4 := HS4.b11.frozen 0; simp at m4; have HE := HS4.err 5)
        refine HK1.out _ _ ?_
        exact HE.end_ _ _ _ _ _ _ _ _ _ _ _ _ _ _ _ _ _ _ _ _ _ _ _ _ _ _ _ _ _ _ _ _ _ _ _ _ _ _ _ _ _ _ _ _ _ _ _ _ _ _ _ _ _ _ _ _ _ _ _ _ _ _ _ _ _ _ _ _ _ _ _ _ _ _ _ _ _ _ _ _ _ _ _ _ _ _ _ _ _ _
      rw [if_neg d5] at h
      have d5' : thR l0_0 a2_2 = false := by simpa using d5
      clear d5
      by_cases d6 : l0_0.length = 128
      · rw [if_pos d6] at h
        simp only [Option.some.injEq, Prod.mk.injEq] at h
        obtain ⟨rfl, rfl, rfl, rfl⟩ := h
        have z8 : ((l0_0.length : Int) == 128) = true := by simp [d6]
        clear d6
        go_wp2_with (go_at_call 49; (with_reducible refine (HC _).out.mono ?_); rintro e w4 ⟨rfl, hb4⟩; have HS4 := HS.below hb4; have m4 := HS4.b11.cell 0; have y4 := HS4.b11.frozen 0; simp at m4; have HE := HS4.err 6)
        refine HK1.out _ _ ?_
        exact HE.end_ _ _ _ _ _ _ _ _ _ _ _ _ _ _ _ _ _ _ _ _ _ _ _ _ _ _ _ _ _ _ _ _ _ _ _ _ _ _ _ _ _ _ _ _ _ _ _ _ _ _ _ _ _ _ _ _ _ _ _ _ _ _ _ _ _ _ _ _ _ _ _ _ _ _ _ _ _ _ _ _ _ _ _ _ _ _ _ _ _ _
      rw [if_neg d6] at h
      simp only [Option.some.injEq, Prod.mk.injEq] at h
      obtain ⟨rfl, rfl, rfl, rfl⟩ := h
      have z8 : ((l0_0.length : Int) == 128) = false := beq_eq_false_iff_ne.mpr (by omega)
      clear d6
      have hlo := lo_le l0_0 a2_2
      have HI : ∀ W4 : World, ASt 2 a2_1 a2_2 a2_3 a2_4 a2_5 a2_6 a2_7 w W4 w2.heap.size 0 (.slice A1 l0_0.length c1) (.slice none 0 0) l0_0 → Hid (Calls Try.prog 68 #[.slice A1 l0_0.length c1, .int .i64 (loR l0_0 a2_2 : Nat), .slice (some ⟨W4.heap.size, 0, none⟩) 1 1] (W4.alloc (.cells #[.int .u32 a2_2, .int .i64 a2_3, .int .i64 a2_4, .int .i64 a2_5, .int .i64 a2_6, .int .i64 a2_7] 51)) fun e w' => ∃ v', e = .returned v' ∧ w'.ownsRow (w.heap.size + 1 + 1 + 1 + 1) 51 6 v' (l0_0.length + 1) ((rowOf l0_0).take (loR l0_0 a2_2 * 6) ++ cellsOf ⟨a2_2, ⟨a2_3, a2_4, a2_5, a2_6⟩, a2_7⟩ ++ (rowOf l0_0).drop (loR l0_0 a2_2 * 6)) ∧ (W4.alloc (.cells #[.int .u32 a2_2, .int .i64 a2_3, .int .i64 a2_4, .int .i64 a2_5, .int .i64 a2_6, .int .i64 a2_7] 51)).grownBy w' (Value.slice A1 l0_0.length c1).ownBlock) := fun W4 HS4 =>
        Lib.hid (insert_any (w.heap.size + 1 + 1 + 1 + 1) (.slice A1 l0_0.length c1) l0_0.length (loR l0_0 a2_2) (rowOf l0_0) (cellsOf ⟨a2_2, ⟨a2_3, a2_4, a2_5, a2_6⟩, a2_7⟩) W4.heap.size _ (HS4.row.alloc _) hfl hlo (Blk.new W4 51 _) rfl (by simp [Value.oneCell']) (rowOf_one _) (fun x => Nat.lt_irrefl _ (HS4.row.lt _ x).2) (by have h9 := HS4.hg; have h8 := HS4.b11.lt; simp; omega))
      have HLO := Lib.hid hlo
      clear hlo
      go_wp2_with (first
        | (go_at_call 49; (with_reducible refine (HC _).out.mono ?_); rintro e w4 ⟨rfl, hb4⟩; have HS4 := HS.below hb4; clear k0 k2 k3 k4 k5 k6 k7; have k2 := HS4.b5.cell 2; have k3 := HS4.b5.cell 3; have k4 := HS4.b5.cell 4; have k5 := HS4.b5.cell 5; have k6 := HS4.b5.cell 6; have k7 := HS4.b5.cell 7; simp at k2 k3 k4 k5 k6 k7)
        | (go_at_call 68; (with_reducible refine (HI _ HS4).out.mono ?_); rintro e w5 ⟨v9, rfl, ho5, hg5⟩))
      refine HK1.out _ _ ?_
      have hl5 : (l0_0.take (loR l0_0 a2_2) ++ ([⟨a2_2, ⟨a2_3, a2_4, a2_5, a2_6⟩, a2_7⟩] : List S51) ++ l0_0.drop (loR l0_0 a2_2)).length = l0_0.length + 1 := by
        have := HLO.out
        simp
        omega
      rw [rowOf_take, rowOf_drop, show cellsOf (⟨a2_2, ⟨a2_3, a2_4, a2_5, a2_6⟩, a2_7⟩ : S51) = rowOf ([⟨a2_2, ⟨a2_3, a2_4, a2_5, a2_6⟩, a2_7⟩] : List S51) by simp [rowOf], ← rowOf_append, ← rowOf_append, ← hl5] at ho5
      obtain ⟨A9, c9, rfl, _, _, _⟩ := C_of_row ho5
      have HE := (HS4.below (keep_below_alloc _ (Below.refl _ _))).put hg5 ho5
      exact HE.end_ _ _ _ _ _ _ _ _ _ _ _ _ _ _ _ _ _ _ _ _ _ _ _ _ _ _ _ _ _ _ _ _ _ _ _ _ _ _ _ _ _ _ _ _ _ _ _ _ _ _ _ _ _ _ _ _ _ _ _ _ _ _ _ _ _ _ _ _ _ _ _ _ _ _ _ _ _ _ _ _ _ _ _ _ _ _ _ _ _ _
    rw [if_neg d4] at h
    simp only [Option.some.injEq, Prod.mk.injEq] at h
    obtain ⟨rfl, rfl, rfl, rfl⟩ := h
    have z4 : (e != 0) = true := bne_iff_ne.mpr d4
    have z4b : (e == 0) = false := beq_eq_false_iff_ne.mpr d4
    clear d4
    go_wp2_with (go_at_call 49; (with_reducible refine (HC _).out.mono ?_); rintro e w4 ⟨rfl, hb4⟩; have HS4 := HS.below hb4; have m4 := HS4.b11.cell 0; have y4 := HS4.b11.frozen 0; simp at m4; have HE := HS4.err 314)
    refine HK1.out _ _ ?_
    exact HE.end_ _ _ _ _ _ _ _ _ _ _ _ _ _ _ _ _ _ _ _ _ _ _ _ _ _ _ _ _ _ _ _ _ _ _ _ _ _ _ _ _ _ _ _ _ _ _ _ _ _ _ _ _ _ _ _ _ _ _ _ _ _ _ _ _ _ _ _ _ _ _ _ _ _ _ _ _ _ _ _ _ _ _ _ _ _ _ _ _ _ _
  rw [if_neg d2] at h
  have z2 : (a2_0 == 2) = false := beq_eq_false_iff_ne.mpr d2
  clear d2
  by_cases d3 : a2_0 = 3
  · rw [if_pos d3] at h
    subst d3
    clear z1 z5 z6 z2
    by_cases d3 : a2_2 = 0
    · rw [if_pos d3] at h
      simp only [Option.some.injEq, Prod.mk.injEq] at h
      obtain ⟨rfl, rfl, rfl, rfl⟩ := h
      subst d3
      have HE := HS.err 2
      go_wp2
      refine HK1.out _ _ ?_
      exact HE.end_ _ _ _ _ _ _ _ _ _ _ _ _ _ _ _ _ _ _ _ _ _ _ _ _ _ _ _ _ _ _ _ _ _ _ _ _ _ _ _ _ _ _ _ _ _ _ _ _ _ _ _ _ _ _ _ _ _ _ _ _ _ _ _ _ _ _ _ _ _ _ _ _ _ _ _ _ _ _ _ _ _ _ _ _ _ _ _ _ _ _
    rw [if_neg d3] at h
    have z2 : (a2_2 == 0) = false := beq_eq_false_iff_ne.mpr d3
    clear d3
    by_cases d5 : thR l0_0 a2_2 = true
    · rw [if_pos d5] at h
      simp only [Option.some.injEq, Prod.mk.injEq] at h
      obtain ⟨rfl, rfl, rfl, rfl⟩ := h
      have hlt := lo_lt l0_0 a2_2 d5
      have hwr := wrap_sm (z := (loR l0_0 a2_2 : Nat) + 1) (by omega) (by omega)
      have HD0 := delete_any (w.heap.size + 1 + 1 + 1 + 1) (.slice A1 l0_0.length c1) l0_0.length (loR l0_0 a2_2) (loR l0_0 a2_2 + 1) (rowOf l0_0) W3 HS.row hfl hlt rfl (rowOf_one _)
      rw [show ((loR l0_0 a2_2 + 1 : Nat) : Int) = ((loR l0_0 a2_2 : Nat) : Int) + 1 from rfl] at HD0
      have HD := Lib.hid HD0
      clear HD0
      have HLT := Lib.hid hlt
      clear hlt
      go_wp2_with (go_at_call 69; (with_reducible refine HD.out.mono ?_); rintro e w5 ⟨v9, rfl, ho5, hg5⟩)
      refine HK1.out _ _ ?_
      have hl5 : (l0_0.take (loR l0_0 a2_2) ++ l0_0.drop (loR l0_0 a2_2 + 1)).length = l0_0.length - 1 := by
        have := HLT.out
        simp
        omega
      rw [rowOf_take, rowOf_drop, ← rowOf_append, ← hl5] at ho5
      obtain ⟨A9, c9, rfl, _, _, _⟩ := C_of_row ho5
      have HE := HS.put hg5 ho5
      exact HE.end_ _ _ _ _ _ _ _ _ _ _ _ _ _ _ _ _ _ _ _ _ _ _ _ _ _ _ _ _ _ _ _ _ _ _ _ _ _ _ _ _ _ _ _ _ _ _ _ _ _ _ _ _ _ _ _ _ _ _ _ _ _ _ _ _ _ _ _ _ _ _ _ _ _ _ _ _ _ _ _ _ _ _ _ _ _ _ _ _ _ _
    rw [if_neg d5] at h
    have d5' : thR l0_0 a2_2 = false := by simpa using d5
    clear d5
    simp only [Option.some.injEq, Prod.mk.injEq] at h
    obtain ⟨rfl, rfl, rfl, rfl⟩ := h
    have HE := HS.err 4
    go_wp2
    refine HK1.out _ _ ?_
    exact HE.end_ _ _ _ _ _ _ _ _ _ _ _ _ _ _ _ _ _ _ _ _ _ _ _ _ _ _ _ _ _ _ _ _ _ _ _ _ _ _ _ _ _ _ _ _ _ _ _ _ _ _ _ _ _ _ _ _ _ _ _ _ _ _ _ _ _ _ _ _ _ _ _ _ _ _ _ _ _ _ _ _ _ _ _ _ _ _ _ _ _ _
  rw [if_neg d3] at h
  have z3 : (a2_0 == 3) = false := beq_eq_false_iff_ne.mpr d3
  clear d3
  by_cases d4 : a2_0 = 4
  · rw [if_pos d4] at h
    subst d4
    clear z1 z5 z6 z2 z3
    obtain ⟨e, he, hx⟩ := Option.bind_eq_some_iff.1 h
    clear h
    have h := hx
    clear hx
    have HC := fun W => Lib.hid (key_Check.calls 1 a2_3 a2_4 a2_5 a2_6 e W he)
    clear he
    by_cases d4 : e = 0
    · rw [if_pos d4] at h
      subst d4
      simp only [Option.some.injEq, Prod.mk.injEq] at h
      obtain ⟨rfl, rfl, rfl, rfl⟩ := h
      have HM := fun W => Lib.hid (maker_any A1 l0_0.length c1 ⟨a2_3, a2_4, a2_5, a2_6⟩ W)
      have HQ : ∀ W4 : World, ASt 4 a2_1 a2_2 a2_3 a2_4 a2_5 a2_6 a2_7 w W4 w2.heap.size 0 (.slice A1 l0_0.length c1) (.slice none 0 0) l0_0 → Hid (Calls Try.prog 50 #[.func (.func 72) #[] #[.pointer (some ⟨W4.heap.size, 0, none⟩), .pointer (some ⟨W4.heap.size + 1, 0, none⟩)]] ((W4.alloc (.cells #[.slice A1 l0_0.length c1] 22)).alloc (.cells (winC ⟨a2_3, a2_4, a2_5, a2_6⟩) 36)) fun e w' => ∃ A c, e = .returned (.slice A (l0_0.filter (meetB ⟨a2_3, a2_4, a2_5, a2_6⟩)).length c) ∧ w'.ownsRow (W4.heap.size + 1 + 1) 51 6 (.slice A (l0_0.filter (meetB ⟨a2_3, a2_4, a2_5, a2_6⟩)).length c) (l0_0.filter (meetB ⟨a2_3, a2_4, a2_5, a2_6⟩)).length (rowOf (l0_0.filter (meetB ⟨a2_3, a2_4, a2_5, a2_6⟩))) ∧ Below (W4.heap.size + 1 + 1) ((W4.alloc (.cells #[.slice A1 l0_0.length c1] 22)).alloc (.cells (winC ⟨a2_3, a2_4, a2_5, a2_6⟩) 36)) w') := fun W4 HS4 => by
        obtain ⟨A2, c2, e2, _, _, hC⟩ := C_of_row HS4.row
        injection e2 with e3 _ e4
        subst e3 e4
        have hx1 : Blk ((W4.alloc (.cells #[.slice A1 l0_0.length c1] 22)).alloc (.cells (winC ⟨a2_3, a2_4, a2_5, a2_6⟩) 36)) (W4.heap.size + 1) 36 (winC ⟨a2_3, a2_4, a2_5, a2_6⟩) := Blk.newAt (by simp)
        have hx0 : Blk ((W4.alloc (.cells #[.slice A1 l0_0.length c1] 22)).alloc (.cells (winC ⟨a2_3, a2_4, a2_5, a2_6⟩) 36)) W4.heap.size 22 #[.slice A1 l0_0.length c1] := (Blk.new W4 22 _).alloc _
        refine Lib.hid ((collect_any ⟨a2_3, a2_4, a2_5, a2_6⟩ A1 l0_0 c1 W4.heap.size (W4.heap.size + 1) _ (Kd.C_alloc (Kd.C_alloc hC _) _) hfl (by simp) hx1).mono ?_)
        rintro e w' ⟨v, rfl, ho, hb⟩
        obtain ⟨A, c, rfl, _, _, _⟩ := C_of_row ho
        simp only [World.size_alloc] at ho hb
        exact ⟨A, c, rfl, ho, hb⟩
      go_wp2_with (first
        | (go_at_call 49; (with_reducible refine (HC _).out.mono ?_); rintro e w4 ⟨rfl, hb4⟩; have HS4 := HS.below hb4; clear k0 k2 k3 k4 k5 k6 k7; have k3 := HS4.b5.cell 3; have k4 := HS4.b5.cell 4; have k5 := HS4.b5.cell 5; have k6 := HS4.b5.cell 6; simp at k3 k4 k5 k6)
        | (go_at_call 51; (with_reducible refine (HM _).out.mono ?_); rintro e w5 ⟨rfl, rfl⟩)
        | (go_at_call 50; (with_reducible refine (HQ _ HS4).out.mono ?_); rintro e w6 ⟨Aq, cq, rfl, ho6, hb6⟩
           have HS6 := (HS4.below (keep_below_alloc _ (below_alloc (Below.refl _ _) _))).below (by simpa using hb6)
           have m6 := HS6.b11.cell 2; have y6 := HS6.b11.frozen 2; simp at m6))
      refine HK1.out _ _ ?_
      have HE := HS6.rows (.slice Aq (l0_0.filter (meetB ⟨a2_3, a2_4, a2_5, a2_6⟩)).length cq)
      have hq : (w6.setCell ⟨w2.heap.size, 2, none⟩ (.slice Aq (l0_0.filter (meetB ⟨a2_3, a2_4, a2_5, a2_6⟩)).length cq)).ownsRow (w4.heap.size + 1 + 1) 51 6 (.slice Aq (l0_0.filter (meetB ⟨a2_3, a2_4, a2_5, a2_6⟩)).length cq) (l0_0.filter (meetB ⟨a2_3, a2_4, a2_5, a2_6⟩)).length (rowOf (l0_0.filter (meetB ⟨a2_3, a2_4, a2_5, a2_6⟩))) :=
        own_mv ho6 fun k hk => Below.heap_setCell w6 ⟨w2.heap.size, 2, none⟩ _ k (fun x => own_blk_ne ho6 HS6.b11 (by decide) (by rw [hk, x]))
      have hg := HE.hg
      have hw4 := HS4.hB.size
      have hw5 := HS4.b11.lt
      exact apply_end w _ (w.heap.size + 1 + 1) (w.heap.size + 1 + 1 + 1) w2.heap.size l0_0.length c1 _ cq A1 Aq l0_0 _ rfl rfl 0 _ _ _ _ HE.hB (by omega) (by omega) (by omega) (by omega) (by omega) HE.b6 HE.b7 HE.b11 (own_weaken HE.row (by omega)) (own_weaken hq (by omega)) (fun k h1 h2 => by have x1 := (HS4.row.lt k h1).2; have x2 := (ho6.lt k h2).1; omega) _ _ _ _ _ _ _ _ _ _ _ _ _ _ _ _ _ _ _ _ _ _ _ _ _ _ _ _ _ _ _ _ _ _ _ _ _ _ _ _ _ _ _ _ _ _ _ _ _ _ _ _ _ _ _ _ _ _ _ _ _ _ _ _ _ _ _ _ _ _ _ _ _ _ _ _ _ _ _ _ _ _ _ _ _ _ _ _ _ _
    rw [if_neg d4] at h
    simp only [Option.some.injEq, Prod.mk.injEq] at h
    obtain ⟨rfl, rfl, rfl, rfl⟩ := h
    have z4 : (e != 0) = true := bne_iff_ne.mpr d4
    have z4b : (e == 0) = false := beq_eq_false_iff_ne.mpr d4
    clear d4
    go_wp2_with (go_at_call 49; (with_reducible refine (HC _).out.mono ?_); rintro e w4 ⟨rfl, hb4⟩; have HS4 := HS.below hb4; have m4 := HS4.b11.cell 0; have y4 := HS4.b11.frozen 0; simp at m4; have HE := HS4.err 314)
    refine HK1.out _ _ ?_
    exact HE.end_ _ _ _ _ _ _ _ _ _ _ _ _ _ _ _ _ _ _ _ _ _ _ _ _ _ _ _ _ _ _ _ _ _ _ _ _ _ _ _ _ _ _ _ _ _ _ _ _ _ _ _ _ _ _ _ _ _ _ _ _ _ _ _ _ _ _ _ _ _ _ _ _ _ _ _ _ _ _ _ _ _ _ _ _ _ _ _ _ _ _
  rw [if_neg d4] at h
  have z4 : (a2_0 == 4) = false := beq_eq_false_iff_ne.mpr d4
  clear d4
  simp only [Option.some.injEq, Prod.mk.injEq] at h
  obtain ⟨rfl, rfl, rfl, rfl⟩ := h
  have HE := HS.err 2
  go_wp2
  refine HK1.out _ _ ?_
  exact HE.end_ _ _ _ _ _ _ _ _ _ _ _ _ _ _ _ _ _ _ _ _ _ _ _ _ _ _ _ _ _ _ _ _ _ _ _ _ _ _ _ _ _ _ _ _ _ _ _ _ _ _ _ _ _ _ _ _ _ _ _ _ _ _ _ _ _ _ _ _ _ _ _ _ _ _ _ _ _ _ _ _ _ _ _ _ _ _ _ _ _ _
end Go.Proofs.Ytknlbfandkmeiaa.M
