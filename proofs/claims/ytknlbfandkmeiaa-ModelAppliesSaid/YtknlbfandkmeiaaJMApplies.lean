/- What the row of this claim reaches. No condition. -/
import Derived.Test.YtknlbfandkmeiaaJMWhole
set_option linter.unusedVariables false
set_option linter.unusedSimpArgs false
namespace Go.Proofs.Ytknlbfandkmeiaa.M
open Go.RowKit Go.Proofs.YtknlbfandkmeiaaW.PrintWords Go.Proofs.YtknlbfandkmeiaaW.PrintLast Go.Proofs.YtknlbfandkmeiaaW.PrintMore
theorem applyc_call {k : Nat} {L M R : List S51} {a1 kind r c d e f v er tx e5 : Int} {b : Bool} (h : model_Apply.f k L a1 kind b r c d e f v = some (M, er, tx, R, e5)) {W : World} {base : Nat} {A : Option Addr} {cA : Nat} (hO : OwnL W base A cA L) :
    Hid (Calls Try.prog 21 #[.agg #[.slice A L.length cA], .int .i64 a1, .agg #[.int .i64 kind, .bool b, .int .u32 r, .int .i64 c, .int .i64 d, .int .i64 e, .int .i64 f, .int .i64 v]] W fun e w' => ∃ A1 c1 A2 c2, e = .returned (.tuple #[.agg #[.slice A1 M.length c1], .agg #[.int .i64 er, .int .u64 tx, .slice A2 R.length c2], .int .i64 e5]) ∧ OwnL w' W.heap.size A1 c1 M ∧ OwnL w' W.heap.size A2 c2 R ∧ ((Value.slice A1 M.length c1).ownBlock = none ∨ (Value.slice A1 M.length c1).ownBlock ≠ (Value.slice A2 R.length c2).ownBlock) ∧ Below W.heap.size W w') := by
  refine Lib.hid ((model_Apply.calls k A cA L a1 kind b r c d e f v M er tx R e5 W hO.C.2 hO.C.1 h).mono ?_)
  rintro e w' ⟨v0, v3, rfl, h0, h3, hb⟩
  have ho := row_of_R h0
  have ho3 := row_of_R h3
  obtain ⟨A1, c1, rfl, _, _, _⟩ := C_of_row ho
  obtain ⟨A2, c2, rfl, _, _, _⟩ := C_of_row ho3
  refine ⟨A1, c1, A2, c2, rfl, ho, ho3, ?_, hb⟩
  cases hq : (Value.slice A1 M.length c1).ownBlock with
  | none => exact .inl rfl
  | some q => exact .inr (h0.1 q hq)
theorem rapply_call {k : Nat} {L M R : List S51} {a1 kind r c d e f v er tx : Int} {b : Bool} (h : gazetteerref22_Apply.f k L a1 kind b r c d e f v = some (M, er, tx, R)) {W : World} {base : Nat} {A : Option Addr} {cA : Nat} (hO : OwnL W base A cA L) :
    Hid (Calls Try.prog 18 #[.agg #[.slice A L.length cA], .int .i64 a1, .agg #[.int .i64 kind, .bool b, .int .u32 r, .int .i64 c, .int .i64 d, .int .i64 e, .int .i64 f, .int .i64 v]] W fun e w' => ∃ A1 c1 A2 c2, e = .returned (.tuple #[.agg #[.slice A1 M.length c1], .agg #[.int .i64 er, .int .u64 tx, .slice A2 R.length c2]]) ∧ OwnL w' W.heap.size A1 c1 M ∧ OwnL w' W.heap.size A2 c2 R ∧ Below W.heap.size W w') := by
  refine Lib.hid ((gazetteerref22_Apply.calls k A cA L a1 kind b r c d e f v M er tx R W hO.C.2 hO.C.1 h).mono ?_)
  rintro e w' ⟨v0, v3, rfl, h0, h3, hb⟩
  have ho := row_of_R h0
  have ho3 := row_of_R h3
  obtain ⟨A1, c1, rfl, _, _, _⟩ := C_of_row ho
  obtain ⟨A2, c2, rfl, _, _, _⟩ := C_of_row ho3
  exact ⟨A1, c1, A2, c2, rfl, ho, ho3, hb⟩
theorem shorth_call {L : List S51} (hL : L.length ≤ 129) {W : World} {base : Nat} {A : Option Addr} {c : Nat} (hO : OwnL W base A c L) :
    Hid (Calls Try.prog 14 #[.agg #[.slice A L.length c]] W fun e w' => ∃ g1 c1, e = .returned (.agg #[.slice (some ⟨g1, 0, none⟩) L.length c1]) ∧ OwnH w' W.heap.size g1 c1 L ∧ Below W.heap.size W w') := by
  have := short_any A c L W hO.C.2 hO.C.1
  rw [List.take_of_length_le hL] at this
  exact Lib.hid this
theorem right_call {L : List S51} (hL : L.length ≤ 1000) (hp : ∀ x ∈ L, 0 ≤ x.f0) {W : World} {base : Nat} {A : Option Addr} {c : Nat} (hO : OwnL W base A c L) :
    Hid (Calls Try.prog 16 #[.agg #[.slice A L.length c]] W fun e w' => e = .returned (.bool (decide (okT L))) ∧ Below W.heap.size W w') := by
  obtain ⟨k, hk⟩ := Ev.rounds (right_ev hL hp)
  exact Lib.hid (gazetteerref22_Right.calls k A c L _ W hO.C.2 hO.C.1 hk)
theorem class_call (a : Int) {b : Bool} (h : gazetteerref22_Class.f a = some b) (W : World) : Hid (Calls Try.prog 17 #[.int .i64 a] W fun e w' => e = .returned (.bool b) ∧ Below W.heap.size W w') :=
  Lib.hid ((gazetteerref22_Class.calls a b W h).mono fun _ _ h => And.intro h.1 h.2.below)
theorem alike_call {L : List S51} (hL : L.length ≤ 1000) (er tx : Int) {W : World} {b1 b2 : Nat} {A1 A2 : Option Addr} {c1 c2 : Nat} (h1 : OwnL W b1 A1 c1 L) (h2 : OwnL W b2 A2 c2 L) :
    Hid (Calls Try.prog 19 #[.agg #[.int .i64 er, .int .u64 tx, .slice A1 L.length c1], .agg #[.int .i64 er, .int .u64 tx, .slice A2 L.length c2]] W fun e w' => e = .returned (.bool true) ∧ Below W.heap.size W w') := by
  obtain ⟨k, hk⟩ := Ev.rounds (alike_ev er tx hL)
  exact Lib.hid (gazetteerref22_Alike.calls k er tx A1 c1 L er tx A2 c2 L true W h1.C.2 h1.C.1 h2.C.2 h2.C.1 hk)
theorem rows_call {L : List S51} (hL : L.length ≤ 1000) {W : World} {b1 b2 : Nat} {A1 A2 : Option Addr} {c1 c2 : Nat} (h1 : OwnL W b1 A1 c1 L) (h2 : OwnL W b2 A2 c2 L) :
    Hid (Calls Try.prog 20 #[.slice A1 L.length c1, .slice A2 L.length c2] W fun e w' => e = .returned (.bool true) ∧ Below W.heap.size W w') := by
  obtain ⟨k, hk⟩ := Ev.rounds (same_ev hL)
  exact Lib.hid ((gazetteerref22_SameRows.calls k A1 c1 L A2 c2 L true W h1.C.2 h1.C.1 h2.C.2 h2.C.1 hk).mono fun _ _ h => And.intro h.1 h.2.below)
theorem OwnH.alloc {W : World} {base g c : Nat} {L : List S51} (h : OwnH W base g c L) (o : Obj) : OwnH (W.alloc o) base g c L := h.below (below_alloc (Below.refl _ _) o)
theorem right_is {L : List S51} {b : Bool} (hd : decide (okT L) = b) (hL : L.length ≤ 1000) (hp : ∀ x ∈ L, 0 ≤ x.f0) {W : World} {base : Nat} {A : Option Addr} {c : Nat} (hO : OwnL W base A c L) :
    Hid (Calls Try.prog 16 #[.agg #[.slice A L.length c]] W fun e w' => e = .returned (.bool b) ∧ Below W.heap.size W w') := by
  have := right_call hL hp hO
  rw [hd] at this
  exact this
theorem alike0_call {W : World} {b c : Nat} {A : Option Addr} (h : OwnL W b A c []) : Hid (Calls Try.prog 19 #[.agg #[.int .i64 0, .int .u64 0, .slice A 0 c], .agg #[.int .i64 0, .int .u64 0, .slice none 0 0]] W fun e w' => e = .returned (.bool true) ∧ Below W.heap.size W w') :=
  alike_call (L := []) (by simp) 0 0 h (b2 := 0) (A2 := none) (c2 := 0) (World.ownsRow_nil _ _ _ _)
theorem OwnL.grown {W W' : World} {base c : Nat} {A : Option Addr} {L : List S51} {r : Option Nat} (h : OwnL W base A c L) (hg : W.grownBy W' r) (hne : ∀ k, (Value.slice A L.length c).ownBlock = some k → r ≠ some k) : OwnL W' base A c L :=
  own_mv h fun k hk => hg.block k (h.lt k hk).2 (fun e => hne k hk e.symm)
theorem OwnH.grown {W W' : World} {base g c : Nat} {L : List S51} {r : Option Nat} (h : OwnH W base g c L) (hg : W.grownBy W' r) (hne : r ≠ some g) : OwnH W' base g c L :=
  h.mv (hg.block g (h.lt g rfl).2 (fun e => hne e.symm))
theorem grown_set {W W' : World} {r : Option Nat} {g : Nat} (h : W.grownBy W' r) (hr : r = some g) (j : Nat) (u : Value) : W.grownBy (W'.setCell ⟨g, j, none⟩ u) r :=
  ⟨h.os, h.tape, h.output, by have := h.size; simpa using this, fun k hk hne => (Below.heap_setCell W' ⟨g, j, none⟩ u k (fun e => hne (by rw [hr, e]))).trans (h.block k hk hne)⟩
def OwnX (W : World) (base : Nat) (A : Option Addr) (n c : Nat) : Prop := ∃ xs, W.ownsRow base 51 6 (.slice A n c) n xs
theorem OwnX.lt {W : World} {base n c : Nat} {A : Option Addr} (h : OwnX W base A n c) (k : Nat) (hk : (Value.slice A n c).ownBlock = some k) : base ≤ k ∧ k < W.heap.size := by
  obtain ⟨xs, h⟩ := h
  exact h.lt k hk
theorem OwnX.at {W : World} {base n c : Nat} {A : Option Addr} (h : OwnX W base A n c) {i : Nat} (hi : i < n) : ∃ g, A = some ⟨g, 0, none⟩ ∧ (∃ u, W.cell? ⟨g, i * 6, none⟩ = some u) ∧ W.frozen? ⟨g, i * 6, none⟩ = false ∧ ∀ u, OwnX (W.setCell ⟨g, i * 6, none⟩ u) base A n c := by
  obtain ⟨xs, hl, ho⟩ := h
  rcases ho with ⟨_, h0⟩ | ⟨g, cap, cur, hv, hb, hg, h1, h2, h3, h4⟩
  · omega
  · injection hv with e1 _ e3
    subst e1 e3
    have hgb : Blk W g 51 cur := hg
    have hj : i * 6 < cur.size := by rw [h3]; omega
    refine ⟨g, rfl, ⟨cur[i * 6], by rw [hgb.cell]; exact Array.getElem?_eq_getElem hj⟩, hgb.frozen _, fun u => ⟨xs.set (i * 6) u, by rw [List.length_set]; exact hl, .inr ⟨g, c, _, rfl, hb, hgb.set_ (i * 6) u, h1, h2, by simpa using h3, ?_⟩⟩⟩
    rw [Array.toList_setIfInBounds, List.take_set, h4]
theorem mapplyc_ev {L : List S51} (hL : L.length ≤ 1000) (a1 a2_0 : Int) (a2_1 : Bool) (a2_2 a2_3 a2_4 a2_5 a2_6 a2_7 : Int) : Ev (fun k => model_Apply.f k L a1 a2_0 a2_1 a2_2 a2_3 a2_4 a2_5 a2_6 a2_7) (if okT L then (if 1 ≤ a1 ∧ a1 ≤ 3 then ((applyR L a1 a2_0 a2_2 a2_3 a2_4 a2_5 a2_6 a2_7).1, (applyR L a1 a2_0 a2_2 a2_3 a2_4 a2_5 a2_6 a2_7).2.1, (applyR L a1 a2_0 a2_2 a2_3 a2_4 a2_5 a2_6 a2_7).2.2.1, (applyR L a1 a2_0 a2_2 a2_3 a2_4 a2_5 a2_6 a2_7).2.2.2, 0) else ([], 0, 0, [], 2)) else ([], 0, 0, [], 320)) := by
  have hr : Ev (fun k => model_ready.f k L a1) (if okT L then (if 1 ≤ a1 ∧ a1 ≤ 3 then 0 else 2) else 320) := by
    refine Ev.bind (f := fun k t => if t = 0 then (if a1 < 1 then (some 2) else (if a1 > 3 then (some 2) else (some 0))) else (some 320)) (check_ev hL) ?_
    by_cases h : okT L
    · simp only [if_pos h, if_true]
      by_cases h1 : a1 < 1
      · simp only [if_pos h1, if_neg (show ¬ (1 ≤ a1 ∧ a1 ≤ 3) by omega)]; exact Ev.now _
      · by_cases h3 : a1 > 3
        · simp only [if_neg h1, if_pos h3, if_neg (show ¬ (1 ≤ a1 ∧ a1 ≤ 3) by omega)]; exact Ev.now _
        · simp only [if_neg h1, if_neg h3, if_pos (show 1 ≤ a1 ∧ a1 ≤ 3 by omega)]; exact Ev.now _
    · simp only [if_neg h, show ¬ (320 : Int) = 0 by omega, if_false]; exact Ev.now _
  refine Ev.bind (f := fun k t => if t = 0 then ((model_apply.f L a1 a2_0 a2_1 a2_2 a2_3 a2_4 a2_5 a2_6 a2_7).bind fun bt299 => (some (bt299.1, bt299.2.1, bt299.2.2.1, bt299.2.2.2, 0))) else (some (([] : List (S51)), 0, 0, ([] : List (S51)), t))) hr ?_
  by_cases h : okT L
  · simp only [if_pos h]
    by_cases hc : 1 ≤ a1 ∧ a1 ≤ 3
    · simp only [if_pos hc, if_true]
      rw [apply_f h.1 h.2.1]
      exact Ev.now _
    · simp only [if_neg hc, show ¬ (2 : Int) = 0 by omega, if_false]
      exact Ev.now _
  · simp only [if_neg h, show ¬ (320 : Int) = 0 by omega, if_false]
    exact Ev.now _
set_option maxHeartbeats 16000000 in
set_option maxRecDepth 100000 in
theorem applies_any (A0 : Option Addr) (c0 : Nat) (l0 : List S51) (a1 : Int) (Ao : Option Addr) (co : Nat) (O : List S38) (w : World) (hr0 : Kd.C k51 w A0 l0.length l0) (hc0 : l0.length ≤ c0) (hrO : Kd.C k38 w Ao O.length O) (hl0 : ∀ x ∈ l0, 0 ≤ x.f0) (hO0 : ∀ o ∈ O, 0 ≤ o.f2) :
    Calls Try.prog 4 #[.agg #[.slice A0 l0.length c0], .int .i64 a1, .slice Ao O.length co] w fun e w' => e = .returned (.bool true) ∧ Below w.heap.size w w' := by
  have p3 := Blk.new w 24 #[.slice A0 l0.length c0]
  have hB0 : Below w.heap.size w (w.alloc (.cells #[.slice A0 l0.length c0] 24)) := keep_below_alloc _ (Below.refl _ _)
  obtain ⟨W0, hW0⟩ : ∃ W, (w.alloc (.cells #[.slice A0 l0.length c0] 24)) = W := ⟨_, rfl⟩
  rw [hW0] at p3 hB0
  have hs0 : W0.heap.size = w.heap.size + 1 := by rw [← hW0]; simp
  have HW := Lib.hid hW0
  have HC := Lib.hid (Kd.C_below hr0 hB0)
  have HO := Lib.hid hrO
  have HP := Lib.hid (And.intro hl0 hO0)
  obtain ⟨T, hT⟩ : ∃ T, l0.take 129 = T := ⟨_, rfl⟩
  have HT := Lib.hid hT
  clear hW0 hr0 hrO hl0 hO0 hT
  have SH : ∀ W1 : World, Below W0.heap.size W0 W1 → Hid (Calls Try.prog 14 #[.agg #[.slice A0 l0.length c0]] W1 fun e w' => ∃ g1 c1, e = .returned (.agg #[.slice (some ⟨g1, 0, none⟩) T.length c1]) ∧ OwnH w' W1.heap.size g1 c1 T ∧ Below W1.heap.size W1 w') := fun W1 hb => by
    have := short_any A0 c0 l0 W1 (Kd.C_below HC.out hb) hc0
    rw [HT.out] at this
    exact Lib.hid this
  go_enter Try.func4, Try.ntmps4
  go_upto_region 4 with (first
    | (go_at_call 13; rw [HW.out]; (with_reducible refine (wakes_call _).out.mono ?_); rintro e w1 ⟨rfl, hb1⟩; have q3 := p3.keep hb1; have hB1 := keep_below hB0 hb1; have g3 := q3.cell 0; simp at g3)
    | (go_at_call 14; (with_reducible refine (SH _ hb1).out.mono ?_); rintro e w2 ⟨g1, c1, rfl, hO2, hb2⟩; have r3 := q3.keep hb2; have hB2 := keep_below hB1 hb2; have hs2 := hb1.size; clear g3; have g3 := r3.cell 0; have y3 := r3.frozen 0; simp at g3))
  have s3 : Blk (w2.setCell ⟨w.heap.size, 0, none⟩ (.slice (some ⟨g1, 0, none⟩) T.length c1)) w.heap.size 24 #[.slice (some ⟨g1, 0, none⟩) T.length c1] := by simpa using r3.set_ 0 (.slice (some ⟨g1, 0, none⟩) T.length c1)
  have hB3 := hB2.setCell (p := ⟨w.heap.size, 0, none⟩) (Nat.le_refl _) (.slice (some ⟨g1, 0, none⟩) T.length c1)
  have hne : g1 ≠ w.heap.size := by have := (hO2.lt g1 rfl).1; omega
  have hO3 : OwnH (w2.setCell ⟨w.heap.size, 0, none⟩ (.slice (some ⟨g1, 0, none⟩) T.length c1)) 0 g1 c1 T := (show OwnH w2 0 g1 c1 T from own_weaken hO2 (Nat.zero_le _)).mv (Below.heap_setCell w2 ⟨w.heap.size, 0, none⟩ _ g1 hne)
  generalize (w2.setCell ⟨w.heap.size, 0, none⟩ (.slice (some ⟨g1, 0, none⟩) T.length c1)) = W3 at s3 hB3 hO3 ⊢
  clear hO2 r3 hB2 g3 y3 hb2 hb1 q3 hB1 hs2 hne
  have hT0 : T.length ≤ 129 ∧ ∀ x ∈ T, 0 ≤ x.f0 := by
    rw [← HT.out]
    exact ⟨by rw [List.length_take]; omega, fun x hx => HP.out.1 x (List.mem_of_mem_take hx)⟩
  go_wp2
  go_loopw [24] (fun v24 wr => ∃ (i : Nat) (g c : Nat) (L : List S51), v24 = .int .i64 (i : Int) ∧ i ≤ O.length ∧ i ≤ 30 ∧ Hid (Blk wr w.heap.size 24 #[.slice (some ⟨g, 0, none⟩) L.length c]) ∧ Hid (OwnH wr 0 g c L) ∧ Hid (L.length ≤ 129 ∧ ∀ x ∈ L, 0 ≤ x.f0) ∧ Below w.heap.size w wr) (fun v24 _ => O.length - (intOf v24).toNat)
  case atStart => exact ⟨0, g1, c1, T, rfl, by omega, by omega, Lib.hid s3, Lib.hid hO3, Lib.hid hT0, hB3⟩
  case round =>
    clear s3 hO3 hT0 hB3
    obtain ⟨i, g, c, L, rfl, hil, hi3, HY, HH, HL, hB⟩ := hrel
    by_cases hlt : i < O.length
    · have hd : decide ((i : Int) < (O.length : Int)) = true := decide_eq_true (by omega)
      have p1 : ((i : Int) < (O.length : Int)) = True := eq_true (by omega)
      obtain ⟨ad, rfl, x0, x1, x2, x3, x4, x5, x6, x7⟩ := at_T38 (Kd.C_below HO.out hB) (i : Int) (by omega) (by omega)
      rw [Int.toNat_natCast] at x0 x1 x2 x3 x4 x5 x6 x7
      have ho2 : 0 ≤ (rd_T38 O (i : Int)).f2 := by
        have : rd_T38 O (i : Int) = O[i] := by unfold rd_T38; rw [Int.toNat_natCast, List.getD_eq_getElem?_getD, List.getElem?_eq_getElem hlt]; rfl
        rw [this]
        exact HP.out.2 _ (List.getElem_mem hlt)
      generalize rd_T38 O (i : Int) = o at *
      by_cases h30 : (i : Int) = 30
      · have z30 : ((i : Int) == 30) = true := beq_iff_eq.mpr h30
        clear h30
        go_wp2
        go_ret
        exact ⟨rfl, keep_below_alloc _ hB⟩
      have z30 : ((i : Int) == 30) = false := beq_eq_false_iff_ne.mpr h30
      have hi30 : i < 30 := by omega
      clear h30
      go_upto_region 8 with fail
      have z8 := Blk.new wr 38 #[.int .i64 o.f0, .bool o.f1, .int .u32 o.f2, .int .i64 o.f3.f0, .int .i64 o.f3.f1, .int .i64 o.f3.f2, .int .i64 o.f3.f3, .int .i64 o.f4]
      have z3 := HY.out.alloc (.cells #[.int .i64 o.f0, .bool o.f1, .int .u32 o.f2, .int .i64 o.f3.f0, .int .i64 o.f3.f1, .int .i64 o.f3.f2, .int .i64 o.f3.f3, .int .i64 o.f4] 38)
      have zH := HH.out.below (below_alloc (Below.refl _ _) (.cells #[.int .i64 o.f0, .bool o.f1, .int .u32 o.f2, .int .i64 o.f3.f0, .int .i64 o.f3.f1, .int .i64 o.f3.f2, .int .i64 o.f3.f3, .int .i64 o.f4] 38))
      have hBz := keep_below_alloc (.cells #[.int .i64 o.f0, .bool o.f1, .int .u32 o.f2, .int .i64 o.f3.f0, .int .i64 o.f3.f1, .int .i64 o.f3.f2, .int .i64 o.f3.f3, .int .i64 o.f4] 38) hB
      generalize hge : wr.heap.size = g8 at z8 ⊢
      generalize wr.alloc (.cells #[.int .i64 o.f0, .bool o.f1, .int .u32 o.f2, .int .i64 o.f3.f0, .int .i64 o.f3.f1, .int .i64 o.f3.f2, .int .i64 o.f3.f3, .int .i64 o.f4] 38) = Wx at z8 z3 zH hBz ⊢
      clear hge x0 x1 x2 x3 x4 x5 x6 x7
      have g3 := z3.cell 0
      simp at g3
      go_upto_region 9 with (go_at_call 14; (with_reducible refine (shorth_call HL.out.1 zH.L).out.mono ?_); rintro e w9 ⟨g9, c9, rfl, O9, b9⟩; have hB9 := keep_below hBz b9; have t3 := z3.keep b9; have t8 := z8.keep b9; have tH := zH.below b9)
      have v9 := (Blk.new w9 24 #[.slice (some ⟨g9, 0, none⟩) L.length c9])
      have u3 := t3.alloc (.cells #[.slice (some ⟨g9, 0, none⟩) L.length c9] 24)
      have u8 := t8.alloc (.cells #[.slice (some ⟨g9, 0, none⟩) L.length c9] 24)
      have uH := tH.alloc (.cells #[.slice (some ⟨g9, 0, none⟩) L.length c9] 24)
      have uO := O9.alloc (.cells #[.slice (some ⟨g9, 0, none⟩) L.length c9] 24)
      have hBWa := (keep_below_alloc (.cells #[.slice (some ⟨g9, 0, none⟩) L.length c9] 24) hB9)
      generalize (w9.alloc (.cells #[.slice (some ⟨g9, 0, none⟩) L.length c9] 24)) = Wa at v9 u3 u8 uH uO hBWa ⊢
      clear g3 z8 z3 zH hBz t3 t8 tH O9 hB9 b9
      have g3 := u3.cell 0
      have k0 := u8.cell 0
      have k1 := u8.cell 1
      have k2 := u8.cell 2
      have k3 := u8.cell 3
      have k4 := u8.cell 4
      have k5 := u8.cell 5
      have k6 := u8.cell 6
      have k7 := u8.cell 7
      simp at g3 k0 k1 k2 k3 k4 k5 k6 k7
      have hLK : L.length ≤ 1000 := by have := HL.out.1; omega
      have e1 := mapplyc_ev (L := L) hLK a1 o.f0 o.f1 o.f2 o.f3.f0 o.f3.f1 o.f3.f2 o.f3.f3 o.f4
      by_cases ho : okT L
      · rw [if_pos ho] at e1
        have hdR : decide (okT L) = true := decide_eq_true ho
        by_cases hc : 1 ≤ a1 ∧ a1 ≤ 3
        · rw [if_pos hc] at e1
          have hcl : gazetteerref22_Class.f a1 = some true := by unfold gazetteerref22_Class.f; rw [if_pos hc.1, decide_eq_true hc.2]
          have e2 := refApply_ev ho hc.1 hc.2 o.f0 o.f1 o.f2 o.f3.f0 o.f3.f1 o.f3.f2 o.f3.f3 o.f4
          have hok2 := okT_apply ho a1 o.f0 o.f2 o.f3.f0 o.f3.f1 o.f3.f2 o.f3.f3 o.f4 ho2
          have hRl : (applyR L a1 o.f0 o.f2 o.f3.f0 o.f3.f1 o.f3.f2 o.f3.f3 o.f4).2.2.2.length ≤ 1000 := by
            unfold applyR
            repeat' split
            all_goals first
              | (show (List.filter _ L).length ≤ 1000; have := List.length_filter_le (meetB ⟨o.f3.f0, o.f3.f1, o.f3.f2, o.f3.f3⟩) L; omega)
              | (show ([] : List S51).length ≤ 1000; simp)
          generalize applyR L a1 o.f0 o.f2 o.f3.f0 o.f3.f1 o.f3.f2 o.f3.f3 o.f4 = Q at *
          obtain ⟨N, er, tx, R⟩ := Q
          simp only at e1 e2 hok2 hRl
          obtain ⟨n1, h1⟩ := Ev.rounds e1
          obtain ⟨n2, h2⟩ := Ev.rounds e2
          have H1 := Lib.hid h1
          have H2 := Lib.hid h2
          have HK := Lib.hid (And.intro hok2 hRl)
          clear e1 e2 h1 h2 ho hc hok2 hRl
          go_upto_region 10 with (go_at_call 21; (with_reducible refine (applyc_call H1.out uH.L).out.mono ?_); rintro e wb ⟨A10, c10, A11, c11, rfl, O10, O11, hdis, b10⟩; have hBb := keep_below hBWa b10; have a3 := u3.keep b10; have a8 := u8.keep b10; have a9 := v9.keep b10; have aH := uH.below b10; have aO := uO.below b10; have hlb := And.intro (uH.lt g rfl).2 (And.intro (uO.lt g9 rfl).2 hBWa.size))
          have v10 := (Blk.new wb 24 #[.slice A10 N.length c10]).alloc (.cells #[.int .i64 er, .int .u64 tx, .slice A11 R.length c11] 41)
          have v11 : Blk ((wb.alloc (.cells #[.slice A10 N.length c10] 24)).alloc (.cells #[.int .i64 er, .int .u64 tx, .slice A11 R.length c11] 41)) (wb.heap.size + 1) 41 #[.int .i64 er, .int .u64 tx, .slice A11 R.length c11] := Blk.newAt (by simp)
          have b3 := (a3.alloc (.cells #[.slice A10 N.length c10] 24)).alloc (.cells #[.int .i64 er, .int .u64 tx, .slice A11 R.length c11] 41)
          have b8 := (a8.alloc (.cells #[.slice A10 N.length c10] 24)).alloc (.cells #[.int .i64 er, .int .u64 tx, .slice A11 R.length c11] 41)
          have b9' := (a9.alloc (.cells #[.slice A10 N.length c10] 24)).alloc (.cells #[.int .i64 er, .int .u64 tx, .slice A11 R.length c11] 41)
          have bH := (aH.alloc (.cells #[.slice A10 N.length c10] 24)).alloc (.cells #[.int .i64 er, .int .u64 tx, .slice A11 R.length c11] 41)
          have bO := (aO.alloc (.cells #[.slice A10 N.length c10] 24)).alloc (.cells #[.int .i64 er, .int .u64 tx, .slice A11 R.length c11] 41)
          have n10 := (O10.alloc (.cells #[.slice A10 N.length c10] 24)).alloc (.cells #[.int .i64 er, .int .u64 tx, .slice A11 R.length c11] 41)
          have n11 := (O11.alloc (.cells #[.slice A10 N.length c10] 24)).alloc (.cells #[.int .i64 er, .int .u64 tx, .slice A11 R.length c11] 41)
          have hBWb := (keep_below_alloc (.cells #[.int .i64 er, .int .u64 tx, .slice A11 R.length c11] 41) (keep_below_alloc (.cells #[.slice A10 N.length c10] 24) hBb))
          generalize ((wb.alloc (.cells #[.slice A10 N.length c10] 24)).alloc (.cells #[.int .i64 er, .int .u64 tx, .slice A11 R.length c11] 41)) = Wb at v10 v11 b3 b8 b9' bH bO n10 n11 hBWb ⊢
          clear g3 k0 k1 k2 k3 k4 k5 k6 k7 u3 u8 v9 uH uO hBWa a3 a8 a9 aH aO O10 O11 hBb b10
          have g3 := b3.cell 0
          have g9c := b9'.cell 0
          simp at g3 g9c
          go_upto_region 12 with (go_at_call 22; (with_reducible refine (whole_call hLK bH bO.L).out.mono ?_); rintro e wc ⟨rfl, b22⟩; have hBc := keep_below hBWb b22; have d3 := b3.keep b22; have d8 := b8.keep b22; have d9 := b9'.keep b22; have d10 := v10.keep b22; have d11 := v11.keep b22; have dH := bH.below b22; have dO := bO.below b22; have m10 := n10.below b22; have m11 := n11.below b22)
          clear g3 g9c b3 b8 b9' bH bO n10 n11 hBWb b22 v10 v11
          have dn10 := m10
          have dn11 := m11
          have hBd := hBc
          clear m10 m11 hBc
          have g9c := d9.cell 0
          simp at g9c
          go_upto_region 17 with (first
            | (go_at_call 16; (with_reducible refine (right_is hdR hLK HL.out.2 dO.L).out.mono ?_); rintro e wd ⟨rfl, bd⟩; have e3 := d3.keep bd; have e8 := d8.keep bd; have e9 := d9.keep bd; have e10 := d10.keep bd; have e11 := d11.keep bd; have eH := dH.below bd; have eO := dO.below bd; have en10 := dn10.below bd; have en11 := dn11.below bd; have hBe := keep_below hBd bd)
            | (go_at_call 17; (with_reducible refine (class_call a1 hcl _).out.mono ?_); rintro e we ⟨rfl, be⟩; have f3 := e3.keep be; have f8 := e8.keep be; have f9 := e9.keep be; have f10 := e10.keep be; have f11 := e11.keep be; have fH := eH.below be; have fO := eO.below be; have fn10 := en10.below be; have fn11 := en11.below be; have hBf := keep_below hBe be))
          clear g9c d3 d8 d9 d10 d11 dH dO dn10 dn11 hBd e3 e8 e9 e10 e11 eH eO en10 en11 hBe
          have g9c := f9.cell 0
          have k0 := f8.cell 0
          have k1 := f8.cell 1
          have k2 := f8.cell 2
          have k3 := f8.cell 3
          have k4 := f8.cell 4
          have k5 := f8.cell 5
          have k6 := f8.cell 6
          have k7 := f8.cell 7
          simp at g9c k0 k1 k2 k3 k4 k5 k6 k7
          have hnl : (∀ k, (Value.slice A10 N.length c10).ownBlock = some k → Wa.heap.size ≤ k ∧ k < we.heap.size) ∧ (∀ k, (Value.slice A11 R.length c11).ownBlock = some k → Wa.heap.size ≤ k ∧ k < we.heap.size) := ⟨fun k hk => fn10.lt k hk, fun k hk => fn11.lt k hk⟩
          go_upto_region 18 with (go_at_call 18; (with_reducible refine (rapply_call H2.out fO.L).out.mono ?_); rintro e wg ⟨A14, c14, A15, c15, rfl, O14, O15, bg⟩; have h3 := f3.keep bg; have h8 := f8.keep bg; have h9 := f9.keep bg; have h10 := f10.keep bg; have h11 := f11.keep bg; have hH := fH.below bg; have hO := fO.below bg; have hn10 := fn10.below bg; have hn11 := fn11.below bg; have hBh := keep_below hBf bg)
          clear g9c k0 k1 k2 k3 k4 k5 k6 k7 f3 f8 f9 f10 f11 fH fO fn10 fn11 hBf
          have v14 := (Blk.new wg 24 #[.slice A14 N.length c14]).alloc (.cells #[.int .i64 er, .int .u64 tx, .slice A15 R.length c15] 41)
          have v15 : Blk ((wg.alloc (.cells #[.slice A14 N.length c14] 24)).alloc (.cells #[.int .i64 er, .int .u64 tx, .slice A15 R.length c15] 41)) (wg.heap.size + 1) 41 #[.int .i64 er, .int .u64 tx, .slice A15 R.length c15] := Blk.newAt (by simp)
          have i3 := (h3.alloc (.cells #[.slice A14 N.length c14] 24)).alloc (.cells #[.int .i64 er, .int .u64 tx, .slice A15 R.length c15] 41)
          have i8 := (h8.alloc (.cells #[.slice A14 N.length c14] 24)).alloc (.cells #[.int .i64 er, .int .u64 tx, .slice A15 R.length c15] 41)
          have i9 := (h9.alloc (.cells #[.slice A14 N.length c14] 24)).alloc (.cells #[.int .i64 er, .int .u64 tx, .slice A15 R.length c15] 41)
          have i10 := (h10.alloc (.cells #[.slice A14 N.length c14] 24)).alloc (.cells #[.int .i64 er, .int .u64 tx, .slice A15 R.length c15] 41)
          have i11 := (h11.alloc (.cells #[.slice A14 N.length c14] 24)).alloc (.cells #[.int .i64 er, .int .u64 tx, .slice A15 R.length c15] 41)
          have iH := (hH.alloc (.cells #[.slice A14 N.length c14] 24)).alloc (.cells #[.int .i64 er, .int .u64 tx, .slice A15 R.length c15] 41)
          have iO := (hO.alloc (.cells #[.slice A14 N.length c14] 24)).alloc (.cells #[.int .i64 er, .int .u64 tx, .slice A15 R.length c15] 41)
          have in10 := (hn10.alloc (.cells #[.slice A14 N.length c14] 24)).alloc (.cells #[.int .i64 er, .int .u64 tx, .slice A15 R.length c15] 41)
          have in11 := (hn11.alloc (.cells #[.slice A14 N.length c14] 24)).alloc (.cells #[.int .i64 er, .int .u64 tx, .slice A15 R.length c15] 41)
          have iO14 := (O14.alloc (.cells #[.slice A14 N.length c14] 24)).alloc (.cells #[.int .i64 er, .int .u64 tx, .slice A15 R.length c15] 41)
          have iO15 := (O15.alloc (.cells #[.slice A14 N.length c14] 24)).alloc (.cells #[.int .i64 er, .int .u64 tx, .slice A15 R.length c15] 41)
          have hBi := (keep_below_alloc (.cells #[.int .i64 er, .int .u64 tx, .slice A15 R.length c15] 41) (keep_below_alloc (.cells #[.slice A14 N.length c14] 24) hBh))
          generalize ((wg.alloc (.cells #[.slice A14 N.length c14] 24)).alloc (.cells #[.int .i64 er, .int .u64 tx, .slice A15 R.length c15] 41)) = Wi at v14 v15 i3 i8 i9 i10 i11 iH iO in10 in11 iO14 iO15 hBi ⊢
          clear h3 h8 h9 h10 h11 hH hO hn10 hn11 hBh O14 O15 bg
          have i14 := v14
          have i15 := v15
          clear v14 v15
          have g10 := i10.cell 0
          have g14 := i14.cell 0
          have a0 := i11.cell 0
          have a1c := i11.cell 1
          have a2c := i11.cell 2
          have b0 := i15.cell 0
          have b1 := i15.cell 1
          have b2 := i15.cell 2
          simp at g10 g14 a0 a1c a2c b0 b1 b2
          have hNK : N.length ≤ 1000 := by have := HK.out.1.1; omega
          go_upto_region 20 with (first
            | (go_at_call 20; (with_reducible refine (rows_call hNK in10 iO14).out.mono ?_); rintro e wj ⟨rfl, bj⟩; have j3 := i3.keep bj; have j8 := i8.keep bj; have j9 := i9.keep bj; have j10 := i10.keep bj; have j11 := i11.keep bj; have jH := iH.below bj; have jO := iO.below bj; have jn10 := in10.below bj; have jn11 := in11.below bj; have j14 := i14.keep bj; have j15 := i15.keep bj; have jO14 := iO14.below bj; have jO15 := iO15.below bj; have hBj := keep_below hBi bj; clear g10 g14 a0 a1c a2c b0 b1 b2; have a0 := j11.cell 0; have a1c := j11.cell 1; have a2c := j11.cell 2; have b0 := j15.cell 0; have b1 := j15.cell 1; have b2 := j15.cell 2; simp at a0 a1c a2c b0 b1 b2)
            | (go_at_call 19; (with_reducible refine (alike_call HK.out.2 er tx jn11 jO15).out.mono ?_); rintro e wk ⟨rfl, bk⟩; have k3 := j3.keep bk; have k8 := j8.keep bk; have k9 := j9.keep bk; have k10 := j10.keep bk; have k11 := j11.keep bk; have kH := jH.below bk; have kO := jO.below bk; have kn10 := jn10.below bk; have kn11 := jn11.below bk; have k14 := j14.keep bk; have k15 := j15.keep bk; have kO14 := jO14.below bk; have kO15 := jO15.below bk; have hBk := keep_below hBj bk))
          clear a0 a1c a2c b0 b1 b2 bj bk i3 i8 i9 i10 i11 iH iO in10 in11 i14 i15 iO14 iO15 hBi j3 j8 j9 j10 j11 jH jO jn10 jn11 j14 j15 jO14 jO15 hBj
          have HX := Lib.hid (show OwnX wk Wa.heap.size A10 N.length c10 from ⟨_, kn10⟩)
          have gx := k10.cell 0
          simp at gx
          go_wp2
          clear gx
          go_loopw [95] (fun vv wt => ∃ j : Nat, vv = .int .i64 (j : Int) ∧ j ≤ N.length ∧ Hid (wk.grownBy wt (Value.slice A10 N.length c10).ownBlock) ∧ Hid (OwnX wt Wa.heap.size A10 N.length c10) ∧ Hid (Below w.heap.size w wt)) (fun vv _ => N.length - (intOf vv).toNat)
          case atStart => exact ⟨0, rfl, by omega, Lib.hid (World.grownBy.refl _ _), HX, Lib.hid hBk⟩
          case round =>
            obtain ⟨j, rfl, hj, HG, HX2, HB2⟩ := hrel
            by_cases hjl : j < N.length
            · have hdj : decide ((j : Int) < (N.length : Int)) = true := decide_eq_true (by omega)
              have pj : ((j : Int) < (N.length : Int)) = True := eq_true (by omega)
              have qj : (0 ≤ (j : Int)) = True := eq_true (by omega)
              have hwj := wrap_sm (z := (j : Int) + 1) (by omega) (by omega)
              obtain ⟨gx, rfl, ⟨ux, hux⟩, hfx, hsx⟩ := HX2.out.at hjl
              have gb := (k10.grown HG.out (fun x => (own_blk_ne kn10 k10 (by decide)) x.symm)).cell 0
              simp at gb
              go_wp2
              go_roundw
              case rel => exact ⟨j + 1, by simp [hwj], by omega, Lib.hid (grown_set HG.out rfl _ _), Lib.hid (hsx _), Lib.hid (HB2.out.setCell (by have := (hnl.1 gx rfl).1; have := hlb.2.2; show w.heap.size ≤ gx; omega) _)⟩
              case measure => simp [intOf, hwj]; omega
            · have hdj : decide ((j : Int) < (N.length : Int)) = false := decide_eq_false (by omega)
              have pj : ((j : Int) < (N.length : Int)) = False := eq_false (by omega)
              have hBl := HB2.out
              have l3 := k3.grown HG.out (fun x => own_blk_ne kn10 k3 (by decide) x.symm)
              have l8 := k8.grown HG.out (fun x => own_blk_ne kn10 k8 (by decide) x.symm)
              have l9 := k9.grown HG.out (fun x => own_blk_ne kn10 k9 (by decide) x.symm)
              have l11 := k11.grown HG.out (fun x => own_blk_ne kn10 k11 (by decide) x.symm)
              have l14 := k14.grown HG.out (fun x => own_blk_ne kn10 k14 (by decide) x.symm)
              have l15 := k15.grown HG.out (fun x => own_blk_ne kn10 k15 (by decide) x.symm)
              have lH := kH.grown HG.out (fun e => by have := (hnl.1 g e).1; have := hlb.1; omega)
              have lO := kO.grown HG.out (fun e => by have := (hnl.1 g9 e).1; have := hlb.2.1; omega)
              have ln11 := kn11.grown HG.out (fun k hk e => by rcases hdis with h | h; (rw [h] at e; cases e); exact h (by rw [e, hk]))
              have lO14 := kO14.grown HG.out (fun k hk e => by have := (hnl.1 k e).2; have := (kO14.lt k hk).1; omega)
              have lO15 := kO15.grown HG.out (fun k hk e => by have := (hnl.1 k e).2; have := (kO15.lt k hk).1; omega)
              clear HX HX2 HG HB2 hj hjl kn10 kn11 k3 k8 k9 k10 k11 k14 k15 kH kO kO14 kO15 hBk
              obtain ⟨wl, hwl⟩ : ∃ wl : World, wr = wl := ⟨_, rfl⟩
              rw [hwl] at hBl l3 l8 l9 l11 l14 l15 lH lO ln11 lO14 lO15 ⊢
              clear hwl
              have hRK := HK.out.2
              have HX := Lib.hid (show OwnX wl Wa.heap.size A11 R.length c11 from ⟨_, ln11⟩)
              have gx := l11.cell 2
              simp at gx
              go_wp2
              clear gx
              go_loopw [107] (fun vv wt => ∃ j : Nat, vv = .int .i64 (j : Int) ∧ j ≤ R.length ∧ Hid (wl.grownBy wt (Value.slice A11 R.length c11).ownBlock) ∧ Hid (OwnX wt Wa.heap.size A11 R.length c11) ∧ Hid (Below w.heap.size w wt)) (fun vv _ => R.length - (intOf vv).toNat)
              case atStart => exact ⟨0, rfl, by omega, Lib.hid (World.grownBy.refl _ _), HX, Lib.hid hBl⟩
              case round =>
                obtain ⟨j, rfl, hj, HG, HX2, HB2⟩ := hrel
                by_cases hjl : j < R.length
                · have hdj : decide ((j : Int) < (R.length : Int)) = true := decide_eq_true (by omega)
                  have pj : ((j : Int) < (R.length : Int)) = True := eq_true (by omega)
                  have qj : (0 ≤ (j : Int)) = True := eq_true (by omega)
                  have hwj := wrap_sm (z := (j : Int) + 1) (by omega) (by omega)
                  obtain ⟨gx, rfl, ⟨ux, hux⟩, hfx, hsx⟩ := HX2.out.at hjl
                  have gb := (l11.grown HG.out (fun x => (own_blk_ne ln11 l11 (by decide)) x.symm)).cell 2
                  simp at gb
                  go_wp2
                  go_roundw
                  case rel => exact ⟨j + 1, by simp [hwj], by omega, Lib.hid (grown_set HG.out rfl _ _), Lib.hid (hsx _), Lib.hid (HB2.out.setCell (by have := (hnl.2 gx rfl).1; have := hlb.2.2; show w.heap.size ≤ gx; omega) _)⟩
                  case measure => simp [intOf, hwj]; omega
                · have hdj : decide ((j : Int) < (R.length : Int)) = false := decide_eq_false (by omega)
                  have pj : ((j : Int) < (R.length : Int)) = False := eq_false (by omega)
                  have hBm := HB2.out
                  have m3 := l3.grown HG.out (fun x => own_blk_ne ln11 l3 (by decide) x.symm)
                  have m9 := l9.grown HG.out (fun x => own_blk_ne ln11 l9 (by decide) x.symm)
                  have m14 := l14.grown HG.out (fun x => own_blk_ne ln11 l14 (by decide) x.symm)
                  have mH := lH.grown HG.out (fun e => by have := (hnl.2 g e).1; have := hlb.1; omega)
                  have mO := lO.grown HG.out (fun e => by have := (hnl.2 g9 e).1; have := hlb.2.1; omega)
                  have mO14 := lO14.grown HG.out (fun k hk e => by have := (hnl.2 k e).2; have := (lO14.lt k hk).1; omega)
                  clear HX HX2 HG HB2 hj hjl l3 l8 l9 l11 l14 l15 lH lO ln11 lO14 lO15 hBl
                  have g3 := m3.cell 0
                  have g9c := m9.cell 0
                  simp at g3 g9c
                  go_upto_region 32 with (go_at_call 22; (with_reducible refine (whole_call hLK mH mO.L).out.mono ?_); rintro e wn ⟨rfl, bn⟩; have n3 := m3.keep bn; have n14 := m14.keep bn; have nO14 := mO14.below bn; have hBn := keep_below hBm bn)
                  clear g3 g9c m3 m9 m14 mH mO mO14 hBm bn
                  have g14 := n14.cell 0
                  have hN9 : N.length ≤ 129 := by have := HK.out.1.1; omega
                  simp at g14
                  go_upto_region 33 with (go_at_call 14; (with_reducible refine (shorth_call hN9 nO14).out.mono ?_); rintro e wq ⟨g33, c33, rfl, qO, bq⟩; have q3 := n3.keep bq; have hBq := keep_below hBn bq; have hfz := q3.frozen 0; clear g14; have g3 := q3.cell 0; simp at g3)
                  have u3 : Blk (wq.setCell ⟨w.heap.size, 0, none⟩ (.slice (some ⟨g33, 0, none⟩) N.length c33)) w.heap.size 24 #[.slice (some ⟨g33, 0, none⟩) N.length c33] := by simpa using q3.set_ 0 (.slice (some ⟨g33, 0, none⟩) N.length c33)
                  have hne : g33 ≠ w.heap.size := by have := (qO.lt g33 rfl).1; have := n3.lt; omega
                  have uH : OwnH (wq.setCell ⟨w.heap.size, 0, none⟩ (.slice (some ⟨g33, 0, none⟩) N.length c33)) 0 g33 c33 N := (show OwnH wq 0 g33 c33 N from own_weaken qO (Nat.zero_le _)).mv (Below.heap_setCell wq ⟨w.heap.size, 0, none⟩ _ g33 hne)
                  have hBu := hBq.setCell (p := ⟨w.heap.size, 0, none⟩) (Nat.le_refl _) (.slice (some ⟨g33, 0, none⟩) N.length c33)
                  generalize (wq.setCell ⟨w.heap.size, 0, none⟩ (.slice (some ⟨g33, 0, none⟩) N.length c33)) = Wu at u3 uH hBu ⊢
                  have hwi := wrap_sm (z := (i : Int) + 1) (by omega) (by omega)
                  go_wp2
                  go_roundw
                  case rel => exact ⟨i + 1, g33, c33, N, by simp [hwi], by omega, by omega, Lib.hid u3, Lib.hid uH, Lib.hid ⟨by have := HK.out.1.1; omega, fun x hx => Int.le_of_lt (HK.out.1.2.2 x hx).1⟩, hBu⟩
                  case measure => simp [intOf, hwi]; omega
        · rw [if_neg hc] at e1
          have hcl : gazetteerref22_Class.f a1 = some false := by
            unfold gazetteerref22_Class.f
            by_cases h1 : a1 ≥ 1
            · rw [if_pos h1, decide_eq_false (by omega)]
            · rw [if_neg h1]
          obtain ⟨n1, h1⟩ := Ev.rounds e1
          have H1 := Lib.hid h1
          clear e1 h1 ho hc
          go_upto_region 10 with (go_at_call 21; (with_reducible refine (applyc_call H1.out uH.L).out.mono ?_); rintro e wb ⟨A10, c10, A11, c11, rfl, O10, O11, hdis, b10⟩; have hBb := keep_below hBWa b10; have a3 := u3.keep b10; have a8 := u8.keep b10; have a9 := v9.keep b10; have aH := uH.below b10; have aO := uO.below b10; have hlb := And.intro (uH.lt g rfl).2 (And.intro (uO.lt g9 rfl).2 hBWa.size))
          have v10 := (Blk.new wb 24 #[.slice A10 0 c10]).alloc (.cells #[.int .i64 0, .int .u64 0, .slice A11 0 c11] 41)
          have v11 : Blk ((wb.alloc (.cells #[.slice A10 0 c10] 24)).alloc (.cells #[.int .i64 0, .int .u64 0, .slice A11 0 c11] 41)) (wb.heap.size + 1) 41 #[.int .i64 0, .int .u64 0, .slice A11 0 c11] := Blk.newAt (by simp)
          have b3 := (a3.alloc (.cells #[.slice A10 0 c10] 24)).alloc (.cells #[.int .i64 0, .int .u64 0, .slice A11 0 c11] 41)
          have b8 := (a8.alloc (.cells #[.slice A10 0 c10] 24)).alloc (.cells #[.int .i64 0, .int .u64 0, .slice A11 0 c11] 41)
          have b9' := (a9.alloc (.cells #[.slice A10 0 c10] 24)).alloc (.cells #[.int .i64 0, .int .u64 0, .slice A11 0 c11] 41)
          have bH := (aH.alloc (.cells #[.slice A10 0 c10] 24)).alloc (.cells #[.int .i64 0, .int .u64 0, .slice A11 0 c11] 41)
          have bO := (aO.alloc (.cells #[.slice A10 0 c10] 24)).alloc (.cells #[.int .i64 0, .int .u64 0, .slice A11 0 c11] 41)
          have n10 := (O10.alloc (.cells #[.slice A10 0 c10] 24)).alloc (.cells #[.int .i64 0, .int .u64 0, .slice A11 0 c11] 41)
          have n11 := (O11.alloc (.cells #[.slice A10 0 c10] 24)).alloc (.cells #[.int .i64 0, .int .u64 0, .slice A11 0 c11] 41)
          have hBWb := (keep_below_alloc (.cells #[.int .i64 0, .int .u64 0, .slice A11 0 c11] 41) (keep_below_alloc (.cells #[.slice A10 0 c10] 24) hBb))
          generalize ((wb.alloc (.cells #[.slice A10 0 c10] 24)).alloc (.cells #[.int .i64 0, .int .u64 0, .slice A11 0 c11] 41)) = Wb at v10 v11 b3 b8 b9' bH bO n10 n11 hBWb ⊢
          clear g3 k0 k1 k2 k3 k4 k5 k6 k7 u3 u8 v9 uH uO hBWa a3 a8 a9 aH aO O10 O11 hBb b10
          have g3 := b3.cell 0
          have g9c := b9'.cell 0
          simp at g3 g9c
          go_upto_region 12 with (go_at_call 22; (with_reducible refine (whole_call hLK bH bO.L).out.mono ?_); rintro e wc ⟨rfl, b22⟩; have hBc := keep_below hBWb b22; have d3 := b3.keep b22; have d8 := b8.keep b22; have d9 := b9'.keep b22; have d10 := v10.keep b22; have d11 := v11.keep b22; have dH := bH.below b22; have dO := bO.below b22; have m10 := n10.below b22; have m11 := n11.below b22)
          clear g3 g9c b3 b8 b9' bH bO n10 n11 hBWb b22 v10 v11
          have g9c := d9.cell 0
          have g10 := d10.cell 0
          have a0 := d11.cell 0
          have a1c := d11.cell 1
          have a2c := d11.cell 2
          simp at g9c g10 a0 a1c a2c
          go_wp2_with (first
            | (go_at_call 16; (with_reducible refine (right_is hdR hLK HL.out.2 dO.L).out.mono ?_); rintro e wd ⟨rfl, bd⟩; have e9 := d9.keep bd; have e10 := d10.keep bd; have e11 := d11.keep bd; have eO := dO.below bd; have l11 := m11.below bd; have hBd := keep_below hBc bd; clear g9c g10 a0 a1c a2c; have g9c := e9.cell 0; have g10 := e10.cell 0; have a0 := e11.cell 0; have a1c := e11.cell 1; have a2c := e11.cell 2; simp at g9c g10 a0 a1c a2c)
            | (go_at_call 17; (with_reducible refine (class_call a1 hcl _).out.mono ?_); rintro e we ⟨rfl, be⟩; have f9 := e9.keep be; have f10 := e10.keep be; have f11 := e11.keep be; have fO := eO.below be; have j11 := l11.below be; have hBe := keep_below hBd be; clear g9c g10 a0 a1c a2c; have g9c := f9.cell 0; have g10 := f10.cell 0; have a0 := f11.cell 0; have a1c := f11.cell 1; have a2c := f11.cell 2; simp at g9c g10 a0 a1c a2c)
            | (go_at_call 16; (with_reducible refine (right_is hdR hLK HL.out.2 fO.L).out.mono ?_); rintro e wf ⟨rfl, bf⟩; have y10 := f10.keep bf; have y11 := f11.keep bf; have i11 := j11.below bf; have hBf := keep_below hBe bf; clear g9c g10 a0 a1c a2c; have g10 := y10.cell 0; have a0 := y11.cell 0; have a1c := y11.cell 1; have a2c := y11.cell 2; simp at g10 a0 a1c a2c)
            | (go_at_call 19; (with_reducible refine (alike0_call i11).out.mono ?_); rintro e wg ⟨rfl, bg⟩; have hBg := keep_below hBf bg))
          go_ret
          exact ⟨rfl, hBg⟩
      · rw [if_neg ho] at e1
        have hdR : decide (okT L) = false := decide_eq_false ho
        obtain ⟨n1, h1⟩ := Ev.rounds e1
        have H1 := Lib.hid h1
        clear e1 h1 ho
        go_upto_region 10 with (go_at_call 21; (with_reducible refine (applyc_call H1.out uH.L).out.mono ?_); rintro e wb ⟨A10, c10, A11, c11, rfl, O10, O11, hdis, b10⟩; have hBb := keep_below hBWa b10; have a3 := u3.keep b10; have a8 := u8.keep b10; have a9 := v9.keep b10; have aH := uH.below b10; have aO := uO.below b10; have hlb := And.intro (uH.lt g rfl).2 (And.intro (uO.lt g9 rfl).2 hBWa.size))
        have v10 := (Blk.new wb 24 #[.slice A10 0 c10]).alloc (.cells #[.int .i64 0, .int .u64 0, .slice A11 0 c11] 41)
        have v11 : Blk ((wb.alloc (.cells #[.slice A10 0 c10] 24)).alloc (.cells #[.int .i64 0, .int .u64 0, .slice A11 0 c11] 41)) (wb.heap.size + 1) 41 #[.int .i64 0, .int .u64 0, .slice A11 0 c11] := Blk.newAt (by simp)
        have b3 := (a3.alloc (.cells #[.slice A10 0 c10] 24)).alloc (.cells #[.int .i64 0, .int .u64 0, .slice A11 0 c11] 41)
        have b8 := (a8.alloc (.cells #[.slice A10 0 c10] 24)).alloc (.cells #[.int .i64 0, .int .u64 0, .slice A11 0 c11] 41)
        have b9' := (a9.alloc (.cells #[.slice A10 0 c10] 24)).alloc (.cells #[.int .i64 0, .int .u64 0, .slice A11 0 c11] 41)
        have bH := (aH.alloc (.cells #[.slice A10 0 c10] 24)).alloc (.cells #[.int .i64 0, .int .u64 0, .slice A11 0 c11] 41)
        have bO := (aO.alloc (.cells #[.slice A10 0 c10] 24)).alloc (.cells #[.int .i64 0, .int .u64 0, .slice A11 0 c11] 41)
        have n10 := (O10.alloc (.cells #[.slice A10 0 c10] 24)).alloc (.cells #[.int .i64 0, .int .u64 0, .slice A11 0 c11] 41)
        have n11 := (O11.alloc (.cells #[.slice A10 0 c10] 24)).alloc (.cells #[.int .i64 0, .int .u64 0, .slice A11 0 c11] 41)
        have hBWb := (keep_below_alloc (.cells #[.int .i64 0, .int .u64 0, .slice A11 0 c11] 41) (keep_below_alloc (.cells #[.slice A10 0 c10] 24) hBb))
        generalize ((wb.alloc (.cells #[.slice A10 0 c10] 24)).alloc (.cells #[.int .i64 0, .int .u64 0, .slice A11 0 c11] 41)) = Wb at v10 v11 b3 b8 b9' bH bO n10 n11 hBWb ⊢
        clear g3 k0 k1 k2 k3 k4 k5 k6 k7 u3 u8 v9 uH uO hBWa a3 a8 a9 aH aO O10 O11 hBb b10
        have g3 := b3.cell 0
        have g9c := b9'.cell 0
        simp at g3 g9c
        go_upto_region 12 with (go_at_call 22; (with_reducible refine (whole_call hLK bH bO.L).out.mono ?_); rintro e wc ⟨rfl, b22⟩; have hBc := keep_below hBWb b22; have d3 := b3.keep b22; have d8 := b8.keep b22; have d9 := b9'.keep b22; have d10 := v10.keep b22; have d11 := v11.keep b22; have dH := bH.below b22; have dO := bO.below b22; have m10 := n10.below b22; have m11 := n11.below b22)
        clear g3 g9c b3 b8 b9' bH bO n10 n11 hBWb b22 v10 v11
        have g9c := d9.cell 0
        have g10 := d10.cell 0
        have a0 := d11.cell 0
        have a1c := d11.cell 1
        have a2c := d11.cell 2
        simp at g9c g10 a0 a1c a2c
        go_wp2_with (first
          | (go_at_call 16; (with_reducible refine (right_is hdR hLK HL.out.2 dO.L).out.mono ?_); rintro e wd ⟨rfl, bd⟩; have e9 := d9.keep bd; have e10 := d10.keep bd; have e11 := d11.keep bd; have eO := dO.below bd; have l11 := m11.below bd; have hBd := keep_below hBc bd; clear g9c g10 a0 a1c a2c; have g9c := e9.cell 0; have g10 := e10.cell 0; have a0 := e11.cell 0; have a1c := e11.cell 1; have a2c := e11.cell 2; simp at g9c g10 a0 a1c a2c)
          | (go_at_call 16; (with_reducible refine (right_is hdR hLK HL.out.2 eO.L).out.mono ?_); rintro e wf ⟨rfl, bf⟩; have y10 := e10.keep bf; have y11 := e11.keep bf; have i11 := l11.below bf; have hBf := keep_below hBd bf; clear g9c g10 a0 a1c a2c; have g10 := y10.cell 0; have a0 := y11.cell 0; have a1c := y11.cell 1; have a2c := y11.cell 2; simp at g10 a0 a1c a2c)
          | (go_at_call 19; (with_reducible refine (alike0_call i11).out.mono ?_); rintro e wg ⟨rfl, bg⟩; have hBg := keep_below hBf bg))
        go_ret
        exact ⟨rfl, hBg⟩
    · have hd : decide ((i : Int) < (O.length : Int)) = false := decide_eq_false (by omega)
      have p1 : ((i : Int) < (O.length : Int)) = False := eq_false (by omega)
      go_wp2
      go_ret
      exact ⟨rfl, hB⟩
end Go.Proofs.Ytknlbfandkmeiaa.M
