/- What the row of this claim reaches. No condition. -/
import Derived.Test.YtiamkgoajkfofaaDoorXX2
set_option linter.unusedVariables false
set_option linter.unusedSimpArgs false
namespace Go.Proofs.YtiamkgoajkfofaaDoor.S
open Go.RowKit Go.Proofs.YtiamkgoajkfofaaDoorW.PrintWords Go.Proofs.YtiamkgoajkfofaaDoorW.PrintLast Go.Proofs.YtiamkgoajkfofaaDoorW.PrintMore
structure Pt where
  A17 : Option Addr
  c17 : Nat
  A18 : Option Addr
  c18 : Nat
  A19 : Option Addr
  c19 : Nat
def p0 : Pt := ⟨none, 0, none, 0, none, 0⟩
def sv (s : S33) (p : Pt) : Array Value := #[.int .i64 s.f0, .int .u64 s.f1, .bool s.f2, .int .u64 s.f3, .int .i64 s.f4.f0, .bool s.f4.f1, .int .u32 s.f4.f2, .int .i64 s.f4.f3.f0, .int .i64 s.f4.f3.f1, .int .i64 s.f4.f3.f2, .int .i64 s.f4.f3.f3, .int .i64 s.f4.f4, .int .i64 s.f5, .int .i64 s.f6.f0.f0, .int .i64 s.f6.f0.f1, .int .i64 s.f6.f0.f2, .int .i64 s.f6.f0.f3, .slice p.A17 s.f6.f1.length p.c17, .slice p.A18 s.f6.f2.length p.c18, .slice p.A19 s.f7.length p.c19]
def ov (o : S27) : Array Value := #[.int .i64 o.f0, .bool o.f1, .int .u32 o.f2, .int .i64 o.f3.f0, .int .i64 o.f3.f1, .int .i64 o.f3.f2, .int .i64 o.f3.f3, .int .i64 o.f4]
def cv (c : S31) (p : Pt) : Array Value := #[.int .i64 c.f0.f0, .int .i64 c.f0.f1, .int .i64 c.f0.f2, .int .i64 c.f0.f3, .slice p.A17 c.f1.length p.c17, .slice p.A18 c.f2.length p.c18]
def In (W : World) (s : S33) (p : Pt) : Prop := (Kd.C k63 W p.A17 s.f6.f1.length s.f6.f1 ∧ s.f6.f1.length ≤ p.c17) ∧ (Kd.C (Kd.int .u32) W p.A18 s.f6.f2.length s.f6.f2 ∧ s.f6.f2.length ≤ p.c18) ∧ (Kd.C (Kd.int .u32) W p.A19 s.f7.length s.f7 ∧ s.f7.length ≤ p.c19)
theorem In.below {W W' : World} {s : S33} {p : Pt} (h : In W s p) (hb : Below W.heap.size W W') : In W' s p := ⟨⟨Kd.C_below h.1.1 hb, h.1.2⟩, ⟨Kd.C_below h.2.1.1 hb, h.2.1.2⟩, ⟨Kd.C_below h.2.2.1 hb, h.2.2.2⟩⟩
theorem C_nil {α : Type} (k : Kd α) (W : World) : Kd.C k W none ([] : List α).length [] := by
  have := Kd.R_reads (Kd.R_nil k 0 W 0 (fun _ => True))
  obtain ⟨A, c, e, _, hC⟩ := this
  injection e with e1 _ _
  subst e1
  exact hC
theorem In.zero (W : World) : In W z33 p0 := ⟨⟨C_nil _ _, Nat.le_refl _⟩, ⟨C_nil _ _, Nat.le_refl _⟩, ⟨C_nil _ _, Nat.le_refl _⟩⟩
theorem sv_cur (s : S33) (p : Pt) : ∀ (j : Nat) v, (cv s.f6 p).toList[j]? = some v → (sv s p)[13 + j]? = some v := by
  intro j v h
  rcases j with _ | _ | _ | _ | _ | _ | j
  all_goals first | exact h | (simp [cv] at h)
theorem sv_one (s : S33) (p : Pt) : (sv s p).all (·.oneCell') = true := by simp [sv, Value.oneCell']
theorem ov_one (o : S27) : (ov o).all (·.oneCell') = true := by simp [ov, Value.oneCell']
section
variable {W : World} {g : Nat} {s : S33} {p : Pt} (h : Blk W g 33 (sv s p))
include h
theorem sc0 : W.cell? ⟨g, 0, none⟩ = some (.int .i64 s.f0) := (h.cell 0).trans rfl
theorem sc1 : W.cell? ⟨g, 1, none⟩ = some (.int .u64 s.f1) := (h.cell 1).trans rfl
theorem sc2 : W.cell? ⟨g, 2, none⟩ = some (.bool s.f2) := (h.cell 2).trans rfl
theorem sc3 : W.cell? ⟨g, 3, none⟩ = some (.int .u64 s.f3) := (h.cell 3).trans rfl
theorem sc4 : W.cell? ⟨g, 4, none⟩ = some (.int .i64 s.f4.f0) := (h.cell 4).trans rfl
theorem sc5 : W.cell? ⟨g, 5, none⟩ = some (.bool s.f4.f1) := (h.cell 5).trans rfl
theorem sc6 : W.cell? ⟨g, 6, none⟩ = some (.int .u32 s.f4.f2) := (h.cell 6).trans rfl
theorem sc7 : W.cell? ⟨g, 7, none⟩ = some (.int .i64 s.f4.f3.f0) := (h.cell 7).trans rfl
theorem sc8 : W.cell? ⟨g, 8, none⟩ = some (.int .i64 s.f4.f3.f1) := (h.cell 8).trans rfl
theorem sc9 : W.cell? ⟨g, 9, none⟩ = some (.int .i64 s.f4.f3.f2) := (h.cell 9).trans rfl
theorem sc10 : W.cell? ⟨g, 10, none⟩ = some (.int .i64 s.f4.f3.f3) := (h.cell 10).trans rfl
theorem sc11 : W.cell? ⟨g, 11, none⟩ = some (.int .i64 s.f4.f4) := (h.cell 11).trans rfl
theorem sc12 : W.cell? ⟨g, 12, none⟩ = some (.int .i64 s.f5) := (h.cell 12).trans rfl
theorem sc13 : W.cell? ⟨g, 13, none⟩ = some (.int .i64 s.f6.f0.f0) := (h.cell 13).trans rfl
theorem sc14 : W.cell? ⟨g, 14, none⟩ = some (.int .i64 s.f6.f0.f1) := (h.cell 14).trans rfl
theorem sc15 : W.cell? ⟨g, 15, none⟩ = some (.int .i64 s.f6.f0.f2) := (h.cell 15).trans rfl
theorem sc16 : W.cell? ⟨g, 16, none⟩ = some (.int .i64 s.f6.f0.f3) := (h.cell 16).trans rfl
theorem sc17 : W.cell? ⟨g, 17, none⟩ = some (.slice p.A17 s.f6.f1.length p.c17) := (h.cell 17).trans rfl
theorem sc18 : W.cell? ⟨g, 18, none⟩ = some (.slice p.A18 s.f6.f2.length p.c18) := (h.cell 18).trans rfl
theorem sc19 : W.cell? ⟨g, 19, none⟩ = some (.slice p.A19 s.f7.length p.c19) := (h.cell 19).trans rfl
end
section
variable {W : World} {g : Nat} {o : S27} (h : Blk W g 27 (ov o))
include h
theorem oc0 : W.cell? ⟨g, 0, none⟩ = some (.int .i64 o.f0) := (h.cell 0).trans rfl
theorem oc1 : W.cell? ⟨g, 1, none⟩ = some (.bool o.f1) := (h.cell 1).trans rfl
theorem oc2 : W.cell? ⟨g, 2, none⟩ = some (.int .u32 o.f2) := (h.cell 2).trans rfl
theorem oc3 : W.cell? ⟨g, 3, none⟩ = some (.int .i64 o.f3.f0) := (h.cell 3).trans rfl
theorem oc4 : W.cell? ⟨g, 4, none⟩ = some (.int .i64 o.f3.f1) := (h.cell 4).trans rfl
theorem oc5 : W.cell? ⟨g, 5, none⟩ = some (.int .i64 o.f3.f2) := (h.cell 5).trans rfl
theorem oc6 : W.cell? ⟨g, 6, none⟩ = some (.int .i64 o.f3.f3) := (h.cell 6).trans rfl
theorem oc7 : W.cell? ⟨g, 7, none⟩ = some (.int .i64 o.f4) := (h.cell 7).trans rfl
end
section
variable {W : World} {s : S33} {p : Pt}
theorem bare_c {k : Nat} {b : Bool} (h : session_bare.f k s.f0 s.f1 s.f2 s.f3 s.f4.f0 s.f4.f1 s.f4.f2 s.f4.f3.f0 s.f4.f3.f1 s.f4.f3.f2 s.f4.f3.f3 s.f4.f4 s.f5 s.f6.f0.f0 s.f6.f0.f1 s.f6.f0.f2 s.f6.f0.f3 s.f6.f1 s.f6.f2 s.f7 = some b) (hi : In W s p) : Hid (Calls Tryd.prog 53 #[.agg (sv s p)] W fun e w' => e = .returned (.bool b) ∧ Below W.heap.size W w') :=
  Lib.hid (session_bare.calls k s.f0 s.f1 s.f2 s.f3 s.f4.f0 s.f4.f1 s.f4.f2 s.f4.f3.f0 s.f4.f3.f1 s.f4.f3.f2 s.f4.f3.f3 s.f4.f4 s.f5 s.f6.f0.f0 s.f6.f0.f1 s.f6.f0.f2 s.f6.f0.f3 p.A17 p.c17 s.f6.f1 p.A18 p.c18 s.f6.f2 p.A19 p.c19 s.f7 b W hi.1.1 hi.1.2 hi.2.1.1 hi.2.1.2 hi.2.2.1 hi.2.2.2 h)
theorem busy_c {k : Nat} {a1 a2 b : Bool} (h : session_busy.f k s.f0 s.f1 s.f2 s.f3 s.f4.f0 s.f4.f1 s.f4.f2 s.f4.f3.f0 s.f4.f3.f1 s.f4.f3.f2 s.f4.f3.f3 s.f4.f4 s.f5 s.f6.f0.f0 s.f6.f0.f1 s.f6.f0.f2 s.f6.f0.f3 s.f6.f1 s.f6.f2 s.f7 a1 a2 = some b) (hT : TabIs W) (hi : In W s p) : Hid (Calls Tryd.prog 54 #[.agg (sv s p), .bool a1, .bool a2] W fun e w' => e = .returned (.bool b) ∧ Below W.heap.size W w') :=
  Lib.hid (session_busy.calls k s.f0 s.f1 s.f2 s.f3 s.f4.f0 s.f4.f1 s.f4.f2 s.f4.f3.f0 s.f4.f3.f1 s.f4.f3.f2 s.f4.f3.f3 s.f4.f4 s.f5 s.f6.f0.f0 s.f6.f0.f1 s.f6.f0.f2 s.f6.f0.f3 p.A17 p.c17 s.f6.f1 p.A18 p.c18 s.f6.f2 p.A19 p.c19 s.f7 a1 a2 b W hT hi.1.1 hi.1.2 hi.2.1.1 hi.2.1.2 hi.2.2.1 hi.2.2.2 h)
theorem refuse_c {k : Nat} {c r : Int} {o : S27} (h : session_refuse.f k s.f0 s.f1 s.f2 s.f3 s.f4.f0 s.f4.f1 s.f4.f2 s.f4.f3.f0 s.f4.f3.f1 s.f4.f3.f2 s.f4.f3.f3 s.f4.f4 s.f5 s.f6.f0.f0 s.f6.f0.f1 s.f6.f0.f2 s.f6.f0.f3 s.f6.f1 s.f6.f2 s.f7 c o.f0 o.f1 o.f2 o.f3.f0 o.f3.f1 o.f3.f2 o.f3.f3 o.f4 = some r) (hi : In W s p) : Hid (Calls Tryd.prog 30 #[.agg (sv s p), .int .i64 c, .agg (ov o)] W fun e w' => e = .returned (.int .i64 r) ∧ Below W.heap.size W w') :=
  Lib.hid (session_refuse.calls k s.f0 s.f1 s.f2 s.f3 s.f4.f0 s.f4.f1 s.f4.f2 s.f4.f3.f0 s.f4.f3.f1 s.f4.f3.f2 s.f4.f3.f3 s.f4.f4 s.f5 s.f6.f0.f0 s.f6.f0.f1 s.f6.f0.f2 s.f6.f0.f3 p.A17 p.c17 s.f6.f1 p.A18 p.c18 s.f6.f2 p.A19 p.c19 s.f7 c o.f0 o.f1 o.f2 o.f3.f0 o.f3.f1 o.f3.f2 o.f3.f3 o.f4 r W hi.1.1 hi.1.2 hi.2.1.1 hi.2.1.2 hi.2.2.1 hi.2.2.2 h)
theorem want_c {r1 r2 r3 : Int} (h : session_want.f s.f0 s.f1 s.f2 s.f3 s.f4.f0 s.f4.f1 s.f4.f2 s.f4.f3.f0 s.f4.f3.f1 s.f4.f3.f2 s.f4.f3.f3 s.f4.f4 s.f5 s.f6.f0.f0 s.f6.f0.f1 s.f6.f0.f2 s.f6.f0.f3 s.f6.f1 s.f6.f2 s.f7 = some (r1, r2, r3)) (hT : TabIs W) (hi : In W s p) : Hid (Calls Tryd.prog 36 #[.agg (sv s p)] W fun e w' => e = .returned (.agg #[.int .i64 r1, .int .u32 r2, .int .i64 r3]) ∧ Below W.heap.size W w') :=
  Lib.hid (session_want.calls s.f0 s.f1 s.f2 s.f3 s.f4.f0 s.f4.f1 s.f4.f2 s.f4.f3.f0 s.f4.f3.f1 s.f4.f3.f2 s.f4.f3.f3 s.f4.f4 s.f5 s.f6.f0.f0 s.f6.f0.f1 s.f6.f0.f2 s.f6.f0.f3 p.A17 p.c17 s.f6.f1 p.A18 p.c18 s.f6.f2 p.A19 p.c19 s.f7 r1 r2 r3 W hT hi.1.1 hi.1.2 hi.2.1.1 hi.2.1.2 hi.2.2.1 hi.2.2.2 h)
end
def plainO (o : S27) : S27 := let r := plainF o.f0 o.f1 o.f2 o.f3.f0 o.f3.f1 o.f3.f2 o.f3.f3 o.f4; ⟨r.1, r.2.1, r.2.2.1, ⟨r.2.2.2.1, r.2.2.2.2.1, r.2.2.2.2.2.1, r.2.2.2.2.2.2.1⟩, r.2.2.2.2.2.2.2⟩
theorem plain_c (W : World) (o : S27) : Hid (Calls Tryd.prog 32 #[.agg (ov o)] W fun e w' => e = .returned (.agg (ov (plainO o))) ∧ Below W.heap.size W w') :=
  Lib.hid (session_plain.calls o.f0 o.f1 o.f2 o.f3.f0 o.f3.f1 o.f3.f2 o.f3.f3 o.f4 _ _ _ _ _ _ _ _ W rfl)
def RS (W : World) (b : Nat) (A : Option Addr) (c : Nat) (l : List S63) : Prop := Kd.R k63 63 W b (fun _ => True) (.slice A l.length c) l
def RU (W : World) (b : Nat) (A : Option Addr) (c : Nat) (l : List Int) : Prop := Kd.R (Kd.int .u32) 23 W b (fun _ => True) (.slice A l.length c) l
theorem R_set {α : Type} {d : Kd α} {e base : Nat} {W : World} {v : Value} {xs : List α} (h : d.R e W base (fun _ => True) v xs) {q : Addr} (hq : q.block < base) (u : Value) : d.R e (W.setCell q u) base (fun _ => True) v xs :=
  Kd.R_mono (Kd.R_far (Kd.R_bound h) (fun k hk => by have := hk.2.1; omega) u) (fun _ _ => trivial)
theorem R_row {α : Type} {d : Kd α} {e base : Nat} {W : World} {v : Value} {xs : List α} (h : d.R e W base (fun _ => True) v xs) {g : Nat} (hq : g < base) (cs : Array Value) : d.R e (W.setRow g cs) base (fun _ => True) v xs :=
  Kd.R_mono (Kd.R_move (Kd.R_bound h) (fun k hk => setRow_other W g k cs (by have := hk.2.1; omega))) (fun _ _ => trivial)
theorem R_C {α : Type} {d : Kd α} {e base c : Nat} {W : World} {A : Option Addr} {xs : List α} (h : d.R e W base (fun _ => True) (.slice A xs.length c) xs) : Kd.C d W A xs.length xs ∧ xs.length ≤ c := by
  obtain ⟨A2, c2, e2, h1, h2⟩ := Kd.R_reads h
  injection e2 with e3 _ e4
  subst e3 e4
  exact ⟨h2, h1⟩
def InO (W : World) (b : Nat) (s : S33) (p : Pt) : Prop := RS W b p.A17 p.c17 s.f6.f1 ∧ RU W b p.A18 p.c18 s.f6.f2 ∧ RU W b p.A19 p.c19 s.f7
theorem InO.In {W : World} {b : Nat} {s : S33} {p : Pt} (h : InO W b s p) : In W s p := ⟨R_C h.1, R_C h.2.1, R_C h.2.2⟩
theorem InO.below {W W' : World} {b : Nat} {s : S33} {p : Pt} (h : InO W b s p) (hb : Below W.heap.size W W') : InO W' b s p := ⟨Kd.R_below h.1 hb, Kd.R_below h.2.1 hb, Kd.R_below h.2.2 hb⟩
theorem InO.set {W : World} {b : Nat} {s : S33} {p : Pt} (h : InO W b s p) {q : Addr} (hq : q.block < b) (u : Value) : InO (W.setCell q u) b s p := ⟨R_set h.1 hq u, R_set h.2.1 hq u, R_set h.2.2 hq u⟩
theorem InO.row {W : World} {b : Nat} {s : S33} {p : Pt} (h : InO W b s p) {g : Nat} (hq : g < b) (cs : Array Value) : InO (W.setRow g cs) b s p := ⟨R_row h.1 hq cs, R_row h.2.1 hq cs, R_row h.2.2 hq cs⟩
theorem InO.lower {W : World} {b b' : Nat} {s : S33} {p : Pt} (h : InO W b s p) (hb : b' ≤ b) : InO W b' s p := ⟨Kd.R_lower h.1 hb, Kd.R_lower h.2.1 hb, Kd.R_lower h.2.2 hb⟩
theorem InO.move {W W' : World} {b : Nat} {s : S33} {p : Pt} (h : InO W b s p) (hm : ∀ k, b ≤ k → k < W.heap.size → W'.heap[k]? = W.heap[k]?) : InO W' b s p :=
  ⟨Kd.R_mono (Kd.R_move (Kd.R_bound h.1) (fun k hk => hm k hk.2.1 hk.2.2.1)) (fun _ _ => trivial), Kd.R_mono (Kd.R_move (Kd.R_bound h.2.1) (fun k hk => hm k hk.2.1 hk.2.2.1)) (fun _ _ => trivial), Kd.R_mono (Kd.R_move (Kd.R_bound h.2.2) (fun k hk => hm k hk.2.1 hk.2.2.1)) (fun _ _ => trivial)⟩
def InR (W : World) (b : Nat) (s : S33) (p : Pt) : Prop := ∀ W' : World, (∀ k, b ≤ k → k < W.heap.size → (∀ cs, W.heap[k]? ≠ some (.cells cs 33 (0, 0))) → W'.heap[k]? = W.heap[k]?) → In W' s p
theorem InR.In {W : World} {b : Nat} {s : S33} {p : Pt} (h : InR W b s p) : In W s p := h W (fun _ _ _ _ => rfl)
theorem InR.below {W W2 : World} {b : Nat} {s : S33} {p : Pt} (h : InR W b s p) (hb : Below W.heap.size W W2) : InR W2 b s p := fun W' hm => h W' (fun k h1 h2 h3 => (hm k h1 (Nat.lt_of_lt_of_le h2 hb.size) (fun cs hc => h3 cs (by rw [← hb.block k h2]; exact hc))).trans (hb.block k h2))
theorem InR.row {W : World} {b : Nat} {s : S33} {p : Pt} (h : InR W b s p) {g : Nat} (hg : g < b) (cs : Array Value) : InR (W.setRow g cs) b s p := fun W' hm => h W' (fun k h1 h2 h3 => (hm k h1 (by simpa using h2) (fun cs' hc => h3 cs' (by rw [← setRow_other W g k cs (by omega)]; exact hc))).trans (setRow_other W g k cs (by omega)))
theorem InR.lower {W : World} {b b' : Nat} {s : S33} {p : Pt} (h : InR W b s p) (hb : b' ≤ b) : InR W b' s p := fun W' hm => h W' (fun k h1 h2 h3 => hm k (Nat.le_trans hb h1) h2 h3)
theorem InR.zero (W : World) (b : Nat) : InR W b z33 p0 := fun W' _ => In.zero W'
theorem InO.move33 {W W' : World} {b : Nat} {s : S33} {p : Pt} (h : InO W b s p) (hm : ∀ k, b ≤ k → k < W.heap.size → (∀ cs, W.heap[k]? ≠ some (.cells cs 33 (0, 0))) → W'.heap[k]? = W.heap[k]?) : InO W' b s p := by
  have hq1 : ∀ q ∈ (63 :: k63.E), ¬ q = 33 := by decide
  have hq2 : ∀ q ∈ (23 :: (Kd.int .u32).E), ¬ q = 33 := by decide
  refine ⟨Kd.R_mono (Kd.R_move (Kd.R_bound h.1) (fun k hk => hm k hk.2.1 hk.2.2.1 (fun cs hc => ?_))) (fun _ _ => trivial), Kd.R_mono (Kd.R_move (Kd.R_bound h.2.1) (fun k hk => hm k hk.2.1 hk.2.2.1 (fun cs hc => ?_))) (fun _ _ => trivial), Kd.R_mono (Kd.R_move (Kd.R_bound h.2.2) (fun k hk => hm k hk.2.1 hk.2.2.1 (fun cs hc => ?_))) (fun _ _ => trivial)⟩
  all_goals
    obtain ⟨q, hq, cells, hcl⟩ := hk.2.2.2
    rw [hcl] at hc
    injection hc with hc
    injection hc with _ hc
    first | exact hq1 q hq hc | exact hq2 q hq hc
theorem InO.R {W : World} {b : Nat} {s : S33} {p : Pt} (h : InO W b s p) : InR W b s p := fun W' hm => (h.move33 hm).In
theorem cloneS_c {W : World} {A : Option Addr} {c : Nat} {l : List S63} (hl : l.length ≤ 1000) (h : Kd.C k63 W A l.length l ∧ l.length ≤ c) : Hid (Calls Tryd.prog 56 #[.slice A l.length c] W fun e w' => ∃ A' c', e = .returned (.slice A' l.length c') ∧ RS w' W.heap.size A' c' l ∧ Below W.heap.size W w') := by
  refine Lib.hid ((slices_Clone_Seen.calls A c l l W h.1 h.2 (by unfold slices_Clone_Seen.f; rw [if_pos hl])).mono ?_)
  rintro e w' ⟨v, rfl, h0, hb⟩
  obtain ⟨A1, c1, rfl, h1, h2⟩ := Kd.R_reads h0
  exact ⟨A1, c1, rfl, h0, hb⟩
theorem cloneU_c {W : World} {A : Option Addr} {c : Nat} {l : List Int} (hl : l.length ≤ 1000) (h : Kd.C (Kd.int .u32) W A l.length l ∧ l.length ≤ c) : Hid (Calls Tryd.prog 57 #[.slice A l.length c] W fun e w' => ∃ A' c', e = .returned (.slice A' l.length c') ∧ RU w' W.heap.size A' c' l ∧ Below W.heap.size W w') := by
  refine Lib.hid ((slices_Clone_uint32.calls A c l l W h.1 h.2 (by unfold slices_Clone_uint32.f; rw [if_pos hl])).mono ?_)
  rintro e w' ⟨v, rfl, h0, hb⟩
  obtain ⟨A1, c1, rfl, h1, h2⟩ := Kd.R_reads h0
  exact ⟨A1, c1, rfl, h0, hb⟩
end Go.Proofs.YtiamkgoajkfofaaDoor.S
