/- What the row of this claim reaches. No condition. -/
import Derived.Test.YtknlbfandkmeiaaUMPure4
set_option linter.unusedVariables false
set_option linter.unusedSimpArgs false
namespace Go.Proofs.Ytknlbfandkmeiaa.M
open Go.RowKit Go.Proofs.YtknlbfandkmeiaaW.PrintWords Go.Proofs.YtknlbfandkmeiaaW.PrintLast Go.Proofs.YtknlbfandkmeiaaW.PrintMore
def OwnL (W : World) (base : Nat) (A : Option Addr) (c : Nat) (L : List S51) : Prop := W.ownsRow base 51 6 (.slice A L.length c) L.length (rowOf L)
section
variable {W W' : World} {base : Nat} {A : Option Addr} {c : Nat} {L : List S51}
theorem OwnL.C (h : OwnL W base A c L) : L.length ≤ c ∧ Kd.C k51 W A L.length L := by
  obtain ⟨A2, c2, e, h1, _, h2⟩ := C_of_row h
  injection e with e1 _ e3
  subst e1 e3
  exact ⟨h1, h2⟩
theorem OwnL.below (h : OwnL W base A c L) (hb : Below W.heap.size W W') : OwnL W' base A c L := own_mv h fun k hk => hb.block k (h.lt k hk).2
theorem OwnL.far {g : Nat} {t : TypeId} {cs : Array Value} (h : OwnL W base A c L) (b : Blk W g t cs) (ht : 51 ≠ t) (i : Nat) (u : Value) : OwnL (W.setCell ⟨g, i, none⟩ u) base A c L :=
  own_mv h fun k hk => Below.heap_setCell W ⟨g, i, none⟩ _ k (fun e => own_blk_ne h b ht (by rw [hk, e]))
theorem OwnL.alloc (h : OwnL W base A c L) (o : Obj) : OwnL (W.alloc o) base A c L := h.below (below_alloc (Below.refl _ _) o)
theorem OwnL.weak {b' : Nat} (h : OwnL W base A c L) (hb : b' ≤ base) : OwnL W b' A c L := own_weaken h hb
end
theorem apply_call {k : Nat} {L M R : List S51} {kind r c d e f v er tx e5 : Int} {b : Bool} (h : model_Apply.f k L 1 kind b r c d e f v = some (M, er, tx, R, e5)) {W : World} {base : Nat} {A : Option Addr} {cA : Nat} (hO : OwnL W base A cA L) :
    Hid (Calls Try.prog 21 #[.agg #[.slice A L.length cA], .int .i64 1, .agg #[.int .i64 kind, .bool b, .int .u32 r, .int .i64 c, .int .i64 d, .int .i64 e, .int .i64 f, .int .i64 v]] W fun e w' => ∃ A1 c1 A2 c2, e = .returned (.tuple #[.agg #[.slice A1 M.length c1], .agg #[.int .i64 er, .int .u64 tx, .slice A2 R.length c2], .int .i64 e5]) ∧ OwnL w' W.heap.size A1 c1 M ∧ Below W.heap.size W w') := by
  refine Lib.hid ((model_Apply.calls k A cA L 1 kind b r c d e f v M er tx R e5 W hO.C.2 hO.C.1 h).mono ?_)
  rintro e w' ⟨v0, v3, rfl, h0, h3, hb⟩
  have ho := row_of_R h0
  obtain ⟨A1, c1, rfl, _, _, _⟩ := C_of_row ho
  obtain ⟨A2, c2, rfl, _, _, _⟩ := C_of_row (row_of_R h3)
  exact ⟨A1, c1, A2, c2, rfl, ho, hb⟩
theorem same_call {k : Nat} {L M : List S51} {r : Bool} (h : model_Same.f k L M = some r) {W : World} {b1 b2 : Nat} {A1 A2 : Option Addr} {c1 c2 : Nat} (h1 : OwnL W b1 A1 c1 L) (h2 : OwnL W b2 A2 c2 M) :
    Hid (Calls Try.prog 23 #[.agg #[.slice A1 L.length c1], .agg #[.slice A2 M.length c2]] W fun e w' => e = .returned (.bool r) ∧ Below W.heap.size W w') :=
  Lib.hid (model_Same.calls k A1 c1 L A2 c2 M r W h1.C.2 h1.C.1 h2.C.2 h2.C.1 h)
theorem short_call {A0 : Option Addr} {c0 : Nat} {l0 T : List S51} (hT : l0.take 129 = T) {W : World} (hr0 : Kd.C k51 W A0 l0.length l0) (hc0 : l0.length ≤ c0) :
    Hid (Calls Try.prog 14 #[.agg #[.slice A0 l0.length c0]] W fun e w' => ∃ A1 c1, e = .returned (.agg #[.slice A1 T.length c1]) ∧ OwnL w' W.heap.size A1 c1 T ∧ Below W.heap.size W w') := by
  subst hT
  refine Lib.hid ((short_any A0 c0 l0 W hr0 hc0).mono ?_)
  rintro e w' ⟨g, cap, rfl, ho, hb⟩
  exact ⟨_, _, rfl, own_cut ho, hb⟩
theorem wakes_call (W : World) : Hid (Calls Try.prog 13 #[] W fun e w' => e = .returned (.bool true) ∧ Below W.heap.size W w') := by
  obtain ⟨k, h⟩ := Ev.rounds wakes_true
  exact Lib.hid (gazetteerlaw22_wakes.calls k true W h)
end Go.Proofs.Ytknlbfandkmeiaa.M
