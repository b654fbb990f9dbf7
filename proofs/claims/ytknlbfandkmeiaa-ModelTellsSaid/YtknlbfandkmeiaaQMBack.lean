/- What the row of this claim reaches. No condition. -/
import Derived.Test.YtknlbfandkmeiaaQMPure4
set_option linter.unusedVariables false
set_option linter.unusedSimpArgs false
namespace Go.Proofs.Ytknlbfandkmeiaa.M
open Go.RowKit Go.Proofs.YtknlbfandkmeiaaW.PrintWords Go.Proofs.YtknlbfandkmeiaaW.PrintLast Go.Proofs.YtknlbfandkmeiaaW.PrintMore
def OwnL (W : World) (base : Nat) (A : Option Addr) (c : Nat) (L : List S51) : Prop := W.ownsRow base 51 6 (.slice A L.length c) L.length (rowOf L)
section
variable {W W' : World} {base : Nat} {A : Option Addr} {c : Nat} {L : List S51}
theorem OwnL.C (h : OwnL W base A c L) : L.length ≤ c ∧ Kd.C k51 W A L.length L := by
  obtain ⟨A2, c2, e, h1, _, h2⟩ := C_of_row h
  injection e with e1 _ e3
  subst e1 e3
  exact ⟨h1, h2⟩
theorem OwnL.below (h : OwnL W base A c L) (hb : Below W.heap.size W W') : OwnL W' base A c L := own_mv h fun k hk => hb.block k (h.lt k hk).2
theorem OwnL.far {g : Nat} {t : TypeId} {cs : Array Value} (h : OwnL W base A c L) (b : Blk W g t cs) (ht : 51 ≠ t) (i : Nat) (u : Value) : OwnL (W.setCell ⟨g, i, none⟩ u) base A c L :=
  own_mv h fun k hk => Below.heap_setCell W ⟨g, i, none⟩ _ k (fun e => own_blk_ne h b ht (by rw [hk, e]))
theorem OwnL.alloc (h : OwnL W base A c L) (o : Obj) : OwnL (W.alloc o) base A c L := h.below (below_alloc (Below.refl _ _) o)
theorem OwnL.weak {b' : Nat} (h : OwnL W base A c L) (hb : b' ≤ base) : OwnL W b' A c L := own_weaken h hb
end
theorem short_call {A0 : Option Addr} {c0 : Nat} {l0 T : List S51} (hT : l0.take 129 = T) {W : World} (hr0 : Kd.C k51 W A0 l0.length l0) (hc0 : l0.length ≤ c0) :
    Hid (Calls Try.prog 14 #[.agg #[.slice A0 l0.length c0]] W fun e w' => ∃ A1 c1, e = .returned (.agg #[.slice A1 T.length c1]) ∧ OwnL w' W.heap.size A1 c1 T ∧ Below W.heap.size W w') := by
  subst hT
  refine Lib.hid ((short_any A0 c0 l0 W hr0 hc0).mono ?_)
  rintro e w' ⟨g, cap, rfl, ho, hb⟩
  exact ⟨_, _, rfl, own_cut ho, hb⟩
theorem wakes_call (W : World) : Hid (Calls Try.prog 13 #[] W fun e w' => e = .returned (.bool true) ∧ Below W.heap.size W w') := by
  obtain ⟨k, h⟩ := Ev.rounds wakes_true
  exact Lib.hid (gazetteerlaw22_wakes.calls k true W h)
end Go.Proofs.Ytknlbfandkmeiaa.M
