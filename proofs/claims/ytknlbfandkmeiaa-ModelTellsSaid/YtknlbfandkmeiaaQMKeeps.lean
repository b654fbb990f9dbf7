/- What the row of this claim reaches. No condition. -/
import Derived.Test.YtknlbfandkmeiaaQMBack
set_option linter.unusedVariables false
set_option linter.unusedSimpArgs false
namespace Go.Proofs.Ytknlbfandkmeiaa.M
open Go.RowKit Go.Proofs.YtknlbfandkmeiaaW.PrintWords Go.Proofs.YtknlbfandkmeiaaW.PrintLast Go.Proofs.YtknlbfandkmeiaaW.PrintMore
theorem check_call {k : Nat} {L : List S51} {r : Int} (h : model_Check.f k L = some r) {W : World} {b : Nat} {A : Option Addr} {c : Nat} (h1 : OwnL W b A c L) :
    Hid (Calls Try.prog 24 #[.agg #[.slice A L.length c]] W fun e w' => e = .returned (.int .i64 r) ∧ Below W.heap.size W w') :=
  Lib.hid (model_Check.calls k A c L r W h1.C.2 h1.C.1 h)
theorem meets_call {k : Nat} {L M : List S51} {r x0 x1 x2 x3 : Int} (h : model_Meets.f k L x0 x1 x2 x3 = some (M, r)) {W : World} {b : Nat} {A : Option Addr} {c : Nat} (h1 : OwnL W b A c L) :
    Hid (Calls Try.prog 25 #[.agg #[.slice A L.length c], .agg #[.int .i64 x0, .int .i64 x1, .int .i64 x2, .int .i64 x3]] W fun e w' => ∃ A1 c1, e = .returned (.tuple #[.slice A1 M.length c1, .int .i64 r]) ∧ OwnL w' W.heap.size A1 c1 M ∧ Below W.heap.size W w') := by
  refine Lib.hid ((meets_any k A c L x0 x1 x2 x3 M r W h1.C.2 h1.C.1 h).mono ?_)
  rintro e w' ⟨v0, rfl, h0, hb⟩
  have ho := row_of_R h0
  obtain ⟨A1, c1, rfl, _, _, _⟩ := C_of_row ho
  exact ⟨A1, c1, rfl, ho, hb⟩
attribute [local go_sem high] eqA51
structure KSt (w : World) (g3 g4 g5 g7 : Nat) (A1 A7 A10 : Option Addr) (c1 c7 c10 : Nat) (T N L : List S51) (o v : S38) (W : World) : Prop where
  b3 : Blk W g3 24 #[.slice A1 T.length c1]
  b4 : Blk W g4 38 #[.int .i64 o.f0, .bool o.f1, .int .u32 o.f2, .int .i64 o.f3.f0, .int .i64 o.f3.f1, .int .i64 o.f3.f2, .int .i64 o.f3.f3, .int .i64 o.f4]
  b5 : Blk W g5 38 #[.int .i64 v.f0, .bool v.f1, .int .u32 v.f2, .int .i64 v.f3.f0, .int .i64 v.f3.f1, .int .i64 v.f3.f2, .int .i64 v.f3.f3, .int .i64 v.f4]
  b7 : Blk W g7 24 #[.slice A7 N.length c7]
  t : OwnL W 0 A1 c1 T
  n : OwnL W 0 A7 c7 N
  l : OwnL W 0 A10 c10 L
  hB : Below w.heap.size w W
theorem KSt.below {w : World} {g3 g4 g5 g7 : Nat} {A1 A7 A10 : Option Addr} {c1 c7 c10 : Nat} {T N L : List S51} {o v : S38} {W W' : World} (h : KSt w g3 g4 g5 g7 A1 A7 A10 c1 c7 c10 T N L o v W) (hb : Below W.heap.size W W') : KSt w g3 g4 g5 g7 A1 A7 A10 c1 c7 c10 T N L o v W' :=
  ⟨h.b3.keep hb, h.b4.keep hb, h.b5.keep hb, h.b7.keep hb, h.t.below hb, h.n.below hb, h.l.below hb, keep_below h.hB hb⟩
end Go.Proofs.Ytknlbfandkmeiaa.M
