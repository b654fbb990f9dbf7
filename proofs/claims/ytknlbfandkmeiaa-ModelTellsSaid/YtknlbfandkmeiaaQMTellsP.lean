/- What the row of this claim reaches. No condition. -/
import Derived.Test.YtknlbfandkmeiaaQMKeepsAny
import Derived.Test.YtknlbfandkmeiaaQMWhole
import Derived.Test.YtknlbfandkmeiaaQX5
set_option linter.unusedVariables false
set_option linter.unusedSimpArgs false
namespace Go.Proofs.Ytknlbfandkmeiaa.M
open Go.RowKit Go.Proofs.YtknlbfandkmeiaaW.PrintWords Go.Proofs.YtknlbfandkmeiaaW.PrintLast Go.Proofs.YtknlbfandkmeiaaW.PrintMore
theorem both_loop (L M : List S51) (hL : L.length ≤ 1000) (hM : M.length = L.length) : ∀ (m i : Nat), i + m = L.length → ∃ b, Ev (fun n => gazetteerref22_SameRows.l0 n L M (L.length : Int) (i : Int)) b ∧ Ev (fun n => api_Row_48.l0 n L M (L.length : Int) (i : Int)) b
  | 0, i, h => by
    refine ⟨true, Ev.ret fun n => ?_, Ev.ret fun n => ?_⟩
    · rw [gazetteerref22_SameRows.l0, if_neg (by omega)]
    · rw [api_Row_48.l0, if_neg (by omega)]
  | m + 1, i, h => by
    obtain ⟨b, h1, h2⟩ := both_loop L M hL hM m (i + 1) (by omega)
    have hw : wrap64 ((i : Int) + 1) = ((i + 1 : Nat) : Int) := by rw [wrap_up (by omega) (by omega)]; rfl
    obtain ⟨c, hc⟩ : ∃ c, (!(((rd_T51 L i).f0) == ((rd_T51 M i).f0)) || ((!(((rd_T51 L i).f1.f0) == ((rd_T51 M i).f1.f0)) || (!(((rd_T51 L i).f1.f1) == ((rd_T51 M i).f1.f1)) || (!(((rd_T51 L i).f1.f2) == ((rd_T51 M i).f1.f2)) || (!(((rd_T51 L i).f1.f3) == ((rd_T51 M i).f1.f3)))))) || (!(((rd_T51 L i).f2) == ((rd_T51 M i).f2))))) = c := ⟨_, rfl⟩
    cases c
    · refine ⟨b, Ev.step (fun n => ?_) h1, Ev.step (fun n => ?_) h2⟩
      · rw [gazetteerref22_SameRows.l0, if_pos (by omega), if_pos (by omega), if_pos (by omega), if_pos (by omega), hc, if_neg (by simp), hw]
      · rw [api_Row_48.l0, if_pos (by omega), if_pos (by omega), if_pos (by omega), if_pos (by omega), hc, if_neg (by simp), hw]
    · refine ⟨false, Ev.ret fun n => ?_, Ev.ret fun n => ?_⟩
      · rw [gazetteerref22_SameRows.l0, if_pos (by omega), if_pos (by omega), if_pos (by omega), if_pos (by omega), hc, if_pos rfl]
      · rw [api_Row_48.l0, if_pos (by omega), if_pos (by omega), if_pos (by omega), if_pos (by omega), hc, if_pos rfl]
theorem both_ev (L M : List S51) (hL : L.length ≤ 1000) : ∃ b, Ev (fun n => gazetteerref22_SameRows.f n L M) b ∧ Ev (fun n => api_Row_48.f n L M) b := by
  by_cases h : M.length = L.length
  · obtain ⟨b, h1, h2⟩ := both_loop L M hL h L.length 0 (by omega)
    refine ⟨b, Ev.congr (fun n => ?_) h1, Ev.congr (fun n => ?_) h2⟩
    · rw [gazetteerref22_SameRows.f, if_pos (by omega)]; rfl
    · rw [api_Row_48.f, if_pos (by omega)]; rfl
  · refine ⟨false, Ev.congr (fun n => ?_) (Ev.now false), Ev.congr (fun n => ?_) (Ev.now false)⟩
    · rw [gazetteerref22_SameRows.f, if_neg (by omega)]
    · rw [api_Row_48.f, if_neg (by omega)]
theorem bothT_ev (L M : List S51) (hL : L.length ≤ 1000) : ∃ b, Ev (fun n => gazetteerref22_SameRows.f n L M) b ∧ Ev (fun n => model_Same.f n L M) b := by
  obtain ⟨b, h1, h2⟩ := both_ev L M hL
  exact ⟨b, h1, Ev.congr (fun n => rfl) (Ev.bind h2 (Ev.now b))⟩
theorem bothA_ev (a b : Int) (L : List S51) (c d : Int) (M : List S51) (hL : L.length ≤ 1000) : ∃ r, Ev (fun n => gazetteerref22_Alike.f n a b L c d M) r ∧ Ev (fun n => model_Alike.f n a b L c d M) r := by
  obtain ⟨r, h1, h2⟩ := both_ev L M hL
  by_cases e1 : a = c
  · by_cases e2 : b = d
    · refine ⟨r, Ev.congr (fun n => ?_) (Ev.bind h1 (Ev.now r)), Ev.congr (fun n => ?_) (Ev.bind h2 (Ev.now r))⟩
      · rw [gazetteerref22_Alike.f, if_pos e1, if_pos e2]
      · rw [model_Alike.f, if_pos e1, if_pos e2]
    · refine ⟨false, Ev.congr (fun n => ?_) (Ev.now false), Ev.congr (fun n => ?_) (Ev.now false)⟩
      · rw [gazetteerref22_Alike.f, if_pos e1, if_neg e2]
      · rw [model_Alike.f, if_pos e1, if_neg e2]
  · refine ⟨false, Ev.congr (fun n => ?_) (Ev.now false), Ev.congr (fun n => ?_) (Ev.now false)⟩
    · rw [gazetteerref22_Alike.f, if_neg e1]
    · rw [model_Alike.f, if_neg e1]
theorem selfA_ev (a b : Int) (L : List S51) (hL : L.length ≤ 1000) : Ev (fun n => model_Alike.f n a b L a b L) true := by
  have := msame_loop L hL L 0 rfl
  refine Ev.congr (fun n => ?_) (Ev.bind this (Ev.now true))
  rw [model_Alike.f, if_pos rfl, if_pos rfl, api_Row_48.f, if_pos rfl]
  rfl
def CL (W : World) (A : Option Addr) (c : Nat) (L : List S51) : Prop := L.length ≤ c ∧ Kd.C k51 W A L.length L
theorem CL.below {W W' : World} {A : Option Addr} {c : Nat} {L : List S51} (h : CL W A c L) (hb : Below W.heap.size W W') : CL W' A c L := ⟨h.1, Kd.C_below h.2 hb⟩
theorem CL.take {W : World} {A : Option Addr} {c : Nat} {L : List S51} (h : CL W A c L) {m : Nat} (hm : m ≤ L.length) : CL W A c (L.take m) := ⟨by have := h.1; rw [List.length_take]; omega, Kd.C_take h.2 hm⟩
theorem OwnL.CL {W : World} {base : Nat} {A : Option Addr} {c : Nat} {L : List S51} (h : OwnL W base A c L) : CL W A c L := h.C
theorem rsame_call {k : Nat} {L M : List S51} {b : Bool} (h : gazetteerref22_SameRows.f k L M = some b) {W : World} {A1 A2 : Option Addr} {c1 c2 : Nat} (h1 : CL W A1 c1 L) (h2 : CL W A2 c2 M) :
    Hid (Calls Try.prog 20 #[.slice A1 L.length c1, .slice A2 M.length c2] W fun e w' => e = .returned (.bool b) ∧ Below W.heap.size W w') :=
  Lib.hid ((gazetteerref22_SameRows.calls k A1 c1 L A2 c2 M b W h1.2 h1.1 h2.2 h2.1 h).mono fun _ _ h => And.intro h.1 h.2.below)
theorem msame_call {k : Nat} {L M : List S51} {b : Bool} (h : model_Same.f k L M = some b) {W : World} {A1 A2 : Option Addr} {c1 c2 : Nat} (h1 : CL W A1 c1 L) (h2 : CL W A2 c2 M) :
    Hid (Calls Try.prog 23 #[.agg #[.slice A1 L.length c1], .agg #[.slice A2 M.length c2]] W fun e w' => e = .returned (.bool b) ∧ Below W.heap.size W w') :=
  Lib.hid (model_Same.calls k A1 c1 L A2 c2 M b W h1.2 h1.1 h2.2 h2.1 h)
theorem ralike_call {k : Nat} {L M : List S51} {x y x' y' : Int} {b : Bool} (h : gazetteerref22_Alike.f k x y L x' y' M = some b) {W : World} {A1 A2 : Option Addr} {c1 c2 : Nat} (h1 : CL W A1 c1 L) (h2 : CL W A2 c2 M) :
    Hid (Calls Try.prog 19 #[.agg #[.int .i64 x, .int .u64 y, .slice A1 L.length c1], .agg #[.int .i64 x', .int .u64 y', .slice A2 M.length c2]] W fun e w' => e = .returned (.bool b) ∧ Below W.heap.size W w') :=
  Lib.hid (gazetteerref22_Alike.calls k x y A1 c1 L x' y' A2 c2 M b W h1.2 h1.1 h2.2 h2.1 h)
theorem malike_call {k : Nat} {L M : List S51} {x y x' y' : Int} {b : Bool} (h : model_Alike.f k x y L x' y' M = some b) {W : World} {A1 A2 : Option Addr} {c1 c2 : Nat} (h1 : CL W A1 c1 L) (h2 : CL W A2 c2 M) :
    Hid (Calls Try.prog 28 #[.agg #[.int .i64 x, .int .u64 y, .slice A1 L.length c1], .agg #[.int .i64 x', .int .u64 y', .slice A2 M.length c2]] W fun e w' => e = .returned (.bool b) ∧ Below W.heap.size W w') :=
  Lib.hid (model_Alike.calls k x y A1 c1 L x' y' A2 c2 M b W h1.2 h1.1 h2.2 h2.1 h)
theorem boxc_call (k : S36) {b : Bool} (h : boxF k.f0 k.f1 k.f2 k.f3 = b) (W : World) : Hid (Calls Try.prog 26 #[.agg #[.int .i64 k.f0, .int .i64 k.f1, .int .i64 k.f2, .int .i64 k.f3]] W fun e w' => e = .returned (.bool b) ∧ Below W.heap.size W w') := by
  have := rbox_f k.f0 k.f1 k.f2 k.f3
  rw [h] at this
  exact Lib.hid (gazetteerref09_Box.calls k.f0 k.f1 k.f2 k.f3 b W this)
theorem rmeetsc_call (k : S36) {L : List S51} (hL : L.length ≤ 1000) {W : World} {A : Option Addr} {c : Nat} (h1 : CL W A c L) :
    Hid (Calls Try.prog 27 #[.agg #[.slice A L.length c], .agg #[.int .i64 k.f0, .int .i64 k.f1, .int .i64 k.f2, .int .i64 k.f3]] W fun e w' => ∃ A1 c1, e = .returned (.slice A1 (L.filter (meetB k)).length c1) ∧ OwnL w' W.heap.size A1 c1 (L.filter (meetB k)) ∧ Below W.heap.size W w') := by
  obtain ⟨n, hn⟩ := Ev.rounds (meets_ev k hL)
  refine Lib.hid ((gazetteerref22_Meets.calls n A c L k.f0 k.f1 k.f2 k.f3 _ W h1.2 h1.1 hn).mono ?_)
  rintro e w' ⟨v0, rfl, h0, hb⟩
  have ho := row_of_R h0
  obtain ⟨A1, c1, rfl, _, _, _⟩ := C_of_row ho
  exact ⟨A1, c1, rfl, ho, hb⟩
theorem rightc_call {L : List S51} {b : Bool} (hd : decide (okT L) = b) (hL : L.length ≤ 1000) (hp : ∀ x ∈ L, 0 ≤ x.f0) {W : World} {A : Option Addr} {c : Nat} (h1 : CL W A c L) :
    Hid (Calls Try.prog 16 #[.agg #[.slice A L.length c]] W fun e w' => e = .returned (.bool b) ∧ Below W.heap.size W w') := by
  obtain ⟨k, hk⟩ := Ev.rounds (right_ev hL hp)
  rw [hd] at hk
  exact Lib.hid (gazetteerref22_Right.calls k A c L _ W h1.2 h1.1 hk)
end Go.Proofs.Ytknlbfandkmeiaa.M
