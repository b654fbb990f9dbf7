/- What the row of this claim reaches. No condition. -/
import Derived.Test.YtknlbfandkmeiaaYMBack
set_option linter.unusedVariables false
set_option linter.unusedSimpArgs false
namespace Go.Proofs.Ytknlbfandkmeiaa.M
open Go.RowKit Go.Proofs.YtknlbfandkmeiaaW.PrintWords Go.Proofs.YtknlbfandkmeiaaW.PrintLast Go.Proofs.YtknlbfandkmeiaaW.PrintMore
theorem back_any (A0 : Option Addr) (c0 : Nat) (l0 : List S51) (x0 x1 x2 x3 x4 x5 : Int) (w : World) (hr0 : Kd.C k51 w A0 l0.length l0) (hc0 : l0.length ≤ c0) (h0 : 0 ≤ x0) :
    Calls Try.prog 5 #[.agg #[.slice A0 l0.length c0], .agg #[.int .u32 x0, .int .i64 x1, .int .i64 x2, .int .i64 x3, .int .i64 x4, .int .i64 x5]] w fun e w' => e = .returned (.bool true) ∧ Below w.heap.size w w' := by
  obtain ⟨T, hT⟩ : ∃ T, l0.take 129 = T := ⟨_, rfl⟩
  have hTl : T.length ≤ 1000 := by rw [← hT, List.length_take]; omega
  by_cases ho : okT T
  case neg => exact back_not A0 c0 l0 T x0 x1 x2 x3 x4 x5 w hr0 hc0 hT ho hTl
  have hl := ho.1
  have e1 := mapply_ev (L := T) hTl 2 false x0 x1 x2 x3 x4 x5
  rw [if_pos ho] at e1
  have e3 := Ev.rounds (msame_ev (L := T) hTl)
  rcases insert_cases ho x0 x1 x2 x3 x4 x5 h0 with ⟨h1, h2, h3⟩ | ⟨h1, h2, h3, h4⟩
  · obtain ⟨k, hk⟩ := Ev.rounds e1
    refine back_refused A0 c0 l0 T x0 x1 x2 x3 x4 x5 w hr0 hc0 hT _ h1 ⟨k, ?_⟩ e3
    rw [hk, h2, h3]
  · rw [h1] at e1
    obtain ⟨N, hN⟩ : ∃ N, insF (rowP x0 x1 x2 x3 x4 x5) T = N := ⟨_, rfl⟩
    have hx : N.filter (fun y => decide (¬ y.f0 = x0)) = T := by rw [← hN]; exact filter_ins (rowP x0 x1 x2 x3 x4 x5) T h3
    have hth : thR N x0 = true := by
      rw [← hN]
      exact th_mem (x := rowP x0 x1 x2 x3 x4 x5) h4.2.1 (ins_mem _ _)
    have hNl : N.length = T.length + 1 := by rw [← hN]; exact ins_length _ _
    rw [hN] at h4 e1
    have e2 := mapply_ev (L := N) (by omega) 3 false x0 0 0 0 0 0
    rw [if_pos h4, delete_there (by omega) hth, hx] at e2
    refine back_new A0 c0 l0 T x0 x1 x2 x3 x4 x5 w hr0 hc0 hT N (Ev.rounds e1) (Ev.rounds e2) e3 ⟨0, msame_ne (by omega) 0⟩ hTl fun x hm => ?_
    obtain ⟨hp, hb⟩ := ho.2.2 x hm
    have hn0 : ¬ x.f0 = 0 := by omega
    have d1 := mapply_ev (L := T) (by omega) 3 false x.f0 0 0 0 0 0
    rw [if_pos ho, delete_there hn0 (th_mem ho.2.1 hm)] at d1
    obtain ⟨M, hM⟩ : ∃ M, T.filter (fun y => decide (¬ y.f0 = x.f0)) = M := ⟨_, rfl⟩
    have hMok : okT M := by rw [← hM]; exact okT_filter ho _
    have hMl : M.length + 1 = T.length := by rw [← hM]; exact filter_len x T ho.2.1 hm
    have hMt : thR M x.f0 = false := (th_any hMok.2.1).2 fun y hy => by
      rw [← hM] at hy
      simpa using (List.mem_filter.1 hy).2
    have d2 := mapply_ev (L := M) (by omega) 2 false x.f0 x.f1.f0 x.f1.f1 x.f1.f2 x.f1.f3 x.f2
    rw [if_pos hMok, insert_new hn0 hb hMt (by omega)] at d2
    have hTT : insF (rowP x.f0 x.f1.f0 x.f1.f1 x.f1.f2 x.f1.f3 x.f2) M = T := by
      rw [← hM]
      exact ins_filter x T ho.2.1 hm
    rw [hTT] at d2
    rw [hM] at d1
    exact ⟨M, Ev.rounds d1, Ev.rounds d2⟩
end Go.Proofs.Ytknlbfandkmeiaa.M
