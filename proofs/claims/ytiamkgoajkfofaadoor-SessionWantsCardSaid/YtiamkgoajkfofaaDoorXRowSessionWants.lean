/- SessionWants: the given statement, out of its plain statement and the walk of its code. No condition. -/
import Derived.Test.YtiamkgoajkfofaaDoorTie
import Derived.Test.YtiamkgoajkfofaaDoorCards
import Derived.SevenTiedAt
import Derived.Test.YtiamkgoajkfofaaDoorXSOpen
import Derived.Test.YtiamkgoajkfofaaDoorXSWants
set_option linter.unusedVariables false
set_option linter.unusedSimpArgs false
namespace Go.Proofs.YtiamkgoajkfofaaDoor.S
open Go.ChangeShapes Go.WideShapes Go.ChangeAt Go.RowKit Go.Proofs.YtiamkgoajkfofaaDoorW.PrintWords
set_option maxHeartbeats 1000000 in
set_option maxRecDepth 100000 in
theorem sessionWants_walk (W : World) (args : Array Value) {H : Type} {enc : TypeId × Value → H} (ds : List (DataW H)) (p : List MemPlace) (base : Nat)
    (hval : ∀ (j : Nat) t v, Tryd.f6.params[j]? = some t → args[j]? = some v → Value.okWide Tryd.prog W .any base t v)
    (hA : DataW.TrodAll enc Tryd.prog W 0 (fun _ => true) true Tryd.f6.params.toList args.toList ds p) (hT : TabIs W) :
    Calls Tryd.prog 6 args W fun e W' => e = .returned (.bool true) ∧ Below W.heap.size W W' := by
  rw [Tryd.params6] at hA hval
  obtain ⟨v0, vs0, d0, ds0, p0, q0, hargs, rfl, rfl, h0, r0⟩ := trodAll_cons hA
  obtain ⟨v1, vs1, d1, ds1, p1, q1, rfl, rfl, rfl, h1, r1⟩ := trodAll_cons r0
  obtain ⟨rfl, rfl, rfl⟩ := trodAll_nil r1
  obtain rfl : args = #[v0, v1] := by cases args; simp_all
  obtain ⟨x0, cs0, rfl, o0, w0⟩ := op33.agg Tryd.underlying33 (hval 0 33 v0 rfl rfl) h0
  obtain ⟨A17_0, c17_0, A18_0, c18_0, A19_0, c19_0, g0, e17_0, k17_0, e18_0, k18_0, e19_0, k19_0⟩ := k33_open o0
  obtain rfl : cs0 = sv x0 ⟨A17_0, c17_0, A18_0, c18_0, A19_0, c19_0⟩ := by cases cs0; simp_all [sv]
  obtain ⟨x1, rfl, _, _⟩ := open_bool Tryd.underlying4 (hval 1 4 v1 rfl rfl) h1
  refine (wants_law x0 ⟨A17_0, c17_0, A18_0, c18_0, A19_0, c19_0⟩ x1 W (fun x hx => u32_nonneg (w0.2.2.2.2.2.2.1.2.2.2 x hx)) hT ⟨⟨k17_0, e17_0⟩, ⟨k18_0, e18_0⟩, ⟨k19_0, e19_0⟩⟩).mono ?_
  rintro e w' ⟨rfl, hd⟩
  exact ⟨rfl, hd⟩
set_option maxRecDepth 100000 in
theorem sessionWants_lifted (os : Os) (started : os.Started) (H : Type) (enc : TypeId × Value → H) :
    ReturnsInHanded {} Tryd.checked os 6 .any (fun w args => (Rows.sessionWantsSpec.pre enc Tryd.prog Tryd.f6 [] false w args ∧ laidMetH Tryd.prog laidL w) ∧ sizedMet enc Tryd.prog Tryd.f6 (OpenSpec.ofChange Rows.sessionWantsSpec) false w args) (Rows.sessionWantsSpec.post enc Tryd.prog Tryd.f6 false true false false) :=
  law_lifted_laid os started (by kernel_rfl) Tryd.func6 rfl (fun ds hd => match ds, hd with | [_, _], _ => rfl) (by kernel_rfl) (by kernel_rfl)
    (ChangeSpec.witness_shaped (enc := enc) (C := Tryd.checked) (os := os) (X := fun w _ => laidMetH Tryd.prog laidL w) false (World.doorLaid Tryd.prog 400 os) #[(.agg #[.int .i64 0, .int .u64 0, .bool false, .int .u64 0, .int .i64 0, .bool false, .int .u32 0, .int .i64 0, .int .i64 0, .int .i64 0, .int .i64 0, .int .i64 0, .int .i64 0, .int .i64 0, .int .i64 0, .int .i64 0, .int .i64 0, .slice none 0 0, .slice none 0 0, .slice none 0 0]), .bool false] 8 rfl (World.shaped_of_RefB (by kernel_rfl) (by kernel_rfl)) (by kernel_rfl) (by kernel_rfl) (by kernel_rfl) (door_met os _))
    (fun W args ds p base hval hA _ hT => sessionWants_walk W args ds p base hval hA hT)
end Go.Proofs.YtiamkgoajkfofaaDoor.S
namespace Go.Proofs.YtiamkgoajkfofaaDoor
open Go.ChangeShapes Go.WideShapes Go.ChangeAt Go.RowKit
theorem sessionWants_row : Rows.SessionWantsSaid := OpenClaim.holds_of_wide 6 Tryd.f6 rfl rfl rfl rfl rfl rfl rfl ⟨rfl, rfl, rfl, rfl, rfl⟩ rfl rfl rfl rfl rfl (by kernel_rfl) Tryd.func6 (by kernel_rfl) (of_decide_eq_true (by kernel_rfl)) (by unfold Func.isWrapper; first | (rw [if_pos (by decide +kernel)]; kernel_rfl) | (rw [if_neg (by decide +kernel)]; exact ⟨rfl, rfl⟩)) (fun os started H enc _ => S.sessionWants_lifted os started H enc)
theorem SessionWants : Rows.SessionWantsCardSaid :=
  Claim7.holds_tied_plain_at .later [] [.data] true (true, "2cade49ed8aae92ded5b92aa8b14d4e583aae963724ae83d5bbfe385153e8096") false
    sessionWants_row (fun _ h => by cases h) (by kernel_rfl) (fun _ h => by cases h) sessionWants_row_tie rfl ⟨rfl, rfl⟩ (by kernel_rfl) rfl
    (fun f fn hf hfn => by
      obtain rfl : f = 6 := Option.some.inj ((show Tryd.prog.funcNamed "gazetteer/gazetteerlaw21.SessionWants" = some 6 by kernel_rfl).symm.trans hf) |>.symm
      obtain rfl : fn = Tryd.f6 := (Option.some.inj (Tryd.func6.symm.trans hfn)).symm
      exact ⟨by kernel_rfl, fun j t ht => by
        rw [Tryd.params6] at ht
        have hm : t ∈ [33, 4] := by simpa using Array.mem_of_getElem? ht
        have hall : ([33, 4].all fun u => !Tryd.prog.wantsStandIn u) = true := by kernel_rfl
        exact (show Tryd.prog.wantsStandIn t = false by simpa using List.all_eq_true.1 hall t hm)⟩)
    (by kernel_rfl)
end Go.Proofs.YtiamkgoajkfofaaDoor
