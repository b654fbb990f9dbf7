/- What the row of this claim reaches. No condition. -/
import Derived.ProofKit
import Derived.LaidMore
import Derived.OpenShut
import Derived.Stop.Joined
import Derived.Laws.IdiomArrays
import Derived.Test.YtiamkgoajkfofaaDoorXRowKit
import Derived.Test.YtiamkgoajkfofaaDoorXSTab
set_option linter.unusedVariables false
set_option linter.unusedSimpArgs false
namespace Go.Proofs.YtiamkgoajkfofaaDoor
open Go.ChangeShapes Go.WideShapes Go.ChangeAt Go.WideMaps Go.WideElems Go.RowKit
def laidL {H : Type} : List (String × DataW H) := [("gazetteer/session.parts", Rows.laid_gazetteer_session_parts)]
set_option maxRecDepth 100000 in
theorem gParts : Tryd.prog.globalNamed "gazetteer/session.parts" = some 0 := by kernel_rfl
theorem tParts : (Tryd.prog.globals[0]?).map (·.type) = some 82 := by kernel_rfl
theorem cells81 : Tryd.prog.cellsOf 81 = 4 := by kernel_rfl
theorem cells3 : Tryd.prog.cellsOf 3 = 1 := by kernel_rfl
theorem row4 {H : Type} {enc : TypeId × Value → H} {w : World} {base : Nat} {spare : Nat → Bool} {held : Bool} {fuel : Nat} {cs : List Value} {x : DataW H × List MemPlace} (h : DataW.trod enc Tryd.prog w base spare held fuel 81 cs = some x) :
    ∃ k0 k1 k2 k3 : Int, cs = [.int .i64 k0, .int .i64 k1, .int .i64 k2, .int .i64 k3] ∧ x.1 = .agg [.lit (.int .i64 k0), .lit (.int .i64 k1), .lit (.int .i64 k2), .lit (.int .i64 k3)] := by
  obtain ⟨_, _, _, _, hlen, _, _⟩ := DataW.trod_array Tryd.underlying81 h
  rw [cells81] at hlen
  match cs, hlen with
  | [c0, c1, c2, c3], _ =>
    obtain ⟨y0, y1, y2, y3, n, rfl, h0, h1, h2, h3⟩ := trod_array4 Tryd.underlying81 cells3 h
    obtain ⟨k0, e0, rfl, _⟩ := DataW.trod_int Tryd.underlying3 h0
    obtain ⟨k1, e1, rfl, _⟩ := DataW.trod_int Tryd.underlying3 h1
    obtain ⟨k2, e2, rfl, _⟩ := DataW.trod_int Tryd.underlying3 h2
    obtain ⟨k3, e3, rfl, _⟩ := DataW.trod_int Tryd.underlying3 h3
    injection e0 with e0
    injection e1 with e1
    injection e2 with e2
    injection e3 with e3
    exact ⟨k0, k1, k2, k3, by rw [e0, e1, e2, e3], rfl⟩
theorem of_laid {W : World} (h : laidMetH Tryd.prog laidL W) : TabIs W := by
  rw [MakeChecks.laidMetH_plain _ _ _ (by kernel_rfl)] at h
  obtain ⟨ps, ⟨g0, t0, cs0, f0, q0, r0, hg0, ht0, hv0, hd0, _, _⟩, _, _⟩ := h
  obtain rfl := Option.some.inj (gParts.symm.trans hg0)
  obtain rfl := Option.some.inj (tParts.symm.trans ht0)
  obtain ⟨xs, m, rfl, hx, _, hn, hel⟩ := DataW.trod_array Tryd.underlying82 hd0
  simp only [Prod.mk.injEq] at hx
  have hx1 := hx.1
  unfold Rows.laid_gazetteer_session_parts at hx1
  injection hx1 with hx1
  refine ⟨fun i j hi hj => ?_⟩
  have hi7 := hel i hi
  rw [cells81] at hi7
  obtain ⟨x, hxi⟩ : ∃ x, xs[i]? = some x := ⟨xs[i]'(by omega), List.getElem?_eq_getElem (by omega)⟩
  rw [hxi] at hi7
  obtain ⟨k0, k1, k2, k3, hcs, hdat⟩ := row4 hi7
  have hd : (xs.map (·.1))[i]? = some x.1 := by rw [List.getElem?_map, hxi]; rfl
  rw [← hx1, hdat] at hd
  have hc := World.var?_cell hg0 hv0 (i * 4 + j)
  have hl : cs0[i * 4 + j]? = (((cs0.toList).drop (i * 4)).take 4)[j]? := by
    rw [List.getElem?_take_of_lt hj, List.getElem?_drop]
    simp
  rw [hc, hl, hcs]
  have hi' : i = 0 ∨ i = 1 ∨ i = 2 ∨ i = 3 ∨ i = 4 ∨ i = 5 ∨ i = 6 := by omega
  have hj' : j = 0 ∨ j = 1 ∨ j = 2 ∨ j = 3 := by omega
  rcases hi' with rfl | rfl | rfl | rfl | rfl | rfl | rfl <;> (
    simp only [List.getElem?_cons_zero, List.getElem?_cons_succ, Option.some.injEq, DataW.agg.injEq, List.cons.injEq, DataW.lit.injEq, Lit.int.injEq, true_and, and_true] at hd
    obtain ⟨rfl, rfl, rfl, rfl⟩ := hd
    rcases hj' with rfl | rfl | rfl | rfl <;> rfl)
theorem door_met (os : Os) (args : Array Value) : laidMetH Tryd.prog laidL ((World.doorLaid Tryd.prog 400 os).forCall (fun _ _ => 0) ⟨#[], args, []⟩).memory :=
  laidMetH_of_parts3 (fuel := 8) (laidMet_of_run' 8 (by kernel_rfl) (by kernel_rfl)) (by kernel_rfl) (by kernel_rfl)
set_option maxRecDepth 100000 in
theorem law_lifted_laid {H : Type} {enc : TypeId × Value → H} {f : FuncId} {fn : Func} {s : ChangeSpec} (os : Os) (started : os.Started)
    (noInit : Tryd.checked.prog.inits.idxOf? f = none) (hfn : Tryd.checked.prog.funcs[f]? = some fn) (hvars : s.vars = [])
    (hspec : ∀ ds : List (DataW H), ds.length = fn.params.toList.length → s.fn H (ds ++ []) = { results := [.lit (.bool true)], args := ds })
    (hres : fn.resultTypes = #[4])
    (htys : fn.params.toList.all (fun t => Tryd.prog.readableRec t && decide (t < Tryd.prog.types.size)) = true)
    (witness : ∃ (w : World) (tape : Tape) (i : Input), w.os = os ∧ (w.forCall tape i).Shaped Tryd.checked.prog ∧ i.vars = [] ∧ Input.okWide Tryd.checked.prog (w.forCall tape i) .any w.heap.size f i ∧
      ((s.pre enc Tryd.checked.prog fn [] false (w.forCall tape i).memory i.args ∧ laidMetH Tryd.prog laidL (w.forCall tape i).memory) ∧ sizedMet enc Tryd.checked.prog fn (OpenSpec.ofChange s) false (w.forCall tape i).memory i.args) ∧ ({} : Assume).holds Tryd.checked.prog (lone (Frame.enter Tryd.checked.prog f i.args .normal) [] (w.forCall tape i)))
    (walk : ∀ (W : World) (args : Array Value) (ds : List (DataW H)) (p : List MemPlace) (base : Nat),
      (∀ (j : Nat) t v, fn.params[j]? = some t → args[j]? = some v → Value.okWide Tryd.prog W .any base t v) →
      DataW.TrodAll enc Tryd.prog W 0 (fun _ => true) true fn.params.toList args.toList ds p → (∀ x ∈ p, x.block < W.heap.size) → TabIs W →
      Calls Tryd.prog f args W fun e W' => e = .returned (.bool true) ∧ Below W.heap.size W W') :
    ReturnsInHanded {} Tryd.checked os f .any (fun w args => (s.pre enc Tryd.prog fn [] false w args ∧ laidMetH Tryd.prog laidL w) ∧ sizedMet enc Tryd.prog fn (OpenSpec.ofChange s) false w args) (s.post enc Tryd.prog fn false true false false) := by
  refine returnsInHanded_of_change_and (C := Tryd.checked) (X := fun w _ => laidMetH Tryd.prog laidL w) (fun _ _ _ hh h => h.of_heap hh) own_knob started noInit hfn witness ?_
  intro W base args ds gs before hval hW _ _ hL _
  have hW0 := hW
  obtain ⟨p, q, hA, hV, rfl, hfz, hnd⟩ := hW
  have hA' : DataW.TrodAll enc Tryd.prog W 0 (fun _ => true) true fn.params.toList args.toList ds p := hA
  have hlt : ∀ x ∈ p, x.block < W.heap.size := fun x hx => DataW.Whole.lt (apart := false) ⟨p, q, hA, hV, rfl, hfz, fun h => by cases h⟩ x (by simp [hx])
  refine (walk W args ds p base hval hA' hlt (of_laid hL)).mono fun e W' ⟨he, hb⟩ => ?_
  subst he
  refine ⟨_, rfl, ?_⟩
  rw [hvars] at hV
  obtain ⟨rfl, rfl⟩ := trodVars_none hV
  have hlen : ds.length = fn.params.toList.length := by
    have : ∀ (ts : List TypeId) (vs : List Value) (ds : List (DataW H)) (ps : List MemPlace), DataW.TrodAll enc Tryd.prog W 0 (fun _ => true) true ts vs ds ps → ds.length = ts.length := by
      intro ts
      induction ts with
      | nil => intro vs ds ps h; obtain ⟨_, rfl, _⟩ := trodAll_nil h; rfl
      | cons t ts ih => intro vs ds ps h; obtain ⟨_, _, _, _, _, _, rfl, rfl, rfl, _, h1⟩ := trodAll_cons h; simp [ih _ _ _ h1]
    exact this _ _ _ _ hA'
  have hsp := hspec ds hlen
  refine post_below (pa := p) (pv := []) hW0 (fun _ _ _ => ?_) (fun sp hs => ?_) (fun _ _ => ?_) rfl hb ?_
  · rw [hsp, hres]; exact trodAll_mk1 (shut_bool Tryd.underlying4 _)
  · rw [hsp]; exact trodAll_keeps laid_out hb htys hA' hlt (fun x hx => hs x (by simp [hx]))
  · rw [hsp, hvars]; rfl
  · exact ok_one hres rfl (okWide_bool_mk Tryd.underlying4 _)
end Go.Proofs.YtiamkgoajkfofaaDoor
