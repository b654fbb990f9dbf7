/- What the row of this claim reaches. No condition. -/
import Derived.Test.YtknlbfandkmeiaaProg
import Derived.Below
import Derived.Deep.Draws
import Derived.Deep.AppendLies
import Derived.Maps.AppendAt
import Derived.OwnWalk
import Derived.Laws.BytesArg
import Derived.Laws.MakeOwn
import Derived.Laws.OwnMore
import Derived.Deep.OwnRows
import Derived.Tactics
import Derived.Lib.ConvBytes
import Derived.Laws.Slices
import Derived.WalkKit
import Derived.KernelRfl
import Derived.RowKit3
import Derived.Deep.LoopGhost
import Derived.Deep.QuietTactic
import Derived.BigQuiet
import Derived.WideLaws
import Derived.Deep.DeepCutAuto
import Derived.Deep.CutBlock
import Derived.Deep.RegionHeld3
import Derived.Laws.Rows
import Derived.Lib.AppendStr
import Derived.ArgAppend
import Derived.Laws.IdiomCopy
import Derived.OrdersHeld
import Derived.Laws.BitsLemmas
import Derived.RowKit
import Derived.WalkMore
import Derived.Test.YtknlbfandkmeiaaJOpen
import Derived.Test.YtknlbfandkmeiaaJSq
import Derived.Test.YtknlbfandkmeiaaJWTab
import Derived.Test.YtknlbfandkmeiaaJWEqStruct
import Derived.Test.YtknlbfandkmeiaaJWRepsOne
import Derived.Test.YtknlbfandkmeiaaJWGuard
set_option linter.unusedVariables false
set_option linter.unusedSimpArgs false
section
namespace Go.Proofs.Ytknlbfandkmeiaa.M
open Go.RowKit Go.Proofs.YtknlbfandkmeiaaW.PrintWords Go.Proofs.YtknlbfandkmeiaaW.PrintLast Go.Proofs.YtknlbfandkmeiaaW.PrintMore
attribute [local go_sem] max2_int min2_int max_two min_two max_three min_three max_four min_four   -- for this text's walks alone
def errW : Option Int → Value
  | none => .nilIface
  | some c => .iface 0 (.int .i64 c)
theorem errW_none : errW none = .nilIface := rfl
theorem errW_some (c : Int) : errW (some c) = .iface 0 (.int .i64 c) := rfl
theorem info41 : (Try.prog.info? 41).map (fun i => (i.zero, i.size, i.bytes)) = some (some (.agg #[(.int .i64 0), (.int .u64 0), (.slice none 0 0)]), 3, 40) := by kernel_rfl
theorem info51 : (Try.prog.info? 51).map (fun i => (i.zero, i.size, i.bytes)) = some (some (.agg #[(.int .u32 0), (.int .i64 0), (.int .i64 0), (.int .i64 0), (.int .i64 0), (.int .i64 0)]), 6, 48) := by kernel_rfl
structure S36 where
  f0 : Int
  f1 : Int
  f2 : Int
  f3 : Int
def z36 : S36 := ⟨(0 : Int), (0 : Int), (0 : Int), (0 : Int)⟩
def k36 : Kd S36 := Kd.iso (Kd.pair (Kd.int .i64) (Kd.pair (Kd.int .i64) (Kd.pair (Kd.int .i64) (Kd.int .i64)))) (fun x : S36 => (x.f0, x.f1, x.f2, x.f3))
theorem k36_open {w : World} {x : S36} {cs : List Value} (h : k36.K w x cs) : cs = [.int .i64 x.f0, .int .i64 x.f1, .int .i64 x.f2, .int .i64 x.f3] := by
  obtain ⟨_, _, rfl, rfl, ⟨_, _, rfl, rfl, ⟨_, _, rfl, rfl, rfl⟩⟩⟩ := h
  exact rfl
theorem k36_openM {w : World} {base : Nat} {ok : Nat → Prop} {x : S36} {cs : List Value} (h : k36.M w base ok x cs) : cs = [.int .i64 x.f0, .int .i64 x.f1, .int .i64 x.f2, .int .i64 x.f3] := by
  obtain ⟨_, _, rfl, rfl, ⟨_, _, rfl, rfl, ⟨_, _, rfl, rfl, rfl⟩⟩⟩ := h
  exact rfl
theorem k36_mk (w : World) (x : S36)  : k36.K w x [.int .i64 x.f0, .int .i64 x.f1, .int .i64 x.f2, .int .i64 x.f3] := ⟨[.int .i64 x.f0], [.int .i64 x.f1, .int .i64 x.f2, .int .i64 x.f3], rfl, rfl, ⟨[.int .i64 x.f1], [.int .i64 x.f2, .int .i64 x.f3], rfl, rfl, ⟨[.int .i64 x.f2], [.int .i64 x.f3], rfl, rfl, rfl⟩⟩⟩
theorem k36_mkM (w : World) (base : Nat) (ok : Nat → Prop) (x : S36)  : k36.M w base ok x [.int .i64 x.f0, .int .i64 x.f1, .int .i64 x.f2, .int .i64 x.f3] := ⟨[.int .i64 x.f0], [.int .i64 x.f1, .int .i64 x.f2, .int .i64 x.f3], rfl, rfl, ⟨[.int .i64 x.f1], [.int .i64 x.f2, .int .i64 x.f3], rfl, rfl, ⟨[.int .i64 x.f2], [.int .i64 x.f3], rfl, rfl, rfl⟩⟩⟩
structure S51 where
  f0 : Int
  f1 : S36
  f2 : Int
def z51 : S51 := ⟨(0 : Int), z36, (0 : Int)⟩
def k51 : Kd S51 := Kd.iso (Kd.pair (Kd.int .u32) (Kd.pair k36 (Kd.int .i64))) (fun x : S51 => (x.f0, x.f1, x.f2))
theorem k51_open {w : World} {x : S51} {cs : List Value} (h : k51.K w x cs) : cs = [.int .u32 x.f0, .int .i64 x.f1.f0, .int .i64 x.f1.f1, .int .i64 x.f1.f2, .int .i64 x.f1.f3, .int .i64 x.f2] := by
  obtain ⟨_, _, rfl, rfl, ⟨_, _, rfl, s1, rfl⟩⟩ := h
  obtain rfl := k36_open s1
  exact rfl
theorem k51_openM {w : World} {base : Nat} {ok : Nat → Prop} {x : S51} {cs : List Value} (h : k51.M w base ok x cs) : cs = [.int .u32 x.f0, .int .i64 x.f1.f0, .int .i64 x.f1.f1, .int .i64 x.f1.f2, .int .i64 x.f1.f3, .int .i64 x.f2] := by
  obtain ⟨_, _, rfl, rfl, ⟨_, _, rfl, s1, rfl⟩⟩ := h
  obtain rfl := k36_openM s1
  exact rfl
theorem k51_mk (w : World) (x : S51)  : k51.K w x [.int .u32 x.f0, .int .i64 x.f1.f0, .int .i64 x.f1.f1, .int .i64 x.f1.f2, .int .i64 x.f1.f3, .int .i64 x.f2] := ⟨[.int .u32 x.f0], [.int .i64 x.f1.f0, .int .i64 x.f1.f1, .int .i64 x.f1.f2, .int .i64 x.f1.f3, .int .i64 x.f2], rfl, rfl, ⟨[.int .i64 x.f1.f0, .int .i64 x.f1.f1, .int .i64 x.f1.f2, .int .i64 x.f1.f3], [.int .i64 x.f2], rfl, (k36_mk w x.f1 ), rfl⟩⟩
theorem k51_mkM (w : World) (base : Nat) (ok : Nat → Prop) (x : S51)  : k51.M w base ok x [.int .u32 x.f0, .int .i64 x.f1.f0, .int .i64 x.f1.f1, .int .i64 x.f1.f2, .int .i64 x.f1.f3, .int .i64 x.f2] := ⟨[.int .u32 x.f0], [.int .i64 x.f1.f0, .int .i64 x.f1.f1, .int .i64 x.f1.f2, .int .i64 x.f1.f3, .int .i64 x.f2], rfl, rfl, ⟨[.int .i64 x.f1.f0, .int .i64 x.f1.f1, .int .i64 x.f1.f2, .int .i64 x.f1.f3], [.int .i64 x.f2], rfl, (k36_mkM w base ok x.f1 ), rfl⟩⟩
def rd_T51 (xs : List S51) (i : Int) : S51 := xs.getD i.toNat z51
theorem at_T51 {w : World} {A : Option Addr} {n : Nat} {xs : List S51} (h : Kd.C k51 w A n xs) (i : Int) (h0 : 0 ≤ i) (h1 : i < n) : ∃ ad , A = some ad ∧ w.cell? (ad.add (i.toNat * 6)) = some (.int .u32 (rd_T51 xs i).f0) ∧ w.cell? ⟨(ad.add (i.toNat * 6)).block, (ad.add (i.toNat * 6)).off + 1, none⟩ = some (.int .i64 (rd_T51 xs i).f1.f0) ∧ w.cell? ⟨(ad.add (i.toNat * 6)).block, (ad.add (i.toNat * 6)).off + 2, none⟩ = some (.int .i64 (rd_T51 xs i).f1.f1) ∧ w.cell? ⟨(ad.add (i.toNat * 6)).block, (ad.add (i.toNat * 6)).off + 3, none⟩ = some (.int .i64 (rd_T51 xs i).f1.f2) ∧ w.cell? ⟨(ad.add (i.toNat * 6)).block, (ad.add (i.toNat * 6)).off + 4, none⟩ = some (.int .i64 (rd_T51 xs i).f1.f3) ∧ w.cell? ⟨(ad.add (i.toNat * 6)).block, (ad.add (i.toNat * 6)).off + 5, none⟩ = some (.int .i64 (rd_T51 xs i).f2) := by
  obtain ⟨ad, c, e, _, hK, hc0⟩ := Kd.C_get h z51 i h0 h1
  have hc : ∀ j u, c[j]? = some u → w.cell? (ad.add (i.toNat * 6 + j)) = some u := hc0
  obtain rfl := k51_open hK
  exact ⟨ad, e, hc 0 _ rfl, by rw [← add_field _ _ 1 (by omega)]; exact hc 1 _ rfl, by rw [← add_field _ _ 2 (by omega)]; exact hc 2 _ rfl, by rw [← add_field _ _ 3 (by omega)]; exact hc 3 _ rfl, by rw [← add_field _ _ 4 (by omega)]; exact hc 4 _ rfl, by rw [← add_field _ _ 5 (by omega)]; exact hc 5 _ rfl⟩
structure S24 where
  f0 : (List S51)
def k24 : Kd S24 := Kd.iso (Kd.slice 51 k51) (fun x : S24 => x.f0)
theorem k24_open {w : World} {x : S24} {cs : List Value} (h : k24.K w x cs) : ∃ A0 c0, cs = [.slice A0 x.f0.length c0] ∧ x.f0.length ≤ c0 ∧ k51.C w A0 x.f0.length x.f0 := by
  obtain ⟨A0, c0, rfl, l0, g0⟩ := h
  exact ⟨A0, c0, rfl, l0, g0⟩
structure S38 where
  f0 : Int
  f1 : Bool
  f2 : Int
  f3 : S36
  f4 : Int
def z38 : S38 := ⟨(0 : Int), false, (0 : Int), z36, (0 : Int)⟩
def k38 : Kd S38 := Kd.iso (Kd.pair (Kd.int .i64) (Kd.pair Kd.bool (Kd.pair (Kd.int .u32) (Kd.pair k36 (Kd.int .i64))))) (fun x : S38 => (x.f0, x.f1, x.f2, x.f3, x.f4))
theorem k38_open {w : World} {x : S38} {cs : List Value} (h : k38.K w x cs) : cs = [.int .i64 x.f0, .bool x.f1, .int .u32 x.f2, .int .i64 x.f3.f0, .int .i64 x.f3.f1, .int .i64 x.f3.f2, .int .i64 x.f3.f3, .int .i64 x.f4] := by
  obtain ⟨_, _, rfl, rfl, ⟨_, _, rfl, rfl, ⟨_, _, rfl, rfl, ⟨_, _, rfl, s3, rfl⟩⟩⟩⟩ := h
  obtain rfl := k36_open s3
  exact rfl
theorem k38_mkM (w : World) (base : Nat) (ok : Nat → Prop) (x : S38)  : k38.M w base ok x [.int .i64 x.f0, .bool x.f1, .int .u32 x.f2, .int .i64 x.f3.f0, .int .i64 x.f3.f1, .int .i64 x.f3.f2, .int .i64 x.f3.f3, .int .i64 x.f4] := ⟨[.int .i64 x.f0], [.bool x.f1, .int .u32 x.f2, .int .i64 x.f3.f0, .int .i64 x.f3.f1, .int .i64 x.f3.f2, .int .i64 x.f3.f3, .int .i64 x.f4], rfl, rfl, ⟨[.bool x.f1], [.int .u32 x.f2, .int .i64 x.f3.f0, .int .i64 x.f3.f1, .int .i64 x.f3.f2, .int .i64 x.f3.f3, .int .i64 x.f4], rfl, rfl, ⟨[.int .u32 x.f2], [.int .i64 x.f3.f0, .int .i64 x.f3.f1, .int .i64 x.f3.f2, .int .i64 x.f3.f3, .int .i64 x.f4], rfl, rfl, ⟨[.int .i64 x.f3.f0, .int .i64 x.f3.f1, .int .i64 x.f3.f2, .int .i64 x.f3.f3], [.int .i64 x.f4], rfl, (k36_mkM w base ok x.f3 ), rfl⟩⟩⟩⟩
def rd_T38 (xs : List S38) (i : Int) : S38 := xs.getD i.toNat z38
theorem at_T38 {w : World} {A : Option Addr} {n : Nat} {xs : List S38} (h : Kd.C k38 w A n xs) (i : Int) (h0 : 0 ≤ i) (h1 : i < n) : ∃ ad , A = some ad ∧ w.cell? (ad.add (i.toNat * 8)) = some (.int .i64 (rd_T38 xs i).f0) ∧ w.cell? ⟨(ad.add (i.toNat * 8)).block, (ad.add (i.toNat * 8)).off + 1, none⟩ = some (.bool (rd_T38 xs i).f1) ∧ w.cell? ⟨(ad.add (i.toNat * 8)).block, (ad.add (i.toNat * 8)).off + 2, none⟩ = some (.int .u32 (rd_T38 xs i).f2) ∧ w.cell? ⟨(ad.add (i.toNat * 8)).block, (ad.add (i.toNat * 8)).off + 3, none⟩ = some (.int .i64 (rd_T38 xs i).f3.f0) ∧ w.cell? ⟨(ad.add (i.toNat * 8)).block, (ad.add (i.toNat * 8)).off + 4, none⟩ = some (.int .i64 (rd_T38 xs i).f3.f1) ∧ w.cell? ⟨(ad.add (i.toNat * 8)).block, (ad.add (i.toNat * 8)).off + 5, none⟩ = some (.int .i64 (rd_T38 xs i).f3.f2) ∧ w.cell? ⟨(ad.add (i.toNat * 8)).block, (ad.add (i.toNat * 8)).off + 6, none⟩ = some (.int .i64 (rd_T38 xs i).f3.f3) ∧ w.cell? ⟨(ad.add (i.toNat * 8)).block, (ad.add (i.toNat * 8)).off + 7, none⟩ = some (.int .i64 (rd_T38 xs i).f4) := by
  obtain ⟨ad, c, e, _, hK, hc0⟩ := Kd.C_get h z38 i h0 h1
  have hc : ∀ j u, c[j]? = some u → w.cell? (ad.add (i.toNat * 8 + j)) = some u := hc0
  obtain rfl := k38_open hK
  exact ⟨ad, e, hc 0 _ rfl, by rw [← add_field _ _ 1 (by omega)]; exact hc 1 _ rfl, by rw [← add_field _ _ 2 (by omega)]; exact hc 2 _ rfl, by rw [← add_field _ _ 3 (by omega)]; exact hc 3 _ rfl, by rw [← add_field _ _ 4 (by omega)]; exact hc 4 _ rfl, by rw [← add_field _ _ 5 (by omega)]; exact hc 5 _ rfl, by rw [← add_field _ _ 6 (by omega)]; exact hc 6 _ rfl, by rw [← add_field _ _ 7 (by omega)]; exact hc 7 _ rfl⟩
structure S41 where
  f0 : Int
  f1 : Int
  f2 : (List S51)
def z41 : S41 := ⟨(0 : Int), (0 : Int), ([] : List S51)⟩
def k41 : Kd S41 := Kd.iso (Kd.pair (Kd.int .i64) (Kd.pair (Kd.int .u64) (Kd.slice 51 k51))) (fun x : S41 => (x.f0, x.f1, x.f2))
theorem k41_open {w : World} {x : S41} {cs : List Value} (h : k41.K w x cs) : ∃ A2 c2, cs = [.int .i64 x.f0, .int .u64 x.f1, .slice A2 x.f2.length c2] ∧ x.f2.length ≤ c2 ∧ k51.C w A2 x.f2.length x.f2 := by
  obtain ⟨_, _, rfl, rfl, ⟨_, _, rfl, rfl, ⟨A2, c2, rfl, l2, g2⟩⟩⟩ := h
  exact ⟨A2, c2, rfl, l2, g2⟩
theorem k41_openM {w : World} {base : Nat} {ok : Nat → Prop} {x : S41} {cs : List Value} (h : k41.M w base ok x cs) : ∃ v2, cs = [.int .i64 x.f0, .int .u64 x.f1, v2] ∧ k51.R 51 w base ok v2 x.f2 := by
  obtain ⟨_, _, rfl, rfl, ⟨_, _, rfl, rfl, ⟨v2, rfl, g2⟩⟩⟩ := h
  exact ⟨v2, rfl, g2⟩
theorem k41_mkM (w : World) (base : Nat) (ok : Nat → Prop) (x : S41) {v2 : Value} (g2 : k51.R 51 w base ok v2 x.f2) : k41.M w base ok x [.int .i64 x.f0, .int .u64 x.f1, v2] := ⟨[.int .i64 x.f0], [.int .u64 x.f1, v2], rfl, rfl, ⟨[.int .u64 x.f1], [v2], rfl, rfl, ⟨v2, rfl, g2⟩⟩⟩
def rd_T41 (xs : List S41) (i : Int) : S41 := xs.getD i.toNat z41
theorem at_T41 {w : World} {A : Option Addr} {n : Nat} {xs : List S41} (h : Kd.C k41 w A n xs) (i : Int) (h0 : 0 ≤ i) (h1 : i < n) : ∃ ad A2 c2, A = some ad ∧ w.cell? (ad.add (i.toNat * 3)) = some (.int .i64 (rd_T41 xs i).f0) ∧ w.cell? ⟨(ad.add (i.toNat * 3)).block, (ad.add (i.toNat * 3)).off + 1, none⟩ = some (.int .u64 (rd_T41 xs i).f1) ∧ w.cell? ⟨(ad.add (i.toNat * 3)).block, (ad.add (i.toNat * 3)).off + 2, none⟩ = some (.slice A2 (rd_T41 xs i).f2.length c2) ∧ (rd_T41 xs i).f2.length ≤ c2 ∧ k51.C w A2 (rd_T41 xs i).f2.length (rd_T41 xs i).f2 := by
  obtain ⟨ad, c, e, _, hK, hc0⟩ := Kd.C_get h z41 i h0 h1
  have hc : ∀ j u, c[j]? = some u → w.cell? (ad.add (i.toNat * 3 + j)) = some u := hc0
  obtain ⟨A2, c2, rfl, l2, g2⟩ := k41_open hK
  exact ⟨ad, A2, c2, e, hc 0 _ rfl, by rw [← add_field _ _ 1 (by omega)]; exact hc 1 _ rfl, by rw [← add_field _ _ 2 (by omega)]; exact hc 2 _ rfl, l2, g2⟩
end Go.Proofs.Ytknlbfandkmeiaa.M
end
section
namespace Go.Proofs.Ytknlbfandkmeiaa.M
open Go.RowKit Go.Proofs.YtknlbfandkmeiaaW.PrintWords Go.Proofs.YtknlbfandkmeiaaW.PrintLast Go.Proofs.YtknlbfandkmeiaaW.PrintMore
attribute [local go_sem] max2_int min2_int max_two min_two max_three min_three max_four min_four   -- for this text's walks alone
def gazetteerref09_Box.f (a0_0 : Int) (a0_1 : Int) (a0_2 : Int) (a0_3 : Int) : Option (Bool) := if a0_0 ≤ a0_1 then (some (decide (a0_2 ≤ a0_3))) else (some false)
set_option maxHeartbeats 8000000 in
set_option maxRecDepth 100000 in
theorem gazetteerref09_Box.calls (a0_0 : Int) (a0_1 : Int) (a0_2 : Int) (a0_3 : Int) (r : Bool) (w : World) (h : gazetteerref09_Box.f a0_0 a0_1 a0_2 a0_3 = some r) :
  Calls Try.prog 26 #[.agg #[.int .i64 a0_0,.int .i64 a0_1,.int .i64 a0_2,.int .i64 a0_3]] w fun e w' => e = .returned (.bool r)∧Below w.heap.size w w':=by
 have hu36:=Try.underlying36
 have HB:=Ak (Below.refl w.heap.size w)
 have H : (if a0_0 ≤ a0_1 then (some (decide (a0_2 ≤ a0_3))) else (some false)) = some r:=h
 clear h
 by_cases c2 : a0_0 ≤ a0_1
 ·rw [if_pos c2] at H
  have c2b0 : decide (a0_0 ≤ a0_1) = true:=decide_eq_true c2
  clear c2
  obtain rfl:=Option.some.inj H
  go_enter Try.func26,Try.ntmps26
  go_wp2_with (first|((with_reducible refine gate_dst (N:=1) rfl ?_);refine box_event ?hg (N:=1) ?hd (cs:=#[.int .i64 a0_0,.int .i64 a0_1,.int .i64 a0_2,.int .i64 a0_3]) (t:=36) ?hr ?_;(case hd => rfl);(case hg => rfl);(case hr => first|(go_simp;done)|(go_simp;rfl));intro gb163 hg w3 hbox hb;have n0_:=Ak (below_step (by repeat (first|(with_reducible first|exact HB.out|apply bA|apply bN|apply bD)|exact HB.out)) hb);have n1_:=Ak (hbox);have n2_:=Ak ((by rw [hg];exact (below_size (by repeat (first|(with_reducible first|exact HB.out|apply bA|apply bN|apply bD)|exact HB.out))) : w.heap.size ≤ gb163));have n3_:=Ak ((by rw [hg];exact (below_size (by repeat (first|(with_reducible first|exact HB.out|apply bA|apply bN|apply bD)|exact HB.out))) : w.heap.size ≤ gb163));clear HB;have HB:=n0_;have BK163:=n1_;have GW163:=n2_;have GE163:=n3_;clear n0_ n1_ n2_ n3_;clear hb hbox hg;have hcz4_0 : w3.cell? ⟨gb163,0,none⟩ = some (.int .i64 a0_0):=(kC BK163.out 0).trans rfl;have hcz4_1 : w3.cell? ⟨gb163,1,none⟩ = some (.int .i64 a0_1):=(kC BK163.out 1).trans rfl;have hcz4_2 : w3.cell? ⟨gb163,2,none⟩ = some (.int .i64 a0_2):=(kC BK163.out 2).trans rfl;have hcz4_3 : w3.cell? ⟨gb163,3,none⟩ = some (.int .i64 a0_3):=(kC BK163.out 3).trans rfl;have hfz4_0:=blk_frozen BK163.out 0;have hfz4_1:=blk_frozen BK163.out 1;have hfz4_2:=blk_frozen BK163.out 2;have hfz4_3:=blk_frozen BK163.out 3))
  go_ret
  exact ⟨by first|rfl|(simp [errW_none,errW_some] <;> rfl)|(simp [*,errW_none,errW_some] <;> rfl),by repeat (first|(with_reducible first|exact HB.out|apply bA|apply bN|apply bD|refine bS ?_ GE163.out)|exact HB.out)⟩
 ·rw [if_neg c2] at H
  have c2b0 : decide (a0_0 ≤ a0_1) = false:=decide_eq_false c2
  clear c2
  obtain rfl:=Option.some.inj H
  go_enter Try.func26,Try.ntmps26
  go_wp2_with (first|((with_reducible refine gate_dst (N:=1) rfl ?_);refine box_event ?hg (N:=1) ?hd (cs:=#[.int .i64 a0_0,.int .i64 a0_1,.int .i64 a0_2,.int .i64 a0_3]) (t:=36) ?hr ?_;(case hd => rfl);(case hg => rfl);(case hr => first|(go_simp;done)|(go_simp;rfl));intro gb163 hg w5 hbox hb;have n0_:=Ak (below_step (by repeat (first|(with_reducible first|exact HB.out|apply bA|apply bN|apply bD)|exact HB.out)) hb);have n1_:=Ak (hbox);have n2_:=Ak ((by rw [hg];exact (below_size (by repeat (first|(with_reducible first|exact HB.out|apply bA|apply bN|apply bD)|exact HB.out))) : w.heap.size ≤ gb163));have n3_:=Ak ((by rw [hg];exact (below_size (by repeat (first|(with_reducible first|exact HB.out|apply bA|apply bN|apply bD)|exact HB.out))) : w.heap.size ≤ gb163));clear HB;have HB:=n0_;have BK163:=n1_;have GW163:=n2_;have GE163:=n3_;clear n0_ n1_ n2_ n3_;clear hb hbox hg;have hcz6_0 : w5.cell? ⟨gb163,0,none⟩ = some (.int .i64 a0_0):=(kC BK163.out 0).trans rfl;have hcz6_1 : w5.cell? ⟨gb163,1,none⟩ = some (.int .i64 a0_1):=(kC BK163.out 1).trans rfl;have hcz6_2 : w5.cell? ⟨gb163,2,none⟩ = some (.int .i64 a0_2):=(kC BK163.out 2).trans rfl;have hcz6_3 : w5.cell? ⟨gb163,3,none⟩ = some (.int .i64 a0_3):=(kC BK163.out 3).trans rfl;have hfz6_0:=blk_frozen BK163.out 0;have hfz6_1:=blk_frozen BK163.out 1;have hfz6_2:=blk_frozen BK163.out 2;have hfz6_3:=blk_frozen BK163.out 3))
  go_ret
  exact ⟨by first|rfl|(simp [errW_none,errW_some] <;> rfl)|(simp [*,errW_none,errW_some] <;> rfl),by repeat (first|(with_reducible first|exact HB.out|apply bA|apply bN|apply bD|refine bS ?_ GE163.out)|exact HB.out)⟩
end Go.Proofs.Ytknlbfandkmeiaa.M
end
section
namespace Go.Proofs.Ytknlbfandkmeiaa.M
open Go.RowKit Go.Proofs.YtknlbfandkmeiaaW.PrintWords Go.Proofs.YtknlbfandkmeiaaW.PrintLast Go.Proofs.YtknlbfandkmeiaaW.PrintMore
attribute [local go_sem] max2_int min2_int max_two min_two max_three min_three max_four min_four   -- for this text's walks alone
def gazetteerref22_Class.f (a0 : Int) : Option (Bool) := if a0 ≥ 1 then (some (decide (a0 ≤ 3))) else (some false)
set_option maxHeartbeats 8000000 in
set_option maxRecDepth 100000 in
theorem gazetteerref22_Class.calls (a0 : Int) (r : Bool) (w : World) (h : gazetteerref22_Class.f a0 = some r) :
    Calls Try.prog 17 #[.int .i64 a0] w fun e w' => e = .returned (.bool r) ∧ Drawn0 w w' := by
  have H : (if a0 ≥ 1 then (some (decide (a0 ≤ 3))) else (some false)) = some r := h
  clear h
  by_cases c2 : a0 ≥ 1
  · rw [if_pos c2] at H
    have c2b0 : decide (1 ≤ a0) = true := decide_eq_true c2
    clear c2
    obtain rfl := Option.some.inj H
    go_enter Try.func17, Try.ntmps17
    go_wp2
    go_ret
    exact ⟨by first | rfl | (simp; done) | (simp [*]; done), by repeat (first | exact Drawn0.refl _ | apply Drawn0.step)⟩
  · rw [if_neg c2] at H
    have c2b0 : decide (1 ≤ a0) = false := decide_eq_false c2
    clear c2
    obtain rfl := Option.some.inj H
    go_enter Try.func17, Try.ntmps17
    go_wp2
    go_ret
    exact ⟨by first | rfl | (simp; done) | (simp [*]; done), by repeat (first | exact Drawn0.refl _ | apply Drawn0.step)⟩
def gazetteerref09_inside.f (a0 : Int) (a1 : Int) (a2 : Int) : Option (Bool) := if a0 ≤ a2 then (some (decide (a2 ≤ a1))) else (some false)
set_option maxHeartbeats 8000000 in
set_option maxRecDepth 100000 in
theorem gazetteerref09_inside.calls (a0 : Int) (a1 : Int) (a2 : Int) (r : Bool) (w : World) (h : gazetteerref09_inside.f a0 a1 a2 = some r) :
    Calls Try.prog 73 #[.int .i64 a0, .int .i64 a1, .int .i64 a2] w fun e w' => e = .returned (.bool r) ∧ Drawn0 w w' := by
  have H : (if a0 ≤ a2 then (some (decide (a2 ≤ a1))) else (some false)) = some r := h
  clear h
  by_cases c4 : a0 ≤ a2
  · rw [if_pos c4] at H
    have c4b0 : decide (a0 ≤ a2) = true := decide_eq_true c4
    clear c4
    obtain rfl := Option.some.inj H
    go_enter Try.func73, Try.ntmps73
    go_wp2
    go_ret
    exact ⟨by first | rfl | (simp; done) | (simp [*]; done), by repeat (first | exact Drawn0.refl _ | apply Drawn0.step)⟩
  · rw [if_neg c4] at H
    have c4b0 : decide (a0 ≤ a2) = false := decide_eq_false c4
    clear c4
    obtain rfl := Option.some.inj H
    go_enter Try.func73, Try.ntmps73
    go_wp2
    go_ret
    exact ⟨by first | rfl | (simp; done) | (simp [*]; done), by repeat (first | exact Drawn0.refl _ | apply Drawn0.step)⟩
mutual
def gazetteerref09_Meets.j0 : Nat → Bool → Int → Int → Int → Int → Int → Int → Int → Int → Option (Bool)
  | 0, _, _, _, _, _, _, _, _, _ => none
  | k + 1, x14, x171000, x171001, x171002, x171003, x172000, x172001, x172002, x172003 => if x14 = true then (some false) else (if x172000 > x171000 then (gazetteerref09_Meets.j1 k x172000 x171002 x171000 x171001 x171002 x171003 x172000 x172001 x172002 x172003) else (gazetteerref09_Meets.j1 k x171000 x171002 x171000 x171001 x171002 x171003 x172000 x172001 x172002 x172003))
def gazetteerref09_Meets.j1 : Nat → Int → Int → Int → Int → Int → Int → Int → Int → Int → Int → Option (Bool)
  | 0, _, _, _, _, _, _, _, _, _, _ => none
  | k + 1, x5, x6, x171000, x171001, x171002, x171003, x172000, x172001, x172002, x172003 => if x172002 > x6 then (gazetteerref09_Meets.j2 k x5 x172002 x171000 x171001 x171002 x171003 x172000 x172001 x172002 x172003) else (gazetteerref09_Meets.j2 k x5 x6 x171000 x171001 x171002 x171003 x172000 x172001 x172002 x172003)
def gazetteerref09_Meets.j2 : Nat → Int → Int → Int → Int → Int → Int → Int → Int → Int → Int → Option (Bool)
  | 0, _, _, _, _, _, _, _, _, _, _ => none
  | k + 1, x5, x6, x171000, x171001, x171002, x171003, x172000, x172001, x172002, x172003 => (gazetteerref09_inside.f x171000 x171001 x5).bind fun t174 => (if t174 = true then ((gazetteerref09_inside.f x172000 x172001 x5).bind fun t175 => (if t175 = true then ((gazetteerref09_inside.f x171002 x171003 x6).bind fun t176 => (if t176 = true then ((gazetteerref09_inside.f x172002 x172003 x6).bind fun t177 => (some t177)) else (some false))) else (some false))) else (some false))
end
def gazetteerref09_Meets.f (k : Nat) (a0_0 : Int) (a0_1 : Int) (a0_2 : Int) (a0_3 : Int) (a1_0 : Int) (a1_1 : Int) (a1_2 : Int) (a1_3 : Int) : Option (Bool) := (gazetteerref09_Box.f a0_0 a0_1 a0_2 a0_3).bind fun t172 => (if t172 = true then ((gazetteerref09_Box.f a1_0 a1_1 a1_2 a1_3).bind fun t173 => (gazetteerref09_Meets.j0 k (!t173) a0_0 a0_1 a0_2 a0_3 a1_0 a1_1 a1_2 a1_3)) else (gazetteerref09_Meets.j0 k true a0_0 a0_1 a0_2 a0_3 a1_0 a1_1 a1_2 a1_3))
set_option maxHeartbeats 8000000 in
set_option maxRecDepth 100000 in
theorem gazetteerref09_Meets.calls (k : Nat) (a0_0 : Int) (a0_1 : Int) (a0_2 : Int) (a0_3 : Int) (a1_0 : Int) (a1_1 : Int) (a1_2 : Int) (a1_3 : Int) (r : Bool) (w : World) (h : gazetteerref09_Meets.f k a0_0 a0_1 a0_2 a0_3 a1_0 a1_1 a1_2 a1_3 = some r) :
  Calls Try.prog 52 #[.agg #[.int .i64 a0_0,.int .i64 a0_1,.int .i64 a0_2,.int .i64 a0_3],.agg #[.int .i64 a1_0,.int .i64 a1_1,.int .i64 a1_2,.int .i64 a1_3]] w fun e w' => e = .returned (.bool r)∧Below w.heap.size w w':=by
 have hu36:=Try.underlying36
 have HB:=Ak (Below.refl w.heap.size w)
 have H : ((gazetteerref09_Box.f a0_0 a0_1 a0_2 a0_3).bind fun t172 => (if t172 = true then ((gazetteerref09_Box.f a1_0 a1_1 a1_2 a1_3).bind fun t173 => (gazetteerref09_Meets.j0 k (!t173) a0_0 a0_1 a0_2 a0_3 a1_0 a1_1 a1_2 a1_3)) else (gazetteerref09_Meets.j0 k true a0_0 a0_1 a0_2 a0_3 a1_0 a1_1 a1_2 a1_3))) = some r:=h
 clear h
 have HC3:=Ak H
 clear H
 go_enter Try.func52,Try.ntmps52
 go_upto_region 1 with (first|((with_reducible refine gate_dst (N:=2) rfl ?_);refine box_event ?hg (N:=2) ?hd (cs:=#[.int .i64 a0_0,.int .i64 a0_1,.int .i64 a0_2,.int .i64 a0_3]) (t:=36) ?hr ?_;(case hd => rfl);(case hg => rfl);(case hr => first|(go_simp;done)|(go_simp;rfl));intro gb170 hg w4 hbox hb;have n0_:=Ak (below_step (by repeat (first|(with_reducible first|exact HB.out|apply bA|apply bN|apply bD)|exact HB.out)) hb);have n1_:=Ak (hbox);have n2_:=Ak ((by rw [hg];exact (below_size (by repeat (first|(with_reducible first|exact HB.out|apply bA|apply bN|apply bD)|exact HB.out))) : w.heap.size ≤ gb170));have n3_:=Ak ((by rw [hg];exact (below_size (by repeat (first|(with_reducible first|exact HB.out|apply bA|apply bN|apply bD)|exact HB.out))) : w.heap.size ≤ gb170));clear HB;have HB:=n0_;have BK170:=n1_;have GW170:=n2_;have GE170:=n3_;clear n0_ n1_ n2_ n3_;clear hb hbox hg)|((with_reducible refine gate_dst (N:=3) rfl ?_);refine box_event ?hg (N:=3) ?hd (cs:=#[.int .i64 a1_0,.int .i64 a1_1,.int .i64 a1_2,.int .i64 a1_3]) (t:=36) ?hr ?_;(case hd => rfl);(case hg => rfl);(case hr => first|(go_simp;done)|(go_simp;rfl));intro gb171 hg w5 hbox hb;have n0_:=Ak (kB (g:=gb170) (o:=.cells #[.int .i64 a0_0,.int .i64 a0_1,.int .i64 a0_2,.int .i64 a0_3] 36 (0,0)) (by (with_reducible repeat (first|refine kN ?_ _|refine kD ?_|refine kA ?_ _));exact BK170.out) hb);have n1_:=Ak (below_step (by repeat (first|(with_reducible first|exact HB.out|apply bA|apply bN|apply bD|refine bS ?_ GE170.out)|exact HB.out)) hb);have n2_:=Ak (hbox);have n3_:=Ak ((by rw [hg];exact (below_size (by repeat (first|(with_reducible first|exact HB.out|apply bA|apply bN|apply bD|refine bS ?_ GE170.out)|exact HB.out))) : w.heap.size ≤ gb171));have n4_:=Ak ((by rw [hg];exact (below_size (by repeat (first|(with_reducible first|exact HB.out|apply bA|apply bN|apply bD|refine bS ?_ GE170.out)|exact HB.out))) : w.heap.size ≤ gb171));have n5_:=Ak ((by rw [hg];exact Nat.ne_of_lt (blk_lt (g:=gb170) (o:=.cells #[.int .i64 a0_0,.int .i64 a0_1,.int .i64 a0_2,.int .i64 a0_3] 36 (0,0)) (by (with_reducible repeat (first|refine kN ?_ _|refine kD ?_|refine kA ?_ _));exact BK170.out)) : gb170 ≠ gb171));have n6_:=Ak ((by rw [hg];exact Nat.ne_of_gt (blk_lt (g:=gb170) (o:=.cells #[.int .i64 a0_0,.int .i64 a0_1,.int .i64 a0_2,.int .i64 a0_3] 36 (0,0)) (by (with_reducible repeat (first|refine kN ?_ _|refine kD ?_|refine kA ?_ _));exact BK170.out)) : gb171 ≠ gb170));clear BK170;clear HB;have BK170:=n0_;have HB:=n1_;have BK171:=n2_;have GW171:=n3_;have GE171:=n4_;have NB170_171:=n5_;have NB171_170:=n6_;clear n0_ n1_ n2_ n3_ n4_ n5_ n6_;clear hb hbox hg))
 repeat (go_quiet (first|((with_reducible refine gate_dst (N:=2) rfl ?_);refine box_event ?hg (N:=2) ?hd (cs:=#[.int .i64 a0_0,.int .i64 a0_1,.int .i64 a0_2,.int .i64 a0_3]) (t:=36) ?hr ?_;(case hd => rfl);(case hg => rfl);(case hr => first|(go_simp;done)|(go_simp;rfl));intro gb170 hg w4 hbox hb;have n0_:=Ak (below_step (by repeat (first|(with_reducible first|exact HB.out|apply bA|apply bN|apply bD)|exact HB.out)) hb);have n1_:=Ak (hbox);have n2_:=Ak ((by rw [hg];exact (below_size (by repeat (first|(with_reducible first|exact HB.out|apply bA|apply bN|apply bD)|exact HB.out))) : w.heap.size ≤ gb170));have n3_:=Ak ((by rw [hg];exact (below_size (by repeat (first|(with_reducible first|exact HB.out|apply bA|apply bN|apply bD)|exact HB.out))) : w.heap.size ≤ gb170));clear HB;have HB:=n0_;have BK170:=n1_;have GW170:=n2_;have GE170:=n3_;clear n0_ n1_ n2_ n3_;clear hb hbox hg)|((with_reducible refine gate_dst (N:=3) rfl ?_);refine box_event ?hg (N:=3) ?hd (cs:=#[.int .i64 a1_0,.int .i64 a1_1,.int .i64 a1_2,.int .i64 a1_3]) (t:=36) ?hr ?_;(case hd => rfl);(case hg => rfl);(case hr => first|(go_simp;done)|(go_simp;rfl));intro gb171 hg w5 hbox hb;have n0_:=Ak (kB (g:=gb170) (o:=.cells #[.int .i64 a0_0,.int .i64 a0_1,.int .i64 a0_2,.int .i64 a0_3] 36 (0,0)) (by (with_reducible repeat (first|refine kN ?_ _|refine kD ?_|refine kA ?_ _));exact BK170.out) hb);have n1_:=Ak (below_step (by repeat (first|(with_reducible first|exact HB.out|apply bA|apply bN|apply bD|refine bS ?_ GE170.out)|exact HB.out)) hb);have n2_:=Ak (hbox);have n3_:=Ak ((by rw [hg];exact (below_size (by repeat (first|(with_reducible first|exact HB.out|apply bA|apply bN|apply bD|refine bS ?_ GE170.out)|exact HB.out))) : w.heap.size ≤ gb171));have n4_:=Ak ((by rw [hg];exact (below_size (by repeat (first|(with_reducible first|exact HB.out|apply bA|apply bN|apply bD|refine bS ?_ GE170.out)|exact HB.out))) : w.heap.size ≤ gb171));have n5_:=Ak ((by rw [hg];exact Nat.ne_of_lt (blk_lt (g:=gb170) (o:=.cells #[.int .i64 a0_0,.int .i64 a0_1,.int .i64 a0_2,.int .i64 a0_3] 36 (0,0)) (by (with_reducible repeat (first|refine kN ?_ _|refine kD ?_|refine kA ?_ _));exact BK170.out)) : gb170 ≠ gb171));have n6_:=Ak ((by rw [hg];exact Nat.ne_of_gt (blk_lt (g:=gb170) (o:=.cells #[.int .i64 a0_0,.int .i64 a0_1,.int .i64 a0_2,.int .i64 a0_3] 36 (0,0)) (by (with_reducible repeat (first|refine kN ?_ _|refine kD ?_|refine kA ?_ _));exact BK170.out)) : gb171 ≠ gb170));clear BK170;clear HB;have BK170:=n0_;have HB:=n1_;have BK171:=n2_;have GW171:=n3_;have GE171:=n4_;have NB170_171:=n5_;have NB171_170:=n6_;clear n0_ n1_ n2_ n3_ n4_ n5_ n6_;clear hb hbox hg));go_upto_region 1 with (first|((with_reducible refine gate_dst (N:=2) rfl ?_);refine box_event ?hg (N:=2) ?hd (cs:=#[.int .i64 a0_0,.int .i64 a0_1,.int .i64 a0_2,.int .i64 a0_3]) (t:=36) ?hr ?_;(case hd => rfl);(case hg => rfl);(case hr => first|(go_simp;done)|(go_simp;rfl));intro gb170 hg w4 hbox hb;have n0_:=Ak (below_step (by repeat (first|(with_reducible first|exact HB.out|apply bA|apply bN|apply bD)|exact HB.out)) hb);have n1_:=Ak (hbox);have n2_:=Ak ((by rw [hg];exact (below_size (by repeat (first|(with_reducible first|exact HB.out|apply bA|apply bN|apply bD)|exact HB.out))) : w.heap.size ≤ gb170));have n3_:=Ak ((by rw [hg];exact (below_size (by repeat (first|(with_reducible first|exact HB.out|apply bA|apply bN|apply bD)|exact HB.out))) : w.heap.size ≤ gb170));clear HB;have HB:=n0_;have BK170:=n1_;have GW170:=n2_;have GE170:=n3_;clear n0_ n1_ n2_ n3_;clear hb hbox hg)|((with_reducible refine gate_dst (N:=3) rfl ?_);refine box_event ?hg (N:=3) ?hd (cs:=#[.int .i64 a1_0,.int .i64 a1_1,.int .i64 a1_2,.int .i64 a1_3]) (t:=36) ?hr ?_;(case hd => rfl);(case hg => rfl);(case hr => first|(go_simp;done)|(go_simp;rfl));intro gb171 hg w5 hbox hb;have n0_:=Ak (kB (g:=gb170) (o:=.cells #[.int .i64 a0_0,.int .i64 a0_1,.int .i64 a0_2,.int .i64 a0_3] 36 (0,0)) (by (with_reducible repeat (first|refine kN ?_ _|refine kD ?_|refine kA ?_ _));exact BK170.out) hb);have n1_:=Ak (below_step (by repeat (first|(with_reducible first|exact HB.out|apply bA|apply bN|apply bD|refine bS ?_ GE170.out)|exact HB.out)) hb);have n2_:=Ak (hbox);have n3_:=Ak ((by rw [hg];exact (below_size (by repeat (first|(with_reducible first|exact HB.out|apply bA|apply bN|apply bD|refine bS ?_ GE170.out)|exact HB.out))) : w.heap.size ≤ gb171));have n4_:=Ak ((by rw [hg];exact (below_size (by repeat (first|(with_reducible first|exact HB.out|apply bA|apply bN|apply bD|refine bS ?_ GE170.out)|exact HB.out))) : w.heap.size ≤ gb171));have n5_:=Ak ((by rw [hg];exact Nat.ne_of_lt (blk_lt (g:=gb170) (o:=.cells #[.int .i64 a0_0,.int .i64 a0_1,.int .i64 a0_2,.int .i64 a0_3] 36 (0,0)) (by (with_reducible repeat (first|refine kN ?_ _|refine kD ?_|refine kA ?_ _));exact BK170.out)) : gb170 ≠ gb171));have n6_:=Ak ((by rw [hg];exact Nat.ne_of_gt (blk_lt (g:=gb170) (o:=.cells #[.int .i64 a0_0,.int .i64 a0_1,.int .i64 a0_2,.int .i64 a0_3] 36 (0,0)) (by (with_reducible repeat (first|refine kN ?_ _|refine kD ?_|refine kA ?_ _));exact BK170.out)) : gb171 ≠ gb170));clear BK170;clear HB;have BK170:=n0_;have HB:=n1_;have BK171:=n2_;have GW171:=n3_;have GE171:=n4_;have NB170_171:=n5_;have NB171_170:=n6_;clear n0_ n1_ n2_ n3_ n4_ n5_ n6_;clear hb hbox hg)))
 (try simp only [Act.put,sA,sZ,sS])
 go_cut [14] (fun v14 wc => ∃ (kq : Nat) (x14_2 : Bool),v14 = .bool x14_2∧Aside0 (gazetteerref09_Meets.j0 kq x14_2 a0_0 a0_1 a0_2 a0_3 a1_0 a1_1 a1_2 a1_3 = some r)∧Aside0 (kq ≤ k)∧Aside0 (wc.heap[gb170]? = some (.cells #[.int .i64 a0_0,.int .i64 a0_1,.int .i64 a0_2,.int .i64 a0_3] 36 (0,0)))∧Aside0 (wc.heap[gb171]? = some (.cells #[.int .i64 a1_0,.int .i64 a1_1,.int .i64 a1_2,.int .i64 a1_3] 36 (0,0)))∧Aside0 (Below w.heap.size w wc))
 case first =>
  have H:=HC3.out
  clear HC3
  replace H:=Option.bind_eq_some_iff.mp H
  obtain ⟨t172,A60,H⟩:=H
  replace H : (if t172 = true then ((gazetteerref09_Box.f a1_0 a1_1 a1_2 a1_3).bind fun t173 => (gazetteerref09_Meets.j0 k (!t173) a0_0 a0_1 a0_2 a0_3 a1_0 a1_1 a1_2 a1_3)) else (gazetteerref09_Meets.j0 k true a0_0 a0_1 a0_2 a0_3 a1_0 a1_1 a1_2 a1_3)) = some r:=H
  have A6:=Ak A60
  clear A60
  by_cases c7 : t172 = true
  ·subst c7
   have H1 : ((gazetteerref09_Box.f a1_0 a1_1 a1_2 a1_3).bind fun t173 => (gazetteerref09_Meets.j0 k (!t173) a0_0 a0_1 a0_2 a0_3 a1_0 a1_1 a1_2 a1_3)) = some r:=by rw [if_pos rfl] at H;exact H
   clear H
   have H:=H1
   clear H1
   replace H:=Option.bind_eq_some_iff.mp H
   obtain ⟨t173,A80,H⟩:=H
   replace H : (gazetteerref09_Meets.j0 k (!t173) a0_0 a0_1 a0_2 a0_3 a1_0 a1_1 a1_2 a1_3) = some r:=H
   have A8:=Ak A80
   clear A80
   have H':=Ak H
   clear H
   have hnb9:=NB170_171.out
   have hnc9:=NB171_170.out
   have hcz10_0 : w5.cell? ⟨gb170,0,none⟩ = some (.int .i64 a0_0):=(kC BK170.out 0).trans rfl
   have hcz10_1 : w5.cell? ⟨gb170,1,none⟩ = some (.int .i64 a0_1):=(kC BK170.out 1).trans rfl
   have hcz10_2 : w5.cell? ⟨gb170,2,none⟩ = some (.int .i64 a0_2):=(kC BK170.out 2).trans rfl
   have hcz10_3 : w5.cell? ⟨gb170,3,none⟩ = some (.int .i64 a0_3):=(kC BK170.out 3).trans rfl
   have hfz10_0:=blk_frozen BK170.out 0
   have hfz10_1:=blk_frozen BK170.out 1
   have hfz10_2:=blk_frozen BK170.out 2
   have hfz10_3:=blk_frozen BK170.out 3
   go_wp2_with (first|(go_at_call 26;(with_reducible refine (gazetteerref09_Box.calls a0_0 a0_1 a0_2 a0_3 true _ A6.out).mono ?_);rintro e w11 ⟨rfl,hb⟩;have n0_:=Ak (kB (g:=gb170) (o:=.cells #[.int .i64 a0_0,.int .i64 a0_1,.int .i64 a0_2,.int .i64 a0_3] 36 (0,0)) (by (with_reducible repeat (first|refine kN ?_ _|refine kD ?_|refine kA ?_ _));exact BK170.out) hb);have n1_:=Ak (kB (g:=gb171) (o:=.cells #[.int .i64 a1_0,.int .i64 a1_1,.int .i64 a1_2,.int .i64 a1_3] 36 (0,0)) (by (with_reducible repeat (first|refine kN ?_ _|refine kD ?_|refine kA ?_ _));exact BK171.out) hb);have n2_:=Ak (below_step (by repeat (first|(with_reducible first|exact HB.out|apply bA|apply bN|apply bD|refine bS ?_ GE170.out|refine bS ?_ GE171.out)|exact HB.out)) hb);clear BK170;clear BK171;clear HB;have BK170:=n0_;have BK171:=n1_;have HB:=n2_;clear n0_ n1_ n2_;(try clear hb);(try clear hb2);(try clear hk);(try clear hi);have hcz12_0 : w11.cell? ⟨gb171,0,none⟩ = some (.int .i64 a1_0):=(kC BK171.out 0).trans rfl;have hcz12_1 : w11.cell? ⟨gb171,1,none⟩ = some (.int .i64 a1_1):=(kC BK171.out 1).trans rfl;have hcz12_2 : w11.cell? ⟨gb171,2,none⟩ = some (.int .i64 a1_2):=(kC BK171.out 2).trans rfl;have hcz12_3 : w11.cell? ⟨gb171,3,none⟩ = some (.int .i64 a1_3):=(kC BK171.out 3).trans rfl;have hfz12_0:=blk_frozen BK171.out 0;have hfz12_1:=blk_frozen BK171.out 1;have hfz12_2:=blk_frozen BK171.out 2;have hfz12_3:=blk_frozen BK171.out 3)|(go_at_call 26;(with_reducible refine (gazetteerref09_Box.calls a1_0 a1_1 a1_2 a1_3 t173 _ A8.out).mono ?_);rintro e w13 ⟨rfl,hb⟩;have n0_:=Ak (kB (g:=gb170) (o:=.cells #[.int .i64 a0_0,.int .i64 a0_1,.int .i64 a0_2,.int .i64 a0_3] 36 (0,0)) (by (with_reducible repeat (first|refine kN ?_ _|refine kD ?_|refine kA ?_ _));exact BK170.out) hb);have n1_:=Ak (kB (g:=gb171) (o:=.cells #[.int .i64 a1_0,.int .i64 a1_1,.int .i64 a1_2,.int .i64 a1_3] 36 (0,0)) (by (with_reducible repeat (first|refine kN ?_ _|refine kD ?_|refine kA ?_ _));exact BK171.out) hb);have n2_:=Ak (below_step (by repeat (first|(with_reducible first|exact HB.out|apply bA|apply bN|apply bD|refine bS ?_ GE170.out|refine bS ?_ GE171.out)|exact HB.out)) hb);clear BK170;clear BK171;clear HB;have BK170:=n0_;have BK171:=n1_;have HB:=n2_;clear n0_ n1_ n2_;(try clear hb);(try clear hb2);(try clear hk);(try clear hi)))
   repeat (go_quiet (first|(go_at_call 26;(with_reducible refine (gazetteerref09_Box.calls a0_0 a0_1 a0_2 a0_3 true _ A6.out).mono ?_);rintro e w11 ⟨rfl,hb⟩;have n0_:=Ak (kB (g:=gb170) (o:=.cells #[.int .i64 a0_0,.int .i64 a0_1,.int .i64 a0_2,.int .i64 a0_3] 36 (0,0)) (by (with_reducible repeat (first|refine kN ?_ _|refine kD ?_|refine kA ?_ _));exact BK170.out) hb);have n1_:=Ak (kB (g:=gb171) (o:=.cells #[.int .i64 a1_0,.int .i64 a1_1,.int .i64 a1_2,.int .i64 a1_3] 36 (0,0)) (by (with_reducible repeat (first|refine kN ?_ _|refine kD ?_|refine kA ?_ _));exact BK171.out) hb);have n2_:=Ak (below_step (by repeat (first|(with_reducible first|exact HB.out|apply bA|apply bN|apply bD|refine bS ?_ GE170.out|refine bS ?_ GE171.out)|exact HB.out)) hb);clear BK170;clear BK171;clear HB;have BK170:=n0_;have BK171:=n1_;have HB:=n2_;clear n0_ n1_ n2_;(try clear hb);(try clear hb2);(try clear hk);(try clear hi);have hcz12_0 : w11.cell? ⟨gb171,0,none⟩ = some (.int .i64 a1_0):=(kC BK171.out 0).trans rfl;have hcz12_1 : w11.cell? ⟨gb171,1,none⟩ = some (.int .i64 a1_1):=(kC BK171.out 1).trans rfl;have hcz12_2 : w11.cell? ⟨gb171,2,none⟩ = some (.int .i64 a1_2):=(kC BK171.out 2).trans rfl;have hcz12_3 : w11.cell? ⟨gb171,3,none⟩ = some (.int .i64 a1_3):=(kC BK171.out 3).trans rfl;have hfz12_0:=blk_frozen BK171.out 0;have hfz12_1:=blk_frozen BK171.out 1;have hfz12_2:=blk_frozen BK171.out 2;have hfz12_3:=blk_frozen BK171.out 3)|(go_at_call 26;(with_reducible refine (gazetteerref09_Box.calls a1_0 a1_1 a1_2 a1_3 t173 _ A8.out).mono ?_);rintro e w13 ⟨rfl,hb⟩;have n0_:=Ak (kB (g:=gb170) (o:=.cells #[.int .i64 a0_0,.int .i64 a0_1,.int .i64 a0_2,.int .i64 a0_3] 36 (0,0)) (by (with_reducible repeat (first|refine kN ?_ _|refine kD ?_|refine kA ?_ _));exact BK170.out) hb);have n1_:=Ak (kB (g:=gb171) (o:=.cells #[.int .i64 a1_0,.int .i64 a1_1,.int .i64 a1_2,.int .i64 a1_3] 36 (0,0)) (by (with_reducible repeat (first|refine kN ?_ _|refine kD ?_|refine kA ?_ _));exact BK171.out) hb);have n2_:=Ak (below_step (by repeat (first|(with_reducible first|exact HB.out|apply bA|apply bN|apply bD|refine bS ?_ GE170.out|refine bS ?_ GE171.out)|exact HB.out)) hb);clear BK170;clear BK171;clear HB;have BK170:=n0_;have BK171:=n1_;have HB:=n2_;clear n0_ n1_ n2_;(try clear hb);(try clear hb2);(try clear hk);(try clear hi)));try go_wp2_with (first|(go_at_call 26;(with_reducible refine (gazetteerref09_Box.calls a0_0 a0_1 a0_2 a0_3 true _ A6.out).mono ?_);rintro e w11 ⟨rfl,hb⟩;have n0_:=Ak (kB (g:=gb170) (o:=.cells #[.int .i64 a0_0,.int .i64 a0_1,.int .i64 a0_2,.int .i64 a0_3] 36 (0,0)) (by (with_reducible repeat (first|refine kN ?_ _|refine kD ?_|refine kA ?_ _));exact BK170.out) hb);have n1_:=Ak (kB (g:=gb171) (o:=.cells #[.int .i64 a1_0,.int .i64 a1_1,.int .i64 a1_2,.int .i64 a1_3] 36 (0,0)) (by (with_reducible repeat (first|refine kN ?_ _|refine kD ?_|refine kA ?_ _));exact BK171.out) hb);have n2_:=Ak (below_step (by repeat (first|(with_reducible first|exact HB.out|apply bA|apply bN|apply bD|refine bS ?_ GE170.out|refine bS ?_ GE171.out)|exact HB.out)) hb);clear BK170;clear BK171;clear HB;have BK170:=n0_;have BK171:=n1_;have HB:=n2_;clear n0_ n1_ n2_;(try clear hb);(try clear hb2);(try clear hk);(try clear hi);have hcz12_0 : w11.cell? ⟨gb171,0,none⟩ = some (.int .i64 a1_0):=(kC BK171.out 0).trans rfl;have hcz12_1 : w11.cell? ⟨gb171,1,none⟩ = some (.int .i64 a1_1):=(kC BK171.out 1).trans rfl;have hcz12_2 : w11.cell? ⟨gb171,2,none⟩ = some (.int .i64 a1_2):=(kC BK171.out 2).trans rfl;have hcz12_3 : w11.cell? ⟨gb171,3,none⟩ = some (.int .i64 a1_3):=(kC BK171.out 3).trans rfl;have hfz12_0:=blk_frozen BK171.out 0;have hfz12_1:=blk_frozen BK171.out 1;have hfz12_2:=blk_frozen BK171.out 2;have hfz12_3:=blk_frozen BK171.out 3)|(go_at_call 26;(with_reducible refine (gazetteerref09_Box.calls a1_0 a1_1 a1_2 a1_3 t173 _ A8.out).mono ?_);rintro e w13 ⟨rfl,hb⟩;have n0_:=Ak (kB (g:=gb170) (o:=.cells #[.int .i64 a0_0,.int .i64 a0_1,.int .i64 a0_2,.int .i64 a0_3] 36 (0,0)) (by (with_reducible repeat (first|refine kN ?_ _|refine kD ?_|refine kA ?_ _));exact BK170.out) hb);have n1_:=Ak (kB (g:=gb171) (o:=.cells #[.int .i64 a1_0,.int .i64 a1_1,.int .i64 a1_2,.int .i64 a1_3] 36 (0,0)) (by (with_reducible repeat (first|refine kN ?_ _|refine kD ?_|refine kA ?_ _));exact BK171.out) hb);have n2_:=Ak (below_step (by repeat (first|(with_reducible first|exact HB.out|apply bA|apply bN|apply bD|refine bS ?_ GE170.out|refine bS ?_ GE171.out)|exact HB.out)) hb);clear BK170;clear BK171;clear HB;have BK170:=n0_;have BK171:=n1_;have HB:=n2_;clear n0_ n1_ n2_;(try clear hb);(try clear hb2);(try clear hk);(try clear hi))))
   go_meet
   case rel => exact ⟨_,(!t173),(by first|rfl|(simp;done)|(simp [*];done)),H',⟨by first|omega|exact Nat.le_refl _⟩,⟨by (with_reducible repeat (first|refine kN ?_ _|refine kD ?_|refine kA ?_ _));exact BK170.out⟩,⟨by (with_reducible repeat (first|refine kN ?_ _|refine kD ?_|refine kA ?_ _));exact BK171.out⟩,⟨by repeat (first|(with_reducible first|exact HB.out|apply bA|apply bN|apply bD|refine bS ?_ GE170.out|refine bS ?_ GE171.out)|exact HB.out)⟩⟩
  ·replace c7:=Bool.eq_false_iff.mpr c7
   subst c7
   have H1 : (gazetteerref09_Meets.j0 k true a0_0 a0_1 a0_2 a0_3 a1_0 a1_1 a1_2 a1_3) = some r:=by rw [if_neg (show ¬ (false = true) by decide)] at H;exact H
   clear H
   have H:=H1
   clear H1
   have H':=Ak H
   clear H
   have hnb14:=NB170_171.out
   have hnc14:=NB171_170.out
   have hcz15_0 : w5.cell? ⟨gb170,0,none⟩ = some (.int .i64 a0_0):=(kC BK170.out 0).trans rfl
   have hcz15_1 : w5.cell? ⟨gb170,1,none⟩ = some (.int .i64 a0_1):=(kC BK170.out 1).trans rfl
   have hcz15_2 : w5.cell? ⟨gb170,2,none⟩ = some (.int .i64 a0_2):=(kC BK170.out 2).trans rfl
   have hcz15_3 : w5.cell? ⟨gb170,3,none⟩ = some (.int .i64 a0_3):=(kC BK170.out 3).trans rfl
   have hfz15_0:=blk_frozen BK170.out 0
   have hfz15_1:=blk_frozen BK170.out 1
   have hfz15_2:=blk_frozen BK170.out 2
   have hfz15_3:=blk_frozen BK170.out 3
   go_wp2_with (first|(go_at_call 26;(with_reducible refine (gazetteerref09_Box.calls a0_0 a0_1 a0_2 a0_3 false _ A6.out).mono ?_);rintro e w16 ⟨rfl,hb⟩;have n0_:=Ak (kB (g:=gb170) (o:=.cells #[.int .i64 a0_0,.int .i64 a0_1,.int .i64 a0_2,.int .i64 a0_3] 36 (0,0)) (by (with_reducible repeat (first|refine kN ?_ _|refine kD ?_|refine kA ?_ _));exact BK170.out) hb);have n1_:=Ak (kB (g:=gb171) (o:=.cells #[.int .i64 a1_0,.int .i64 a1_1,.int .i64 a1_2,.int .i64 a1_3] 36 (0,0)) (by (with_reducible repeat (first|refine kN ?_ _|refine kD ?_|refine kA ?_ _));exact BK171.out) hb);have n2_:=Ak (below_step (by repeat (first|(with_reducible first|exact HB.out|apply bA|apply bN|apply bD|refine bS ?_ GE170.out|refine bS ?_ GE171.out)|exact HB.out)) hb);clear BK170;clear BK171;clear HB;have BK170:=n0_;have BK171:=n1_;have HB:=n2_;clear n0_ n1_ n2_;(try clear hb);(try clear hb2);(try clear hk);(try clear hi)))
   repeat (go_quiet (first|(go_at_call 26;(with_reducible refine (gazetteerref09_Box.calls a0_0 a0_1 a0_2 a0_3 false _ A6.out).mono ?_);rintro e w16 ⟨rfl,hb⟩;have n0_:=Ak (kB (g:=gb170) (o:=.cells #[.int .i64 a0_0,.int .i64 a0_1,.int .i64 a0_2,.int .i64 a0_3] 36 (0,0)) (by (with_reducible repeat (first|refine kN ?_ _|refine kD ?_|refine kA ?_ _));exact BK170.out) hb);have n1_:=Ak (kB (g:=gb171) (o:=.cells #[.int .i64 a1_0,.int .i64 a1_1,.int .i64 a1_2,.int .i64 a1_3] 36 (0,0)) (by (with_reducible repeat (first|refine kN ?_ _|refine kD ?_|refine kA ?_ _));exact BK171.out) hb);have n2_:=Ak (below_step (by repeat (first|(with_reducible first|exact HB.out|apply bA|apply bN|apply bD|refine bS ?_ GE170.out|refine bS ?_ GE171.out)|exact HB.out)) hb);clear BK170;clear BK171;clear HB;have BK170:=n0_;have BK171:=n1_;have HB:=n2_;clear n0_ n1_ n2_;(try clear hb);(try clear hb2);(try clear hk);(try clear hi)));try go_wp2_with (first|(go_at_call 26;(with_reducible refine (gazetteerref09_Box.calls a0_0 a0_1 a0_2 a0_3 false _ A6.out).mono ?_);rintro e w16 ⟨rfl,hb⟩;have n0_:=Ak (kB (g:=gb170) (o:=.cells #[.int .i64 a0_0,.int .i64 a0_1,.int .i64 a0_2,.int .i64 a0_3] 36 (0,0)) (by (with_reducible repeat (first|refine kN ?_ _|refine kD ?_|refine kA ?_ _));exact BK170.out) hb);have n1_:=Ak (kB (g:=gb171) (o:=.cells #[.int .i64 a1_0,.int .i64 a1_1,.int .i64 a1_2,.int .i64 a1_3] 36 (0,0)) (by (with_reducible repeat (first|refine kN ?_ _|refine kD ?_|refine kA ?_ _));exact BK171.out) hb);have n2_:=Ak (below_step (by repeat (first|(with_reducible first|exact HB.out|apply bA|apply bN|apply bD|refine bS ?_ GE170.out|refine bS ?_ GE171.out)|exact HB.out)) hb);clear BK170;clear BK171;clear HB;have BK170:=n0_;have BK171:=n1_;have HB:=n2_;clear n0_ n1_ n2_;(try clear hb);(try clear hb2);(try clear hk);(try clear hi))))
   go_meet
   case rel => exact ⟨_,(true),(by first|rfl|(simp;done)|(simp [*];done)),H',⟨by first|omega|exact Nat.le_refl _⟩,⟨by (with_reducible repeat (first|refine kN ?_ _|refine kD ?_|refine kA ?_ _));exact BK170.out⟩,⟨by (with_reducible repeat (first|refine kN ?_ _|refine kD ?_|refine kA ?_ _));exact BK171.out⟩,⟨by repeat (first|(with_reducible first|exact HB.out|apply bA|apply bN|apply bD|refine bS ?_ GE170.out|refine bS ?_ GE171.out)|exact HB.out)⟩⟩
 case rest =>
  clear HC3
  try clear c1
  try clear p2
  try clear c5
  try clear c7
  try clear c9
  try clear c14
  try clear hcz10_0
  try clear hcz10_1
  try clear hcz10_2
  try clear hcz10_3
  try clear hcz12_0
  try clear hcz12_1
  try clear hcz12_2
  try clear hcz12_3
  try clear hcz15_0
  try clear hcz15_1
  try clear hcz15_2
  try clear hcz15_3
  try clear hfz10_0
  try clear hfz10_1
  try clear hfz10_2
  try clear hfz10_3
  try clear hfz12_0
  try clear hfz12_1
  try clear hfz12_2
  try clear hfz12_3
  try clear hfz15_0
  try clear hfz15_1
  try clear hfz15_2
  try clear hfz15_3
  obtain ⟨kq,x14_2,rfl,HA,HJ2,BK170,BK171,HB⟩:=hcut
  cases kq with
  | zero => exact absurd HA.out (by simp [gazetteerref09_Meets.j0])
  | succ kj2 =>
   have H:=HA.out
   clear HA
   simp only [gazetteerref09_Meets.j0] at H
   by_cases c17 : x14_2 = true
   ·subst c17
    have H1 : (some false) = some r:=by rw [if_pos rfl] at H;exact H
    clear H
    have H:=H1
    clear H1
    obtain rfl:=Option.some.inj H
    go_wp2
    repeat (go_quiet (fail);try go_wp2)
    go_ret
    exact ⟨by first|rfl|(simp [errW_none,errW_some] <;> rfl)|(simp [*,errW_none,errW_some] <;> rfl),by repeat (first|(with_reducible first|exact HB.out|apply bA|apply bN|apply bD|refine bS ?_ GE170.out|refine bS ?_ GE171.out)|exact HB.out)⟩
   ·replace c17:=Bool.eq_false_iff.mpr c17
    subst c17
    have H1 : (if a1_0 > a0_0 then (gazetteerref09_Meets.j1 kj2 a1_0 a0_2 a0_0 a0_1 a0_2 a0_3 a1_0 a1_1 a1_2 a1_3) else (gazetteerref09_Meets.j1 kj2 a0_0 a0_2 a0_0 a0_1 a0_2 a0_3 a1_0 a1_1 a1_2 a1_3)) = some r:=by rw [if_neg (show ¬ (false = true) by decide)] at H;exact H
    clear H
    have H:=H1
    clear H1
    have HC18:=Ak H
    clear H
    have hnb19:=NB170_171.out
    have hnc19:=NB171_170.out
    have hcz20_0 : wc.cell? ⟨gb170,0,none⟩ = some (.int .i64 a0_0):=(kC BK170.out 0).trans rfl
    have hcz20_1 : wc.cell? ⟨gb170,1,none⟩ = some (.int .i64 a0_1):=(kC BK170.out 1).trans rfl
    have hcz20_2 : wc.cell? ⟨gb170,2,none⟩ = some (.int .i64 a0_2):=(kC BK170.out 2).trans rfl
    have hcz20_3 : wc.cell? ⟨gb170,3,none⟩ = some (.int .i64 a0_3):=(kC BK170.out 3).trans rfl
    have hfz20_0:=blk_frozen BK170.out 0
    have hfz20_1:=blk_frozen BK170.out 1
    have hfz20_2:=blk_frozen BK170.out 2
    have hfz20_3:=blk_frozen BK170.out 3
    have hcz21_0 : wc.cell? ⟨gb171,0,none⟩ = some (.int .i64 a1_0):=(kC BK171.out 0).trans rfl
    have hcz21_1 : wc.cell? ⟨gb171,1,none⟩ = some (.int .i64 a1_1):=(kC BK171.out 1).trans rfl
    have hcz21_2 : wc.cell? ⟨gb171,2,none⟩ = some (.int .i64 a1_2):=(kC BK171.out 2).trans rfl
    have hcz21_3 : wc.cell? ⟨gb171,3,none⟩ = some (.int .i64 a1_3):=(kC BK171.out 3).trans rfl
    have hfz21_0:=blk_frozen BK171.out 0
    have hfz21_1:=blk_frozen BK171.out 1
    have hfz21_2:=blk_frozen BK171.out 2
    have hfz21_3:=blk_frozen BK171.out 3
    go_upto_if 22 with (fail)
    repeat (go_quiet (fail);go_upto_if 22 with (fail))
    go_cut [5] (fun v5 wc => ∃ (kq : Nat) (x5_17 : Int),v5 = .int .i64 x5_17∧Aside0 (gazetteerref09_Meets.j1 kq x5_17 a0_2 a0_0 a0_1 a0_2 a0_3 a1_0 a1_1 a1_2 a1_3 = some r)∧Aside0 (kq ≤ kj2)∧Aside0 (wc.heap[gb170]? = some (.cells #[.int .i64 a0_0,.int .i64 a0_1,.int .i64 a0_2,.int .i64 a0_3] 36 (0,0)))∧Aside0 (wc.heap[gb171]? = some (.cells #[.int .i64 a1_0,.int .i64 a1_1,.int .i64 a1_2,.int .i64 a1_3] 36 (0,0)))∧Aside0 (Below w.heap.size w wc))
    case first =>
     have H:=HC18.out
     clear HC18
     by_cases c22 : a1_0 > a0_0
     ·rw [if_pos c22] at H
      have c22b0 : decide (a0_0 < a1_0) = true:=decide_eq_true c22
      clear c22
      (first|rw [c22b0]|(simp only [i64_w,i32_w];rw [c22b0])|skip)
      have H':=Ak H
      clear H
      have hnb23:=NB171_170.out
      have hnc23:=NB170_171.out
      have hcz24_0 : wc.cell? ⟨gb171,0,none⟩ = some (.int .i64 a1_0):=(kC BK171.out 0).trans rfl
      have hcz24_1 : wc.cell? ⟨gb171,1,none⟩ = some (.int .i64 a1_1):=(kC BK171.out 1).trans rfl
      have hcz24_2 : wc.cell? ⟨gb171,2,none⟩ = some (.int .i64 a1_2):=(kC BK171.out 2).trans rfl
      have hcz24_3 : wc.cell? ⟨gb171,3,none⟩ = some (.int .i64 a1_3):=(kC BK171.out 3).trans rfl
      have hfz24_0:=blk_frozen BK171.out 0
      have hfz24_1:=blk_frozen BK171.out 1
      have hfz24_2:=blk_frozen BK171.out 2
      have hfz24_3:=blk_frozen BK171.out 3
      go_wp2
      repeat (go_quiet (fail);try go_wp2)
      go_meet
      case rel => exact ⟨_,(a1_0),(by first|rfl|(simp;done)|(simp [*];done)),H',⟨by have:=HJ2.out;first|omega|exact Nat.le_refl _⟩,⟨by (with_reducible repeat (first|refine kN ?_ _|refine kD ?_|refine kA ?_ _));exact BK170.out⟩,⟨by (with_reducible repeat (first|refine kN ?_ _|refine kD ?_|refine kA ?_ _));exact BK171.out⟩,⟨by repeat (first|(with_reducible first|exact HB.out|apply bA|apply bN|apply bD|refine bS ?_ GE170.out|refine bS ?_ GE171.out)|exact HB.out)⟩⟩
     ·rw [if_neg c22] at H
      have c22b0 : decide (a0_0 < a1_0) = false:=decide_eq_false c22
      clear c22
      (first|rw [c22b0]|(simp only [i64_w,i32_w];rw [c22b0])|skip)
      have H':=Ak H
      clear H
      go_wp2
      repeat (go_quiet (fail);try go_wp2)
      go_meet
      case rel => exact ⟨_,(a0_0),(by first|rfl|(simp;done)|(simp [*];done)),H',⟨by have:=HJ2.out;first|omega|exact Nat.le_refl _⟩,⟨by (with_reducible repeat (first|refine kN ?_ _|refine kD ?_|refine kA ?_ _));exact BK170.out⟩,⟨by (with_reducible repeat (first|refine kN ?_ _|refine kD ?_|refine kA ?_ _));exact BK171.out⟩,⟨by repeat (first|(with_reducible first|exact HB.out|apply bA|apply bN|apply bD|refine bS ?_ GE170.out|refine bS ?_ GE171.out)|exact HB.out)⟩⟩
    case rest =>
     clear HC18
     try clear c1
     try clear c2
     try clear p2
     try clear c5
     try clear c7
     try clear c9
     try clear c14
     try clear c17
     try clear c19
     try clear c22
     try clear c22b0
     try clear c23
     try clear hcz10_0
     try clear hcz10_1
     try clear hcz10_2
     try clear hcz10_3
     try clear hcz12_0
     try clear hcz12_1
     try clear hcz12_2
     try clear hcz12_3
     try clear hcz15_0
     try clear hcz15_1
     try clear hcz15_2
     try clear hcz15_3
     try clear hcz20_0
     try clear hcz20_1
     try clear hcz20_2
     try clear hcz20_3
     try clear hcz21_0
     try clear hcz21_1
     try clear hcz21_2
     try clear hcz21_3
     try clear hcz24_0
     try clear hcz24_1
     try clear hcz24_2
     try clear hcz24_3
     try clear hfz10_0
     try clear hfz10_1
     try clear hfz10_2
     try clear hfz10_3
     try clear hfz12_0
     try clear hfz12_1
     try clear hfz12_2
     try clear hfz12_3
     try clear hfz15_0
     try clear hfz15_1
     try clear hfz15_2
     try clear hfz15_3
     try clear hfz20_0
     try clear hfz20_1
     try clear hfz20_2
     try clear hfz20_3
     try clear hfz21_0
     try clear hfz21_1
     try clear hfz21_2
     try clear hfz21_3
     try clear hfz24_0
     try clear hfz24_1
     try clear hfz24_2
     try clear hfz24_3
     try clear p2
     obtain ⟨kq,x5_17,rfl,HA,HJ17,BK170,BK171,HB⟩:=hcut
     cases kq with
     | zero => exact absurd HA.out (by simp [gazetteerref09_Meets.j1])
     | succ kj17 =>
      have H:=HA.out
      clear HA
      simp only [gazetteerref09_Meets.j1] at H
      have HC25:=Ak H
      clear H
      have hnb26:=NB171_170.out
      have hnc26:=NB170_171.out
      have hcz27_0 : wc.cell? ⟨gb171,0,none⟩ = some (.int .i64 a1_0):=(kC BK171.out 0).trans rfl
      have hcz27_1 : wc.cell? ⟨gb171,1,none⟩ = some (.int .i64 a1_1):=(kC BK171.out 1).trans rfl
      have hcz27_2 : wc.cell? ⟨gb171,2,none⟩ = some (.int .i64 a1_2):=(kC BK171.out 2).trans rfl
      have hcz27_3 : wc.cell? ⟨gb171,3,none⟩ = some (.int .i64 a1_3):=(kC BK171.out 3).trans rfl
      have hfz27_0:=blk_frozen BK171.out 0
      have hfz27_1:=blk_frozen BK171.out 1
      have hfz27_2:=blk_frozen BK171.out 2
      have hfz27_3:=blk_frozen BK171.out 3
      go_upto_if 28 with (fail)
      repeat (go_quiet (fail);go_upto_if 28 with (fail))
      go_cut [6] (fun v6 wc => ∃ (kq : Nat) (x6_24 : Int),v6 = .int .i64 x6_24∧Aside0 (gazetteerref09_Meets.j2 kq x5_17 x6_24 a0_0 a0_1 a0_2 a0_3 a1_0 a1_1 a1_2 a1_3 = some r)∧Aside0 (kq ≤ kj17)∧Aside0 (wc.heap[gb170]? = some (.cells #[.int .i64 a0_0,.int .i64 a0_1,.int .i64 a0_2,.int .i64 a0_3] 36 (0,0)))∧Aside0 (wc.heap[gb171]? = some (.cells #[.int .i64 a1_0,.int .i64 a1_1,.int .i64 a1_2,.int .i64 a1_3] 36 (0,0)))∧Aside0 (Below w.heap.size w wc))
      case first =>
       have H:=HC25.out
       clear HC25
       by_cases c28 : a1_2 > a0_2
       ·rw [if_pos c28] at H
        have c28b0 : decide (a0_2 < a1_2) = true:=decide_eq_true c28
        clear c28
        (first|rw [c28b0]|(simp only [i64_w,i32_w];rw [c28b0])|skip)
        have H':=Ak H
        clear H
        have hnb29:=NB171_170.out
        have hnc29:=NB170_171.out
        have hcz30_0 : wc.cell? ⟨gb171,0,none⟩ = some (.int .i64 a1_0):=(kC BK171.out 0).trans rfl
        have hcz30_1 : wc.cell? ⟨gb171,1,none⟩ = some (.int .i64 a1_1):=(kC BK171.out 1).trans rfl
        have hcz30_2 : wc.cell? ⟨gb171,2,none⟩ = some (.int .i64 a1_2):=(kC BK171.out 2).trans rfl
        have hcz30_3 : wc.cell? ⟨gb171,3,none⟩ = some (.int .i64 a1_3):=(kC BK171.out 3).trans rfl
        have hfz30_0:=blk_frozen BK171.out 0
        have hfz30_1:=blk_frozen BK171.out 1
        have hfz30_2:=blk_frozen BK171.out 2
        have hfz30_3:=blk_frozen BK171.out 3
        go_wp2
        repeat (go_quiet (fail);try go_wp2)
        go_meet
        case rel => exact ⟨_,(a1_2),(by first|rfl|(simp;done)|(simp [*];done)),H',⟨by have:=HJ2.out;have:=HJ17.out;first|omega|exact Nat.le_refl _⟩,⟨by (with_reducible repeat (first|refine kN ?_ _|refine kD ?_|refine kA ?_ _));exact BK170.out⟩,⟨by (with_reducible repeat (first|refine kN ?_ _|refine kD ?_|refine kA ?_ _));exact BK171.out⟩,⟨by repeat (first|(with_reducible first|exact HB.out|apply bA|apply bN|apply bD|refine bS ?_ GE170.out|refine bS ?_ GE171.out)|exact HB.out)⟩⟩
       ·rw [if_neg c28] at H
        have c28b0 : decide (a0_2 < a1_2) = false:=decide_eq_false c28
        clear c28
        (first|rw [c28b0]|(simp only [i64_w,i32_w];rw [c28b0])|skip)
        have H':=Ak H
        clear H
        go_wp2
        repeat (go_quiet (fail);try go_wp2)
        go_meet
        case rel => exact ⟨_,(a0_2),(by first|rfl|(simp;done)|(simp [*];done)),H',⟨by have:=HJ2.out;have:=HJ17.out;first|omega|exact Nat.le_refl _⟩,⟨by (with_reducible repeat (first|refine kN ?_ _|refine kD ?_|refine kA ?_ _));exact BK170.out⟩,⟨by (with_reducible repeat (first|refine kN ?_ _|refine kD ?_|refine kA ?_ _));exact BK171.out⟩,⟨by repeat (first|(with_reducible first|exact HB.out|apply bA|apply bN|apply bD|refine bS ?_ GE170.out|refine bS ?_ GE171.out)|exact HB.out)⟩⟩
      case rest =>
       clear HC25
       try clear c1
       try clear c2
       try clear p2
       try clear c5
       try clear c7
       try clear c9
       try clear c14
       try clear c17
       try clear c19
       try clear c22
       try clear c22b0
       try clear c23
       try clear c26
       try clear c28
       try clear c28b0
       try clear c29
       try clear hcz10_0
       try clear hcz10_1
       try clear hcz10_2
       try clear hcz10_3
       try clear hcz12_0
       try clear hcz12_1
       try clear hcz12_2
       try clear hcz12_3
       try clear hcz15_0
       try clear hcz15_1
       try clear hcz15_2
       try clear hcz15_3
       try clear hcz20_0
       try clear hcz20_1
       try clear hcz20_2
       try clear hcz20_3
       try clear hcz21_0
       try clear hcz21_1
       try clear hcz21_2
       try clear hcz21_3
       try clear hcz24_0
       try clear hcz24_1
       try clear hcz24_2
       try clear hcz24_3
       try clear hcz27_0
       try clear hcz27_1
       try clear hcz27_2
       try clear hcz27_3
       try clear hcz30_0
       try clear hcz30_1
       try clear hcz30_2
       try clear hcz30_3
       try clear hfz10_0
       try clear hfz10_1
       try clear hfz10_2
       try clear hfz10_3
       try clear hfz12_0
       try clear hfz12_1
       try clear hfz12_2
       try clear hfz12_3
       try clear hfz15_0
       try clear hfz15_1
       try clear hfz15_2
       try clear hfz15_3
       try clear hfz20_0
       try clear hfz20_1
       try clear hfz20_2
       try clear hfz20_3
       try clear hfz21_0
       try clear hfz21_1
       try clear hfz21_2
       try clear hfz21_3
       try clear hfz24_0
       try clear hfz24_1
       try clear hfz24_2
       try clear hfz24_3
       try clear hfz27_0
       try clear hfz27_1
       try clear hfz27_2
       try clear hfz27_3
       try clear hfz30_0
       try clear hfz30_1
       try clear hfz30_2
       try clear hfz30_3
       try clear p2
       obtain ⟨kq,x6_24,rfl,HA,HJ24,BK170,BK171,HB⟩:=hcut
       cases kq with
       | zero => exact absurd HA.out (by simp [gazetteerref09_Meets.j2])
       | succ kj24 =>
        have H:=HA.out
        clear HA
        simp only [gazetteerref09_Meets.j2] at H
        replace H:=Option.bind_eq_some_iff.mp H
        obtain ⟨t174,A310,H⟩:=H
        replace H : (if t174 = true then ((gazetteerref09_inside.f a1_0 a1_1 x5_17).bind fun t175 => (if t175 = true then ((gazetteerref09_inside.f a0_2 a0_3 x6_24).bind fun t176 => (if t176 = true then ((gazetteerref09_inside.f a1_2 a1_3 x6_24).bind fun t177 => (some t177)) else (some false))) else (some false))) else (some false)) = some r:=H
        have A31:=Ak A310
        clear A310
        by_cases c32 : t174 = true
        ·subst c32
         have H1 : ((gazetteerref09_inside.f a1_0 a1_1 x5_17).bind fun t175 => (if t175 = true then ((gazetteerref09_inside.f a0_2 a0_3 x6_24).bind fun t176 => (if t176 = true then ((gazetteerref09_inside.f a1_2 a1_3 x6_24).bind fun t177 => (some t177)) else (some false))) else (some false))) = some r:=by rw [if_pos rfl] at H;exact H
         clear H
         have H:=H1
         clear H1
         replace H:=Option.bind_eq_some_iff.mp H
         obtain ⟨t175,A330,H⟩:=H
         replace H : (if t175 = true then ((gazetteerref09_inside.f a0_2 a0_3 x6_24).bind fun t176 => (if t176 = true then ((gazetteerref09_inside.f a1_2 a1_3 x6_24).bind fun t177 => (some t177)) else (some false))) else (some false)) = some r:=H
         have A33:=Ak A330
         clear A330
         by_cases c34 : t175 = true
         ·subst c34
          have H1 : ((gazetteerref09_inside.f a0_2 a0_3 x6_24).bind fun t176 => (if t176 = true then ((gazetteerref09_inside.f a1_2 a1_3 x6_24).bind fun t177 => (some t177)) else (some false))) = some r:=by rw [if_pos rfl] at H;exact H
          clear H
          have H:=H1
          clear H1
          replace H:=Option.bind_eq_some_iff.mp H
          obtain ⟨t176,A350,H⟩:=H
          replace H : (if t176 = true then ((gazetteerref09_inside.f a1_2 a1_3 x6_24).bind fun t177 => (some t177)) else (some false)) = some r:=H
          have A35:=Ak A350
          clear A350
          by_cases c36 : t176 = true
          ·subst c36
           have H1 : ((gazetteerref09_inside.f a1_2 a1_3 x6_24).bind fun t177 => (some t177)) = some r:=by rw [if_pos rfl] at H;exact H
           clear H
           have H:=H1
           clear H1
           replace H:=Option.bind_eq_some_iff.mp H
           obtain ⟨t177,A370,H⟩:=H
           replace H : (some t177) = some r:=H
           have A37:=Ak A370
           clear A370
           obtain rfl:=Option.some.inj H
           have hnb38:=NB170_171.out
           have hnc38:=NB171_170.out
           have hcz39_0 : wc.cell? ⟨gb170,0,none⟩ = some (.int .i64 a0_0):=(kC BK170.out 0).trans rfl
           have hcz39_1 : wc.cell? ⟨gb170,1,none⟩ = some (.int .i64 a0_1):=(kC BK170.out 1).trans rfl
           have hcz39_2 : wc.cell? ⟨gb170,2,none⟩ = some (.int .i64 a0_2):=(kC BK170.out 2).trans rfl
           have hcz39_3 : wc.cell? ⟨gb170,3,none⟩ = some (.int .i64 a0_3):=(kC BK170.out 3).trans rfl
           have hfz39_0:=blk_frozen BK170.out 0
           have hfz39_1:=blk_frozen BK170.out 1
           have hfz39_2:=blk_frozen BK170.out 2
           have hfz39_3:=blk_frozen BK170.out 3
           go_wp2_with (first|(go_at_call 73;(with_reducible refine (gazetteerref09_inside.calls a0_0 a0_1 x5_17 true _ A31.out).mono ?_);rintro e w' ⟨rfl,⟨nd,rfl⟩⟩;(try first|exact ⟨rfl,_,World.drewN_drewN _ _ _⟩|exact ⟨rfl,_,Eq.trans (World.drewN_drewN _ _ _) (congrArg (World.drewN _) (Nat.add_assoc _ _ _))⟩);have hcz40_0 : wc.cell? ⟨gb171,0,none⟩ = some (.int .i64 a1_0):=(kC BK171.out 0).trans rfl;have hcz40_1 : wc.cell? ⟨gb171,1,none⟩ = some (.int .i64 a1_1):=(kC BK171.out 1).trans rfl;have hcz40_2 : wc.cell? ⟨gb171,2,none⟩ = some (.int .i64 a1_2):=(kC BK171.out 2).trans rfl;have hcz40_3 : wc.cell? ⟨gb171,3,none⟩ = some (.int .i64 a1_3):=(kC BK171.out 3).trans rfl;have hfz40_0:=blk_frozen BK171.out 0;have hfz40_1:=blk_frozen BK171.out 1;have hfz40_2:=blk_frozen BK171.out 2;have hfz40_3:=blk_frozen BK171.out 3)|(go_at_call 73;(with_reducible refine (gazetteerref09_inside.calls a1_0 a1_1 x5_17 true _ A33.out).mono ?_);rintro e w' ⟨rfl,⟨nd,rfl⟩⟩;(try first|exact ⟨rfl,_,World.drewN_drewN _ _ _⟩|exact ⟨rfl,_,Eq.trans (World.drewN_drewN _ _ _) (congrArg (World.drewN _) (Nat.add_assoc _ _ _))⟩))|(go_at_call 73;(with_reducible refine (gazetteerref09_inside.calls a0_2 a0_3 x6_24 true _ A35.out).mono ?_);rintro e w' ⟨rfl,⟨nd,rfl⟩⟩;(try first|exact ⟨rfl,_,World.drewN_drewN _ _ _⟩|exact ⟨rfl,_,Eq.trans (World.drewN_drewN _ _ _) (congrArg (World.drewN _) (Nat.add_assoc _ _ _))⟩))|(go_at_call 73;(with_reducible refine (gazetteerref09_inside.calls a1_2 a1_3 x6_24 t177 _ A37.out).mono ?_);rintro e w' ⟨rfl,⟨nd,rfl⟩⟩;(try first|exact ⟨rfl,_,World.drewN_drewN _ _ _⟩|exact ⟨rfl,_,Eq.trans (World.drewN_drewN _ _ _) (congrArg (World.drewN _) (Nat.add_assoc _ _ _))⟩)))
           repeat (go_quiet (first|(go_at_call 73;(with_reducible refine (gazetteerref09_inside.calls a0_0 a0_1 x5_17 true _ A31.out).mono ?_);rintro e w' ⟨rfl,⟨nd,rfl⟩⟩;(try first|exact ⟨rfl,_,World.drewN_drewN _ _ _⟩|exact ⟨rfl,_,Eq.trans (World.drewN_drewN _ _ _) (congrArg (World.drewN _) (Nat.add_assoc _ _ _))⟩);have hcz40_0 : wc.cell? ⟨gb171,0,none⟩ = some (.int .i64 a1_0):=(kC BK171.out 0).trans rfl;have hcz40_1 : wc.cell? ⟨gb171,1,none⟩ = some (.int .i64 a1_1):=(kC BK171.out 1).trans rfl;have hcz40_2 : wc.cell? ⟨gb171,2,none⟩ = some (.int .i64 a1_2):=(kC BK171.out 2).trans rfl;have hcz40_3 : wc.cell? ⟨gb171,3,none⟩ = some (.int .i64 a1_3):=(kC BK171.out 3).trans rfl;have hfz40_0:=blk_frozen BK171.out 0;have hfz40_1:=blk_frozen BK171.out 1;have hfz40_2:=blk_frozen BK171.out 2;have hfz40_3:=blk_frozen BK171.out 3)|(go_at_call 73;(with_reducible refine (gazetteerref09_inside.calls a1_0 a1_1 x5_17 true _ A33.out).mono ?_);rintro e w' ⟨rfl,⟨nd,rfl⟩⟩;(try first|exact ⟨rfl,_,World.drewN_drewN _ _ _⟩|exact ⟨rfl,_,Eq.trans (World.drewN_drewN _ _ _) (congrArg (World.drewN _) (Nat.add_assoc _ _ _))⟩))|(go_at_call 73;(with_reducible refine (gazetteerref09_inside.calls a0_2 a0_3 x6_24 true _ A35.out).mono ?_);rintro e w' ⟨rfl,⟨nd,rfl⟩⟩;(try first|exact ⟨rfl,_,World.drewN_drewN _ _ _⟩|exact ⟨rfl,_,Eq.trans (World.drewN_drewN _ _ _) (congrArg (World.drewN _) (Nat.add_assoc _ _ _))⟩))|(go_at_call 73;(with_reducible refine (gazetteerref09_inside.calls a1_2 a1_3 x6_24 t177 _ A37.out).mono ?_);rintro e w' ⟨rfl,⟨nd,rfl⟩⟩;(try first|exact ⟨rfl,_,World.drewN_drewN _ _ _⟩|exact ⟨rfl,_,Eq.trans (World.drewN_drewN _ _ _) (congrArg (World.drewN _) (Nat.add_assoc _ _ _))⟩)));try go_wp2_with (first|(go_at_call 73;(with_reducible refine (gazetteerref09_inside.calls a0_0 a0_1 x5_17 true _ A31.out).mono ?_);rintro e w' ⟨rfl,⟨nd,rfl⟩⟩;(try first|exact ⟨rfl,_,World.drewN_drewN _ _ _⟩|exact ⟨rfl,_,Eq.trans (World.drewN_drewN _ _ _) (congrArg (World.drewN _) (Nat.add_assoc _ _ _))⟩);have hcz40_0 : wc.cell? ⟨gb171,0,none⟩ = some (.int .i64 a1_0):=(kC BK171.out 0).trans rfl;have hcz40_1 : wc.cell? ⟨gb171,1,none⟩ = some (.int .i64 a1_1):=(kC BK171.out 1).trans rfl;have hcz40_2 : wc.cell? ⟨gb171,2,none⟩ = some (.int .i64 a1_2):=(kC BK171.out 2).trans rfl;have hcz40_3 : wc.cell? ⟨gb171,3,none⟩ = some (.int .i64 a1_3):=(kC BK171.out 3).trans rfl;have hfz40_0:=blk_frozen BK171.out 0;have hfz40_1:=blk_frozen BK171.out 1;have hfz40_2:=blk_frozen BK171.out 2;have hfz40_3:=blk_frozen BK171.out 3)|(go_at_call 73;(with_reducible refine (gazetteerref09_inside.calls a1_0 a1_1 x5_17 true _ A33.out).mono ?_);rintro e w' ⟨rfl,⟨nd,rfl⟩⟩;(try first|exact ⟨rfl,_,World.drewN_drewN _ _ _⟩|exact ⟨rfl,_,Eq.trans (World.drewN_drewN _ _ _) (congrArg (World.drewN _) (Nat.add_assoc _ _ _))⟩))|(go_at_call 73;(with_reducible refine (gazetteerref09_inside.calls a0_2 a0_3 x6_24 true _ A35.out).mono ?_);rintro e w' ⟨rfl,⟨nd,rfl⟩⟩;(try first|exact ⟨rfl,_,World.drewN_drewN _ _ _⟩|exact ⟨rfl,_,Eq.trans (World.drewN_drewN _ _ _) (congrArg (World.drewN _) (Nat.add_assoc _ _ _))⟩))|(go_at_call 73;(with_reducible refine (gazetteerref09_inside.calls a1_2 a1_3 x6_24 t177 _ A37.out).mono ?_);rintro e w' ⟨rfl,⟨nd,rfl⟩⟩;(try first|exact ⟨rfl,_,World.drewN_drewN _ _ _⟩|exact ⟨rfl,_,Eq.trans (World.drewN_drewN _ _ _) (congrArg (World.drewN _) (Nat.add_assoc _ _ _))⟩))))
           go_ret
           exact ⟨by first|rfl|(simp [errW_none,errW_some] <;> rfl)|(simp [*,errW_none,errW_some] <;> rfl),by repeat (first|(with_reducible first|exact HB.out|apply bA|apply bN|apply bD|refine bS ?_ GE170.out|refine bS ?_ GE171.out)|exact HB.out)⟩
          ·replace c36:=Bool.eq_false_iff.mpr c36
           subst c36
           have H1 : (some false) = some r:=by rw [if_neg (show ¬ (false = true) by decide)] at H;exact H
           clear H
           have H:=H1
           clear H1
           obtain rfl:=Option.some.inj H
           have hnb41:=NB170_171.out
           have hnc41:=NB171_170.out
           have hcz42_0 : wc.cell? ⟨gb170,0,none⟩ = some (.int .i64 a0_0):=(kC BK170.out 0).trans rfl
           have hcz42_1 : wc.cell? ⟨gb170,1,none⟩ = some (.int .i64 a0_1):=(kC BK170.out 1).trans rfl
           have hcz42_2 : wc.cell? ⟨gb170,2,none⟩ = some (.int .i64 a0_2):=(kC BK170.out 2).trans rfl
           have hcz42_3 : wc.cell? ⟨gb170,3,none⟩ = some (.int .i64 a0_3):=(kC BK170.out 3).trans rfl
           have hfz42_0:=blk_frozen BK170.out 0
           have hfz42_1:=blk_frozen BK170.out 1
           have hfz42_2:=blk_frozen BK170.out 2
           have hfz42_3:=blk_frozen BK170.out 3
           go_wp2_with (first|(go_at_call 73;(with_reducible refine (gazetteerref09_inside.calls a0_0 a0_1 x5_17 true _ A31.out).mono ?_);rintro e w' ⟨rfl,⟨nd,rfl⟩⟩;(try first|exact ⟨rfl,_,World.drewN_drewN _ _ _⟩|exact ⟨rfl,_,Eq.trans (World.drewN_drewN _ _ _) (congrArg (World.drewN _) (Nat.add_assoc _ _ _))⟩);have hcz43_0 : wc.cell? ⟨gb171,0,none⟩ = some (.int .i64 a1_0):=(kC BK171.out 0).trans rfl;have hcz43_1 : wc.cell? ⟨gb171,1,none⟩ = some (.int .i64 a1_1):=(kC BK171.out 1).trans rfl;have hcz43_2 : wc.cell? ⟨gb171,2,none⟩ = some (.int .i64 a1_2):=(kC BK171.out 2).trans rfl;have hcz43_3 : wc.cell? ⟨gb171,3,none⟩ = some (.int .i64 a1_3):=(kC BK171.out 3).trans rfl;have hfz43_0:=blk_frozen BK171.out 0;have hfz43_1:=blk_frozen BK171.out 1;have hfz43_2:=blk_frozen BK171.out 2;have hfz43_3:=blk_frozen BK171.out 3)|(go_at_call 73;(with_reducible refine (gazetteerref09_inside.calls a1_0 a1_1 x5_17 true _ A33.out).mono ?_);rintro e w' ⟨rfl,⟨nd,rfl⟩⟩;(try first|exact ⟨rfl,_,World.drewN_drewN _ _ _⟩|exact ⟨rfl,_,Eq.trans (World.drewN_drewN _ _ _) (congrArg (World.drewN _) (Nat.add_assoc _ _ _))⟩))|(go_at_call 73;(with_reducible refine (gazetteerref09_inside.calls a0_2 a0_3 x6_24 false _ A35.out).mono ?_);rintro e w' ⟨rfl,⟨nd,rfl⟩⟩;(try first|exact ⟨rfl,_,World.drewN_drewN _ _ _⟩|exact ⟨rfl,_,Eq.trans (World.drewN_drewN _ _ _) (congrArg (World.drewN _) (Nat.add_assoc _ _ _))⟩)))
           repeat (go_quiet (first|(go_at_call 73;(with_reducible refine (gazetteerref09_inside.calls a0_0 a0_1 x5_17 true _ A31.out).mono ?_);rintro e w' ⟨rfl,⟨nd,rfl⟩⟩;(try first|exact ⟨rfl,_,World.drewN_drewN _ _ _⟩|exact ⟨rfl,_,Eq.trans (World.drewN_drewN _ _ _) (congrArg (World.drewN _) (Nat.add_assoc _ _ _))⟩);have hcz43_0 : wc.cell? ⟨gb171,0,none⟩ = some (.int .i64 a1_0):=(kC BK171.out 0).trans rfl;have hcz43_1 : wc.cell? ⟨gb171,1,none⟩ = some (.int .i64 a1_1):=(kC BK171.out 1).trans rfl;have hcz43_2 : wc.cell? ⟨gb171,2,none⟩ = some (.int .i64 a1_2):=(kC BK171.out 2).trans rfl;have hcz43_3 : wc.cell? ⟨gb171,3,none⟩ = some (.int .i64 a1_3):=(kC BK171.out 3).trans rfl;have hfz43_0:=blk_frozen BK171.out 0;have hfz43_1:=blk_frozen BK171.out 1;have hfz43_2:=blk_frozen BK171.out 2;have hfz43_3:=blk_frozen BK171.out 3)|(go_at_call 73;(with_reducible refine (gazetteerref09_inside.calls a1_0 a1_1 x5_17 true _ A33.out).mono ?_);rintro e w' ⟨rfl,⟨nd,rfl⟩⟩;(try first|exact ⟨rfl,_,World.drewN_drewN _ _ _⟩|exact ⟨rfl,_,Eq.trans (World.drewN_drewN _ _ _) (congrArg (World.drewN _) (Nat.add_assoc _ _ _))⟩))|(go_at_call 73;(with_reducible refine (gazetteerref09_inside.calls a0_2 a0_3 x6_24 false _ A35.out).mono ?_);rintro e w' ⟨rfl,⟨nd,rfl⟩⟩;(try first|exact ⟨rfl,_,World.drewN_drewN _ _ _⟩|exact ⟨rfl,_,Eq.trans (World.drewN_drewN _ _ _) (congrArg (World.drewN _) (Nat.add_assoc _ _ _))⟩)));try go_wp2_with (first|(go_at_call 73;(with_reducible refine (gazetteerref09_inside.calls a0_0 a0_1 x5_17 true _ A31.out).mono ?_);rintro e w' ⟨rfl,⟨nd,rfl⟩⟩;(try first|exact ⟨rfl,_,World.drewN_drewN _ _ _⟩|exact ⟨rfl,_,Eq.trans (World.drewN_drewN _ _ _) (congrArg (World.drewN _) (Nat.add_assoc _ _ _))⟩);have hcz43_0 : wc.cell? ⟨gb171,0,none⟩ = some (.int .i64 a1_0):=(kC BK171.out 0).trans rfl;have hcz43_1 : wc.cell? ⟨gb171,1,none⟩ = some (.int .i64 a1_1):=(kC BK171.out 1).trans rfl;have hcz43_2 : wc.cell? ⟨gb171,2,none⟩ = some (.int .i64 a1_2):=(kC BK171.out 2).trans rfl;have hcz43_3 : wc.cell? ⟨gb171,3,none⟩ = some (.int .i64 a1_3):=(kC BK171.out 3).trans rfl;have hfz43_0:=blk_frozen BK171.out 0;have hfz43_1:=blk_frozen BK171.out 1;have hfz43_2:=blk_frozen BK171.out 2;have hfz43_3:=blk_frozen BK171.out 3)|(go_at_call 73;(with_reducible refine (gazetteerref09_inside.calls a1_0 a1_1 x5_17 true _ A33.out).mono ?_);rintro e w' ⟨rfl,⟨nd,rfl⟩⟩;(try first|exact ⟨rfl,_,World.drewN_drewN _ _ _⟩|exact ⟨rfl,_,Eq.trans (World.drewN_drewN _ _ _) (congrArg (World.drewN _) (Nat.add_assoc _ _ _))⟩))|(go_at_call 73;(with_reducible refine (gazetteerref09_inside.calls a0_2 a0_3 x6_24 false _ A35.out).mono ?_);rintro e w' ⟨rfl,⟨nd,rfl⟩⟩;(try first|exact ⟨rfl,_,World.drewN_drewN _ _ _⟩|exact ⟨rfl,_,Eq.trans (World.drewN_drewN _ _ _) (congrArg (World.drewN _) (Nat.add_assoc _ _ _))⟩))))
           go_ret
           exact ⟨by first|rfl|(simp [errW_none,errW_some] <;> rfl)|(simp [*,errW_none,errW_some] <;> rfl),by repeat (first|(with_reducible first|exact HB.out|apply bA|apply bN|apply bD|refine bS ?_ GE170.out|refine bS ?_ GE171.out)|exact HB.out)⟩
         ·replace c34:=Bool.eq_false_iff.mpr c34
          subst c34
          have H1 : (some false) = some r:=by rw [if_neg (show ¬ (false = true) by decide)] at H;exact H
          clear H
          have H:=H1
          clear H1
          obtain rfl:=Option.some.inj H
          have hnb44:=NB170_171.out
          have hnc44:=NB171_170.out
          have hcz45_0 : wc.cell? ⟨gb170,0,none⟩ = some (.int .i64 a0_0):=(kC BK170.out 0).trans rfl
          have hcz45_1 : wc.cell? ⟨gb170,1,none⟩ = some (.int .i64 a0_1):=(kC BK170.out 1).trans rfl
          have hcz45_2 : wc.cell? ⟨gb170,2,none⟩ = some (.int .i64 a0_2):=(kC BK170.out 2).trans rfl
          have hcz45_3 : wc.cell? ⟨gb170,3,none⟩ = some (.int .i64 a0_3):=(kC BK170.out 3).trans rfl
          have hfz45_0:=blk_frozen BK170.out 0
          have hfz45_1:=blk_frozen BK170.out 1
          have hfz45_2:=blk_frozen BK170.out 2
          have hfz45_3:=blk_frozen BK170.out 3
          go_wp2_with (first|(go_at_call 73;(with_reducible refine (gazetteerref09_inside.calls a0_0 a0_1 x5_17 true _ A31.out).mono ?_);rintro e w' ⟨rfl,⟨nd,rfl⟩⟩;(try first|exact ⟨rfl,_,World.drewN_drewN _ _ _⟩|exact ⟨rfl,_,Eq.trans (World.drewN_drewN _ _ _) (congrArg (World.drewN _) (Nat.add_assoc _ _ _))⟩);have hcz46_0 : wc.cell? ⟨gb171,0,none⟩ = some (.int .i64 a1_0):=(kC BK171.out 0).trans rfl;have hcz46_1 : wc.cell? ⟨gb171,1,none⟩ = some (.int .i64 a1_1):=(kC BK171.out 1).trans rfl;have hcz46_2 : wc.cell? ⟨gb171,2,none⟩ = some (.int .i64 a1_2):=(kC BK171.out 2).trans rfl;have hcz46_3 : wc.cell? ⟨gb171,3,none⟩ = some (.int .i64 a1_3):=(kC BK171.out 3).trans rfl;have hfz46_0:=blk_frozen BK171.out 0;have hfz46_1:=blk_frozen BK171.out 1;have hfz46_2:=blk_frozen BK171.out 2;have hfz46_3:=blk_frozen BK171.out 3)|(go_at_call 73;(with_reducible refine (gazetteerref09_inside.calls a1_0 a1_1 x5_17 false _ A33.out).mono ?_);rintro e w' ⟨rfl,⟨nd,rfl⟩⟩;(try first|exact ⟨rfl,_,World.drewN_drewN _ _ _⟩|exact ⟨rfl,_,Eq.trans (World.drewN_drewN _ _ _) (congrArg (World.drewN _) (Nat.add_assoc _ _ _))⟩)))
          repeat (go_quiet (first|(go_at_call 73;(with_reducible refine (gazetteerref09_inside.calls a0_0 a0_1 x5_17 true _ A31.out).mono ?_);rintro e w' ⟨rfl,⟨nd,rfl⟩⟩;(try first|exact ⟨rfl,_,World.drewN_drewN _ _ _⟩|exact ⟨rfl,_,Eq.trans (World.drewN_drewN _ _ _) (congrArg (World.drewN _) (Nat.add_assoc _ _ _))⟩);have hcz46_0 : wc.cell? ⟨gb171,0,none⟩ = some (.int .i64 a1_0):=(kC BK171.out 0).trans rfl;have hcz46_1 : wc.cell? ⟨gb171,1,none⟩ = some (.int .i64 a1_1):=(kC BK171.out 1).trans rfl;have hcz46_2 : wc.cell? ⟨gb171,2,none⟩ = some (.int .i64 a1_2):=(kC BK171.out 2).trans rfl;have hcz46_3 : wc.cell? ⟨gb171,3,none⟩ = some (.int .i64 a1_3):=(kC BK171.out 3).trans rfl;have hfz46_0:=blk_frozen BK171.out 0;have hfz46_1:=blk_frozen BK171.out 1;have hfz46_2:=blk_frozen BK171.out 2;have hfz46_3:=blk_frozen BK171.out 3)|(go_at_call 73;(with_reducible refine (gazetteerref09_inside.calls a1_0 a1_1 x5_17 false _ A33.out).mono ?_);rintro e w' ⟨rfl,⟨nd,rfl⟩⟩;(try first|exact ⟨rfl,_,World.drewN_drewN _ _ _⟩|exact ⟨rfl,_,Eq.trans (World.drewN_drewN _ _ _) (congrArg (World.drewN _) (Nat.add_assoc _ _ _))⟩)));try go_wp2_with (first|(go_at_call 73;(with_reducible refine (gazetteerref09_inside.calls a0_0 a0_1 x5_17 true _ A31.out).mono ?_);rintro e w' ⟨rfl,⟨nd,rfl⟩⟩;(try first|exact ⟨rfl,_,World.drewN_drewN _ _ _⟩|exact ⟨rfl,_,Eq.trans (World.drewN_drewN _ _ _) (congrArg (World.drewN _) (Nat.add_assoc _ _ _))⟩);have hcz46_0 : wc.cell? ⟨gb171,0,none⟩ = some (.int .i64 a1_0):=(kC BK171.out 0).trans rfl;have hcz46_1 : wc.cell? ⟨gb171,1,none⟩ = some (.int .i64 a1_1):=(kC BK171.out 1).trans rfl;have hcz46_2 : wc.cell? ⟨gb171,2,none⟩ = some (.int .i64 a1_2):=(kC BK171.out 2).trans rfl;have hcz46_3 : wc.cell? ⟨gb171,3,none⟩ = some (.int .i64 a1_3):=(kC BK171.out 3).trans rfl;have hfz46_0:=blk_frozen BK171.out 0;have hfz46_1:=blk_frozen BK171.out 1;have hfz46_2:=blk_frozen BK171.out 2;have hfz46_3:=blk_frozen BK171.out 3)|(go_at_call 73;(with_reducible refine (gazetteerref09_inside.calls a1_0 a1_1 x5_17 false _ A33.out).mono ?_);rintro e w' ⟨rfl,⟨nd,rfl⟩⟩;(try first|exact ⟨rfl,_,World.drewN_drewN _ _ _⟩|exact ⟨rfl,_,Eq.trans (World.drewN_drewN _ _ _) (congrArg (World.drewN _) (Nat.add_assoc _ _ _))⟩))))
          go_ret
          exact ⟨by first|rfl|(simp [errW_none,errW_some] <;> rfl)|(simp [*,errW_none,errW_some] <;> rfl),by repeat (first|(with_reducible first|exact HB.out|apply bA|apply bN|apply bD|refine bS ?_ GE170.out|refine bS ?_ GE171.out)|exact HB.out)⟩
        ·replace c32:=Bool.eq_false_iff.mpr c32
         subst c32
         have H1 : (some false) = some r:=by rw [if_neg (show ¬ (false = true) by decide)] at H;exact H
         clear H
         have H:=H1
         clear H1
         obtain rfl:=Option.some.inj H
         have hnb47:=NB170_171.out
         have hnc47:=NB171_170.out
         have hcz48_0 : wc.cell? ⟨gb170,0,none⟩ = some (.int .i64 a0_0):=(kC BK170.out 0).trans rfl
         have hcz48_1 : wc.cell? ⟨gb170,1,none⟩ = some (.int .i64 a0_1):=(kC BK170.out 1).trans rfl
         have hcz48_2 : wc.cell? ⟨gb170,2,none⟩ = some (.int .i64 a0_2):=(kC BK170.out 2).trans rfl
         have hcz48_3 : wc.cell? ⟨gb170,3,none⟩ = some (.int .i64 a0_3):=(kC BK170.out 3).trans rfl
         have hfz48_0:=blk_frozen BK170.out 0
         have hfz48_1:=blk_frozen BK170.out 1
         have hfz48_2:=blk_frozen BK170.out 2
         have hfz48_3:=blk_frozen BK170.out 3
         go_wp2_with (first|(go_at_call 73;(with_reducible refine (gazetteerref09_inside.calls a0_0 a0_1 x5_17 false _ A31.out).mono ?_);rintro e w' ⟨rfl,⟨nd,rfl⟩⟩;(try first|exact ⟨rfl,_,World.drewN_drewN _ _ _⟩|exact ⟨rfl,_,Eq.trans (World.drewN_drewN _ _ _) (congrArg (World.drewN _) (Nat.add_assoc _ _ _))⟩)))
         repeat (go_quiet (first|(go_at_call 73;(with_reducible refine (gazetteerref09_inside.calls a0_0 a0_1 x5_17 false _ A31.out).mono ?_);rintro e w' ⟨rfl,⟨nd,rfl⟩⟩;(try first|exact ⟨rfl,_,World.drewN_drewN _ _ _⟩|exact ⟨rfl,_,Eq.trans (World.drewN_drewN _ _ _) (congrArg (World.drewN _) (Nat.add_assoc _ _ _))⟩)));try go_wp2_with (first|(go_at_call 73;(with_reducible refine (gazetteerref09_inside.calls a0_0 a0_1 x5_17 false _ A31.out).mono ?_);rintro e w' ⟨rfl,⟨nd,rfl⟩⟩;(try first|exact ⟨rfl,_,World.drewN_drewN _ _ _⟩|exact ⟨rfl,_,Eq.trans (World.drewN_drewN _ _ _) (congrArg (World.drewN _) (Nat.add_assoc _ _ _))⟩))))
         go_ret
         exact ⟨by first|rfl|(simp [errW_none,errW_some] <;> rfl)|(simp [*,errW_none,errW_some] <;> rfl),by repeat (first|(with_reducible first|exact HB.out|apply bA|apply bN|apply bD|refine bS ?_ GE170.out|refine bS ?_ GE171.out)|exact HB.out)⟩
def gazetteerref22_Meets.l0 : Nat → List (S51) → List (S51) → Int → Int → Int → Int → Int → Int → Option ((List (S51)))
  | 0, _, _, _, _, _, _, _, _ => none
  | k + 1, x5, x9, x10, x11, x180000, x180001, x180002, x180003 => if x11 < x10 then (if 0 ≤ x11 then (if x11 < (x9.length : Int) then ((gazetteerref09_Meets.f k ((rd_T51 x9 x11).f1.f0) ((rd_T51 x9 x11).f1.f1) ((rd_T51 x9 x11).f1.f2) ((rd_T51 x9 x11).f1.f3) x180000 x180001 x180002 x180003).bind fun t182 => (if t182 = true then (if x5.length < 2932031007402 then (gazetteerref22_Meets.l0 k (x5 ++ [(⟨(rd_T51 x9 x11).f0, (⟨(rd_T51 x9 x11).f1.f0, (rd_T51 x9 x11).f1.f1, (rd_T51 x9 x11).f1.f2, (rd_T51 x9 x11).f1.f3⟩ : S36), (rd_T51 x9 x11).f2⟩ : S51)]) x9 x10 (wrap64 (x11 + 1)) x180000 x180001 x180002 x180003) else (none)) else (gazetteerref22_Meets.l0 k x5 x9 x10 (wrap64 (x11 + 1)) x180000 x180001 x180002 x180003))) else (none)) else (none)) else (some x5)
def gazetteerref22_Meets.f (k : Nat) (l0_0 : List (S51)) (a1_0 : Int) (a1_1 : Int) (a1_2 : Int) (a1_3 : Int) : Option ((List (S51))) := gazetteerref22_Meets.l0 k ([] : List (S51)) l0_0 (l0_0.length : Int) 0 a1_0 a1_1 a1_2 a1_3
set_option maxHeartbeats 8000000 in
set_option maxRecDepth 100000 in
theorem gazetteerref22_Meets.calls (k : Nat) (A0_0 : Option Addr) (c0_0 : Nat) (l0_0 : List (S51)) (a1_0 : Int) (a1_1 : Int) (a1_2 : Int) (a1_3 : Int) (r : List (S51)) (w : World) (hr0_0 : Kd.C k51 w A0_0 l0_0.length l0_0) (hc0_0 : l0_0.length ≤ c0_0) (h : gazetteerref22_Meets.f k l0_0 a1_0 a1_1 a1_2 a1_3 = some r) :
  Calls Try.prog 27 #[.agg #[.slice A0_0 l0_0.length c0_0],.agg #[.int .i64 a1_0,.int .i64 a1_1,.int .i64 a1_2,.int .i64 a1_3]] w fun e w' => ∃ v0_ : Value,e = .returned (v0_)∧Kd.R k51 51 w' w.heap.size (fun _ => True) v0_ r∧Below w.heap.size w w':=by
 have hu24:=Try.underlying24
 have hu36:=Try.underlying36
 have hu51:=Try.underlying51
 have HR0_0:=Ak hr0_0
 have HC0_0:=Ak hc0_0
 clear hr0_0 hc0_0
 have HB:=Ak (Below.refl w.heap.size w)
 have H : (gazetteerref22_Meets.l0 k ([] : List (S51)) l0_0 (l0_0.length : Int) 0 a1_0 a1_1 a1_2 a1_3) = some r:=h
 clear h
 have H':=Ak H
 clear H
 go_enter Try.func27,Try.ntmps27
 go_wp2_with (first|((with_reducible refine gate_dst (N:=2) rfl ?_);refine box_event ?hg (N:=2) ?hd (cs:=#[.slice A0_0 l0_0.length c0_0]) (t:=24) ?hr ?_;(case hd => rfl);(case hg => rfl);(case hr => first|(go_simp;done)|(go_simp;rfl));intro gb178 hg w3 hbox hb;have n0_:=Ak (below_step (by repeat (first|(with_reducible first|exact HB.out|apply bA|apply bN|apply bD)|exact HB.out)) hb);have n1_:=Ak (hbox);have n2_:=Ak ((by rw [hg];exact (below_size (by repeat (first|(with_reducible first|exact HB.out|apply bA|apply bN|apply bD)|exact HB.out))) : w.heap.size ≤ gb178));have n3_:=Ak ((by rw [hg];exact (below_size (by repeat (first|(with_reducible first|exact HB.out|apply bA|apply bN|apply bD)|exact HB.out))) : w.heap.size ≤ gb178));clear HB;have HB:=n0_;have BK178:=n1_;have GW178:=n2_;have GE178:=n3_;clear n0_ n1_ n2_ n3_;clear hb hbox hg)|((with_reducible refine gate_dst (N:=3) rfl ?_);refine box_event ?hg (N:=3) ?hd (cs:=#[.int .i64 a1_0,.int .i64 a1_1,.int .i64 a1_2,.int .i64 a1_3]) (t:=36) ?hr ?_;(case hd => rfl);(case hg => rfl);(case hr => first|(go_simp;done)|(go_simp;rfl));intro gb179 hg w4 hbox hb;have n0_:=Ak (kB (g:=gb178) (o:=.cells #[.slice A0_0 l0_0.length c0_0] 24 (0,0)) (by (with_reducible repeat (first|refine kN ?_ _|refine kD ?_|refine kA ?_ _));exact BK178.out) hb);have n1_:=Ak (below_step (by repeat (first|(with_reducible first|exact HB.out|apply bA|apply bN|apply bD|refine bS ?_ GE178.out)|exact HB.out)) hb);have n2_:=Ak (hbox);have n3_:=Ak ((by rw [hg];exact (below_size (by repeat (first|(with_reducible first|exact HB.out|apply bA|apply bN|apply bD|refine bS ?_ GE178.out)|exact HB.out))) : w.heap.size ≤ gb179));have n4_:=Ak ((by rw [hg];exact (below_size (by repeat (first|(with_reducible first|exact HB.out|apply bA|apply bN|apply bD|refine bS ?_ GE178.out)|exact HB.out))) : w.heap.size ≤ gb179));have n5_:=Ak ((by rw [hg];exact Nat.ne_of_lt (blk_lt (g:=gb178) (o:=.cells #[.slice A0_0 l0_0.length c0_0] 24 (0,0)) (by (with_reducible repeat (first|refine kN ?_ _|refine kD ?_|refine kA ?_ _));exact BK178.out)) : gb178 ≠ gb179));have n6_:=Ak ((by rw [hg];exact Nat.ne_of_gt (blk_lt (g:=gb178) (o:=.cells #[.slice A0_0 l0_0.length c0_0] 24 (0,0)) (by (with_reducible repeat (first|refine kN ?_ _|refine kD ?_|refine kA ?_ _));exact BK178.out)) : gb179 ≠ gb178));clear BK178;clear HB;have BK178:=n0_;have HB:=n1_;have BK179:=n2_;have GW179:=n3_;have GE179:=n4_;have NB178_179:=n5_;have NB179_178:=n6_;clear n0_ n1_ n2_ n3_ n4_ n5_ n6_;clear hb hbox hg;have hnb5:=NB178_179.out;have hnc5:=NB179_178.out;have hcz6_0 : w4.cell? ⟨gb178,0,none⟩ = some (.slice A0_0 l0_0.length c0_0):=(kC BK178.out 0).trans rfl;have hfz6_0:=blk_frozen BK178.out 0))
 go_loopg [5,11] k (fun kq v5 v11 w' => ∃ (x5_1 : List (S51)) (x11_1 : Int),v11 = .int .i64 x11_1∧Aside0 (gazetteerref22_Meets.l0 kq x5_1 l0_0 (l0_0.length : Int) x11_1 a1_0 a1_1 a1_2 a1_3 = some r)∧Aside0 (kq ≤ k)∧Aside0 (Kd.R k51 51 w' w.heap.size (fun _ => True) v5 x5_1)∧Aside0 (w'.heap[gb178]? = some (.cells #[(.slice A0_0 l0_0.length c0_0)] 24 (0,0)))∧Aside0 (w'.heap[gb179]? = some (.cells #[.int .i64 a1_0,.int .i64 a1_1,.int .i64 a1_2,.int .i64 a1_3] 36 (0,0)))∧Aside0 (Below w.heap.size w w'))
 case atStart => exact ⟨(([] : List (S51))),(0),(by first|rfl|(simp;done)|(simp [*];done)),H',⟨Nat.le_refl _⟩,⟨by first|exact Kd.R_nil _ _ _ _ _|exact Kd.N_nil _ _ _ _ _|exact Kd.V_nil _ _ _ _ _|exact Kd.Q_nil _ _ _ _ _|exact Kd.S_nil _ _ _ _ _⟩,⟨by (with_reducible repeat (first|refine kN ?_ _|refine kD ?_|refine kA ?_ _));exact BK178.out⟩,⟨by (with_reducible repeat (first|refine kN ?_ _|refine kD ?_|refine kA ?_ _));exact BK179.out⟩,⟨by repeat (first|(with_reducible first|exact HB.out|apply bA|apply bN|apply bD|refine bS ?_ GE178.out|refine bS ?_ GE179.out)|exact HB.out)⟩⟩
 case round =>
  clear H'
  try clear c2
  try clear p2
  try clear c5
  try clear hcz6_0
  try clear hfz6_0
  obtain ⟨x5_1,x11_1,rfl,HA,HK1,HO_5,BK178,BK179,HB⟩:=hrel
  cases gk with
  | zero => exact absurd HA.out (by simp [gazetteerref22_Meets.l0])
  | succ k1 =>
   have H:=HA.out
   clear HA
   simp only [gazetteerref22_Meets.l0] at H
   by_cases c7 : x11_1 < (l0_0.length : Int)
   ·rw [if_pos c7] at H
    have c7b0 : decide (x11_1 < (l0_0.length : Int)) = true:=decide_eq_true c7
    clear c7
    by_cases c8 : 0 ≤ x11_1
    ·rw [if_pos c8] at H
     have c8b0 : decide (0 ≤ x11_1) = true:=decide_eq_true c8
     clear c8
     by_cases c9 : x11_1 < (l0_0.length : Int)
     ·rw [if_pos c9] at H
      have c9b0 : decide (x11_1 < (l0_0.length : Int)) = true:=decide_eq_true c9
      clear c9
      replace H:=Option.bind_eq_some_iff.mp H
      obtain ⟨t182,A100,H⟩:=H
      replace H : (if t182 = true then (if x5_1.length < 2932031007402 then (gazetteerref22_Meets.l0 k1 (x5_1 ++ [(⟨(rd_T51 l0_0 x11_1).f0,(⟨(rd_T51 l0_0 x11_1).f1.f0,(rd_T51 l0_0 x11_1).f1.f1,(rd_T51 l0_0 x11_1).f1.f2,(rd_T51 l0_0 x11_1).f1.f3⟩ : S36),(rd_T51 l0_0 x11_1).f2⟩ : S51)]) l0_0 (l0_0.length : Int) (wrap64 (x11_1+1)) a1_0 a1_1 a1_2 a1_3) else (none)) else (gazetteerref22_Meets.l0 k1 x5_1 l0_0 (l0_0.length : Int) (wrap64 (x11_1+1)) a1_0 a1_1 a1_2 a1_3)) = some r:=H
      have A10:=Ak A100
      clear A100
      by_cases c11 : t182 = true
      ·subst c11
       have H1 : (if x5_1.length < 2932031007402 then (gazetteerref22_Meets.l0 k1 (x5_1 ++ [(⟨(rd_T51 l0_0 x11_1).f0,(⟨(rd_T51 l0_0 x11_1).f1.f0,(rd_T51 l0_0 x11_1).f1.f1,(rd_T51 l0_0 x11_1).f1.f2,(rd_T51 l0_0 x11_1).f1.f3⟩ : S36),(rd_T51 l0_0 x11_1).f2⟩ : S51)]) l0_0 (l0_0.length : Int) (wrap64 (x11_1+1)) a1_0 a1_1 a1_2 a1_3) else (none)) = some r:=by rw [if_pos rfl] at H;exact H
       clear H
       have H:=H1
       clear H1
       by_cases c12 : x5_1.length < 2932031007402
       ·rw [if_pos c12] at H
        have LMc12:=Ak c12
        clear c12
        obtain ⟨y183,hy183⟩ : ∃ y_ : List (S51),y_ = (x5_1 ++ [(⟨(rd_T51 l0_0 x11_1).f0,(⟨(rd_T51 l0_0 x11_1).f1.f0,(rd_T51 l0_0 x11_1).f1.f1,(rd_T51 l0_0 x11_1).f1.f2,(rd_T51 l0_0 x11_1).f1.f3⟩ : S36),(rd_T51 l0_0 x11_1).f2⟩ : S51)]):=⟨_,rfl⟩
        replace H : (gazetteerref22_Meets.l0 k1 y183 l0_0 (l0_0.length : Int) (wrap64 (x11_1+1)) a1_0 a1_1 a1_2 a1_3) = some r:=by first|(rw [hy183];with_reducible exact H)|(have H2_:=(Option.bind_some _ _).symm.trans H;rw [hy183];with_reducible exact H2_)|(have H2_:=(Option.bind_some _ _).symm.trans H;with_reducible exact H2_)|with_reducible exact H|(rw [hy183];exact H)|exact H
        have Ny183:=Ak hy183
        clear hy183
        have H':=Ak H
        clear H
        have p180 : 0 ≤ (x11_1 : Int):=of_decide_eq_true (by first|(with_reducible assumption)|assumption)
        have q180 : x11_1 < (l0_0.length : Int):=of_decide_eq_true (by first|(with_reducible assumption)|assumption)
        obtain ⟨ad180,e180,hx180_0,hx180_1,hx180_2,hx180_3,hx180_4,hx180_5⟩:=at_T51 HR0_0.out x11_1 p180 q180
        cases e180
        replace hx180_0:=(HB.out.cell (World.block_lt_of_cell? w _ hx180_0)).trans hx180_0
        replace hx180_1:=(HB.out.cell (World.block_lt_of_cell? w _ hx180_1)).trans hx180_1
        replace hx180_2:=(HB.out.cell (World.block_lt_of_cell? w _ hx180_2)).trans hx180_2
        replace hx180_3:=(HB.out.cell (World.block_lt_of_cell? w _ hx180_3)).trans hx180_3
        replace hx180_4:=(HB.out.cell (World.block_lt_of_cell? w _ hx180_4)).trans hx180_4
        replace hx180_5:=(HB.out.cell (World.block_lt_of_cell? w _ hx180_5)).trans hx180_5
        replace p180:=eq_true p180
        replace q180:=eq_true q180
        go_wp2_with (first|((with_reducible refine gate_dst (N:=7) rfl ?_);refine box_event ?hg (N:=7) ?hd (cs:=#[.int .u32 0,.int .i64 0,.int .i64 0,.int .i64 0,.int .i64 0,.int .i64 0]) (t:=51) ?hr ?_;(case hd => rfl);(case hg => rfl);(case hr => first|(go_simp;done)|(go_simp;rfl));intro gb181 hg w13 hbox hb;have n0_:=Ak (Kd.R_below (Kd.R_elderB (by (with_reducible repeat (first|apply Kd.R_alloc|apply Kd.R_drewN|apply Kd.R_drew));exact HO_5.out) gb181 (Nat.le_of_eq hg.symm)) hb);have n1_:=Ak (kB (g:=gb178) (o:=.cells #[.slice (some ad180) l0_0.length c0_0] 24 (0,0)) (by (with_reducible repeat (first|refine kN ?_ _|refine kD ?_|refine kA ?_ _));exact BK178.out) hb);have n2_:=Ak (kB (g:=gb179) (o:=.cells #[.int .i64 a1_0,.int .i64 a1_1,.int .i64 a1_2,.int .i64 a1_3] 36 (0,0)) (by (with_reducible repeat (first|refine kN ?_ _|refine kD ?_|refine kA ?_ _));exact BK179.out) hb);have n3_:=Ak (below_step (by repeat (first|(with_reducible first|exact HB.out|apply bA|apply bN|apply bD|refine bS ?_ GE178.out|refine bS ?_ GE179.out)|exact HB.out)) hb);have n4_:=Ak (hbox);have n5_:=Ak ((by rw [hg];exact (below_size (by repeat (first|(with_reducible first|exact HB.out|apply bA|apply bN|apply bD|refine bS ?_ GE178.out|refine bS ?_ GE179.out)|exact HB.out))) : w.heap.size ≤ gb181));have n6_:=Ak ((by rw [hg];exact (below_size (by repeat (first|(with_reducible first|exact HB.out|apply bA|apply bN|apply bD|refine bS ?_ GE178.out|refine bS ?_ GE179.out)|exact HB.out))) : w.heap.size ≤ gb181));have n7_:=Ak ((by rw [hg];exact Nat.ne_of_lt (blk_lt (g:=gb178) (o:=.cells #[.slice (some ad180) l0_0.length c0_0] 24 (0,0)) (by (with_reducible repeat (first|refine kN ?_ _|refine kD ?_|refine kA ?_ _));exact BK178.out)) : gb178 ≠ gb181));have n8_:=Ak ((by rw [hg];exact Nat.ne_of_gt (blk_lt (g:=gb178) (o:=.cells #[.slice (some ad180) l0_0.length c0_0] 24 (0,0)) (by (with_reducible repeat (first|refine kN ?_ _|refine kD ?_|refine kA ?_ _));exact BK178.out)) : gb181 ≠ gb178));have n9_:=Ak ((by rw [hg];exact Nat.ne_of_lt (blk_lt (g:=gb179) (o:=.cells #[.int .i64 a1_0,.int .i64 a1_1,.int .i64 a1_2,.int .i64 a1_3] 36 (0,0)) (by (with_reducible repeat (first|refine kN ?_ _|refine kD ?_|refine kA ?_ _));exact BK179.out)) : gb179 ≠ gb181));have n10_:=Ak ((by rw [hg];exact Nat.ne_of_gt (blk_lt (g:=gb179) (o:=.cells #[.int .i64 a1_0,.int .i64 a1_1,.int .i64 a1_2,.int .i64 a1_3] 36 (0,0)) (by (with_reducible repeat (first|refine kN ?_ _|refine kD ?_|refine kA ?_ _));exact BK179.out)) : gb181 ≠ gb179));clear HO_5;clear BK178;clear BK179;clear HB;have HO_5:=n0_;have BK178:=n1_;have BK179:=n2_;have HB:=n3_;have BK181:=n4_;have GW181:=n5_;have GE181:=n6_;have NB178_181:=n7_;have NB181_178:=n8_;have NB179_181:=n9_;have NB181_179:=n10_;clear n0_ n1_ n2_ n3_ n4_ n5_ n6_ n7_ n8_ n9_ n10_;clear hb hbox hg;have hnb14:=NB181_178.out;have hnc14:=NB178_181.out;have hnb15:=NB181_179.out;have hnc15:=NB179_181.out;have hcz16_0 : w13.cell? ⟨gb181,0,none⟩ = some (.int .u32 0):=(kC BK181.out 0).trans rfl;have hcz16_1 : w13.cell? ⟨gb181,1,none⟩ = some (.int .i64 0):=(kC BK181.out 1).trans rfl;have hcz16_2 : w13.cell? ⟨gb181,2,none⟩ = some (.int .i64 0):=(kC BK181.out 2).trans rfl;have hcz16_3 : w13.cell? ⟨gb181,3,none⟩ = some (.int .i64 0):=(kC BK181.out 3).trans rfl;have hcz16_4 : w13.cell? ⟨gb181,4,none⟩ = some (.int .i64 0):=(kC BK181.out 4).trans rfl;have hcz16_5 : w13.cell? ⟨gb181,5,none⟩ = some (.int .i64 0):=(kC BK181.out 5).trans rfl;have hfz16_0:=blk_frozen BK181.out 0;have hfz16_1:=blk_frozen BK181.out 1;have hfz16_2:=blk_frozen BK181.out 2;have hfz16_3:=blk_frozen BK181.out 3;have hfz16_4:=blk_frozen BK181.out 4;have hfz16_5:=blk_frozen BK181.out 5;have hnb17:=NB179_178.out;have hnc17:=NB178_179.out;have hcz18_0 : w13.cell? ⟨gb179,0,none⟩ = some (.int .i64 a1_0):=(kC BK179.out 0).trans rfl;have hcz18_1 : w13.cell? ⟨gb179,1,none⟩ = some (.int .i64 a1_1):=(kC BK179.out 1).trans rfl;have hcz18_2 : w13.cell? ⟨gb179,2,none⟩ = some (.int .i64 a1_2):=(kC BK179.out 2).trans rfl;have hcz18_3 : w13.cell? ⟨gb179,3,none⟩ = some (.int .i64 a1_3):=(kC BK179.out 3).trans rfl;have hfz18_0:=blk_frozen BK179.out 0;have hfz18_1:=blk_frozen BK179.out 1;have hfz18_2:=blk_frozen BK179.out 2;have hfz18_3:=blk_frozen BK179.out 3)|((with_reducible refine gate_callee (f:=52) rfl ?_);refine goesL_ (some 18) rfl rfl Try.func52 (by kernel_rfl) rfl #[.agg #[.int .i64 ((rd_T51 l0_0 x11_1).f1.f0),.int .i64 ((rd_T51 l0_0 x11_1).f1.f1),.int .i64 ((rd_T51 l0_0 x11_1).f1.f2),.int .i64 ((rd_T51 l0_0 x11_1).f1.f3)],.agg #[.int .i64 a1_0,.int .i64 a1_1,.int .i64 a1_2,.int .i64 a1_3]] rfl (by (try simp only [List.map_toArray,List.map_cons,List.map_nil]);first|done|rfl|(simp only [List.length_drop,List.length_take];rfl)) ?_;(with_reducible refine (gazetteerref09_Meets.calls k1 ((rd_T51 l0_0 x11_1).f1.f0) ((rd_T51 l0_0 x11_1).f1.f1) ((rd_T51 l0_0 x11_1).f1.f2) ((rd_T51 l0_0 x11_1).f1.f3) a1_0 a1_1 a1_2 a1_3 true _ A10.out).mono ?_);rintro e w19 ⟨rfl,hb⟩;refine ⟨_,rfl,?_⟩;have n0_:=Ak (Kd.R_below (by (with_reducible repeat (first|apply Kd.R_alloc|apply Kd.R_drewN|apply Kd.R_drew));exact (Kd.R_mono (Kd.R_far (p:=⟨gb181,5,none⟩) (Kd.R_far (p:=⟨gb181,4,none⟩) (Kd.R_far (p:=⟨gb181,3,none⟩) (Kd.R_far (p:=⟨gb181,2,none⟩) (Kd.R_far (p:=⟨gb181,1,none⟩) (Kd.R_far (p:=⟨gb181,0,none⟩) (Kd.R_mono HO_5.out (fun k_ hk => (⟨hk,hk.2⟩ : _∧k_ ≠ gb181))) (fun _ hk => hk.2) (.int .u32 ((rd_T51 l0_0 x11_1).f0))) (fun _ hk => hk.2) (.int .i64 ((rd_T51 l0_0 x11_1).f1.f0))) (fun _ hk => hk.2) (.int .i64 ((rd_T51 l0_0 x11_1).f1.f1))) (fun _ hk => hk.2) (.int .i64 ((rd_T51 l0_0 x11_1).f1.f2))) (fun _ hk => hk.2) (.int .i64 ((rd_T51 l0_0 x11_1).f1.f3))) (fun _ hk => hk.2) (.int .i64 ((rd_T51 l0_0 x11_1).f2))) (fun _ h_ => h_.1))) hb);have n1_:=Ak (kB (g:=gb178) (o:=.cells #[.slice (some ad180) l0_0.length c0_0] 24 (0,0)) (by (with_reducible repeat (first|refine kN ?_ _|refine kD ?_|refine kA ?_ _));refine blk_far ?_ NB178_181.out _;(with_reducible repeat (first|refine kN ?_ _|refine kD ?_|refine kA ?_ _));refine blk_far ?_ NB178_181.out _;(with_reducible repeat (first|refine kN ?_ _|refine kD ?_|refine kA ?_ _));refine blk_far ?_ NB178_181.out _;(with_reducible repeat (first|refine kN ?_ _|refine kD ?_|refine kA ?_ _));refine blk_far ?_ NB178_181.out _;(with_reducible repeat (first|refine kN ?_ _|refine kD ?_|refine kA ?_ _));refine blk_far ?_ NB178_181.out _;(with_reducible repeat (first|refine kN ?_ _|refine kD ?_|refine kA ?_ _));refine blk_far ?_ NB178_181.out _;(with_reducible repeat (first|refine kN ?_ _|refine kD ?_|refine kA ?_ _));exact BK178.out) hb);have n2_:=Ak (kB (g:=gb179) (o:=.cells #[.int .i64 a1_0,.int .i64 a1_1,.int .i64 a1_2,.int .i64 a1_3] 36 (0,0)) (by (with_reducible repeat (first|refine kN ?_ _|refine kD ?_|refine kA ?_ _));refine blk_far ?_ NB179_181.out _;(with_reducible repeat (first|refine kN ?_ _|refine kD ?_|refine kA ?_ _));refine blk_far ?_ NB179_181.out _;(with_reducible repeat (first|refine kN ?_ _|refine kD ?_|refine kA ?_ _));refine blk_far ?_ NB179_181.out _;(with_reducible repeat (first|refine kN ?_ _|refine kD ?_|refine kA ?_ _));refine blk_far ?_ NB179_181.out _;(with_reducible repeat (first|refine kN ?_ _|refine kD ?_|refine kA ?_ _));refine blk_far ?_ NB179_181.out _;(with_reducible repeat (first|refine kN ?_ _|refine kD ?_|refine kA ?_ _));refine blk_far ?_ NB179_181.out _;(with_reducible repeat (first|refine kN ?_ _|refine kD ?_|refine kA ?_ _));exact BK179.out) hb);have n3_:=Ak (kB (g:=gb181) (o:=.cells #[.int .u32 ((rd_T51 l0_0 x11_1).f0),.int .i64 ((rd_T51 l0_0 x11_1).f1.f0),.int .i64 ((rd_T51 l0_0 x11_1).f1.f1),.int .i64 ((rd_T51 l0_0 x11_1).f1.f2),.int .i64 ((rd_T51 l0_0 x11_1).f1.f3),.int .i64 ((rd_T51 l0_0 x11_1).f2)] 51 (0,0)) (by (with_reducible repeat (first|refine kN ?_ _|refine kD ?_|refine kA ?_ _));refine blk_put (cs:=#[.int .u32 ((rd_T51 l0_0 x11_1).f0),.int .i64 ((rd_T51 l0_0 x11_1).f1.f0),.int .i64 ((rd_T51 l0_0 x11_1).f1.f1),.int .i64 ((rd_T51 l0_0 x11_1).f1.f2),.int .i64 ((rd_T51 l0_0 x11_1).f1.f3),.int .i64 0]) ?_ 5 _ rfl;(with_reducible repeat (first|refine kN ?_ _|refine kD ?_|refine kA ?_ _));refine blk_put (cs:=#[.int .u32 ((rd_T51 l0_0 x11_1).f0),.int .i64 ((rd_T51 l0_0 x11_1).f1.f0),.int .i64 ((rd_T51 l0_0 x11_1).f1.f1),.int .i64 ((rd_T51 l0_0 x11_1).f1.f2),.int .i64 0,.int .i64 0]) ?_ 4 _ rfl;(with_reducible repeat (first|refine kN ?_ _|refine kD ?_|refine kA ?_ _));refine blk_put (cs:=#[.int .u32 ((rd_T51 l0_0 x11_1).f0),.int .i64 ((rd_T51 l0_0 x11_1).f1.f0),.int .i64 ((rd_T51 l0_0 x11_1).f1.f1),.int .i64 0,.int .i64 0,.int .i64 0]) ?_ 3 _ rfl;(with_reducible repeat (first|refine kN ?_ _|refine kD ?_|refine kA ?_ _));refine blk_put (cs:=#[.int .u32 ((rd_T51 l0_0 x11_1).f0),.int .i64 ((rd_T51 l0_0 x11_1).f1.f0),.int .i64 0,.int .i64 0,.int .i64 0,.int .i64 0]) ?_ 2 _ rfl;(with_reducible repeat (first|refine kN ?_ _|refine kD ?_|refine kA ?_ _));refine blk_put (cs:=#[.int .u32 ((rd_T51 l0_0 x11_1).f0),.int .i64 0,.int .i64 0,.int .i64 0,.int .i64 0,.int .i64 0]) ?_ 1 _ rfl;(with_reducible repeat (first|refine kN ?_ _|refine kD ?_|refine kA ?_ _));refine blk_put (cs:=#[.int .u32 0,.int .i64 0,.int .i64 0,.int .i64 0,.int .i64 0,.int .i64 0]) ?_ 0 _ rfl;(with_reducible repeat (first|refine kN ?_ _|refine kD ?_|refine kA ?_ _));exact BK181.out) hb);have n4_:=Ak (below_step (by repeat (first|(with_reducible first|exact HB.out|apply bA|apply bN|apply bD|refine bS ?_ GE178.out|refine bS ?_ GE179.out|refine bS ?_ GE181.out)|exact HB.out)) hb);clear HO_5;clear BK178;clear BK179;clear BK181;clear HB;have HO_5:=n0_;have BK178:=n1_;have BK179:=n2_;have BK181:=n3_;have HB:=n4_;clear n0_ n1_ n2_ n3_ n4_;(try clear hb);(try clear hb2);(try clear hk);(try clear hi);have hcz20_0 : w19.cell? ⟨gb181,0,none⟩ = some (.int .u32 ((rd_T51 l0_0 x11_1).f0)):=(kC BK181.out 0).trans rfl;have hcz20_1 : w19.cell? ⟨gb181,1,none⟩ = some (.int .i64 ((rd_T51 l0_0 x11_1).f1.f0)):=(kC BK181.out 1).trans rfl;have hcz20_2 : w19.cell? ⟨gb181,2,none⟩ = some (.int .i64 ((rd_T51 l0_0 x11_1).f1.f1)):=(kC BK181.out 2).trans rfl;have hcz20_3 : w19.cell? ⟨gb181,3,none⟩ = some (.int .i64 ((rd_T51 l0_0 x11_1).f1.f2)):=(kC BK181.out 3).trans rfl;have hcz20_4 : w19.cell? ⟨gb181,4,none⟩ = some (.int .i64 ((rd_T51 l0_0 x11_1).f1.f3)):=(kC BK181.out 4).trans rfl;have hcz20_5 : w19.cell? ⟨gb181,5,none⟩ = some (.int .i64 ((rd_T51 l0_0 x11_1).f2)):=(kC BK181.out 5).trans rfl;have hfz20_0:=blk_frozen BK181.out 0;have hfz20_1:=blk_frozen BK181.out 1;have hfz20_2:=blk_frozen BK181.out 2;have hfz20_3:=blk_frozen BK181.out 3;have hfz20_4:=blk_frozen BK181.out 4;have hfz20_5:=blk_frozen BK181.out 5)|((with_reducible refine gate_builtin (b:=.append) (xs:=#[.tmp 19,.tmp 21]) rfl ?_);at_builtin;refine Kd.R_append k51 (w0:=w) w.heap.size rfl (.tmp 19) (.tmp 21) 22 51 (.agg #[(.int .u32 0),(.int .i64 0),(.int .i64 0),(.int .i64 0),(.int .i64 0),(.int .i64 0)]) 48 rfl Try.underlying22 info51 rfl (by decide) (by omega) u5 x5_1 (⟨(rd_T51 l0_0 x11_1).f0,(⟨(rd_T51 l0_0 x11_1).f1.f0,(rd_T51 l0_0 x11_1).f1.f1,(rd_T51 l0_0 x11_1).f1.f2,(rd_T51 l0_0 x11_1).f1.f3⟩ : S36),(rd_T51 l0_0 x11_1).f2⟩ : S51) [.int .u32 ((rd_T51 l0_0 x11_1).f0),.int .i64 ((rd_T51 l0_0 x11_1).f1.f0),.int .i64 ((rd_T51 l0_0 x11_1).f1.f1),.int .i64 ((rd_T51 l0_0 x11_1).f1.f2),.int .i64 ((rd_T51 l0_0 x11_1).f1.f3),.int .i64 ((rd_T51 l0_0 x11_1).f2)] (fun k_ => k_ ≠ gb181) (fun _ => False) rfl rfl ?aP (fun _ hk => hk.elim) ?aF ?aO ?aB ?aS ?aL ?_;(case aP => exact k51_mkM _ _ _ (⟨(rd_T51 l0_0 x11_1).f0,(⟨(rd_T51 l0_0 x11_1).f1.f0,(rd_T51 l0_0 x11_1).f1.f1,(rd_T51 l0_0 x11_1).f1.f2,(rd_T51 l0_0 x11_1).f1.f3⟩ : S36),(rd_T51 l0_0 x11_1).f2⟩ : S51));(case aB => exact (by repeat (first|(with_reducible first|exact HB.out|apply bA|apply bN|apply bD|refine bS ?_ GE178.out|refine bS ?_ GE179.out|refine bS ?_ GE181.out)|exact HB.out)));(case aF => exact (fun k_ hk => Kd.freshB (g:=gb181) (o:=.cells #[.int .u32 ((rd_T51 l0_0 x11_1).f0),.int .i64 ((rd_T51 l0_0 x11_1).f1.f0),.int .i64 ((rd_T51 l0_0 x11_1).f1.f1),.int .i64 ((rd_T51 l0_0 x11_1).f1.f2),.int .i64 ((rd_T51 l0_0 x11_1).f1.f3),.int .i64 ((rd_T51 l0_0 x11_1).f2)] 51 (0,0)) (by (with_reducible repeat (first|refine kN ?_ _|refine kD ?_|refine kA ?_ _));exact BK181.out) k_ hk));(case aO => exact (by (with_reducible repeat (first|apply Kd.R_alloc|apply Kd.R_drewN|apply Kd.R_drew));exact Kd.R_mono HO_5.out (fun _ hk => hk.2)));(case aS => exact (below_size (by repeat (first|(with_reducible first|exact HB.out|apply bA|apply bN|apply bD|refine bS ?_ GE178.out|refine bS ?_ GE179.out|refine bS ?_ GE181.out)|exact HB.out))));(case aL => have:=LMc12.out;omega);intro v184 w21 ho hb hg hat;rw [← Ny183.out] at ho;have n0_:=Ak (blk_grown (g:=gb178) (o:=.cells #[.slice (some ad180) l0_0.length c0_0] 24 (0,0)) (by (with_reducible repeat (first|refine kN ?_ _|refine kD ?_|refine kA ?_ _));exact BK178.out) hg (Kd.R_ne HO_5.out BK178.out (by decide)));have n1_:=Ak (blk_grown (g:=gb179) (o:=.cells #[.int .i64 a1_0,.int .i64 a1_1,.int .i64 a1_2,.int .i64 a1_3] 36 (0,0)) (by (with_reducible repeat (first|refine kN ?_ _|refine kD ?_|refine kA ?_ _));exact BK179.out) hg (Kd.R_ne HO_5.out BK179.out (by decide)));have n2_:=Ak (blk_grown (g:=gb181) (o:=.cells #[.int .u32 ((rd_T51 l0_0 x11_1).f0),.int .i64 ((rd_T51 l0_0 x11_1).f1.f0),.int .i64 ((rd_T51 l0_0 x11_1).f1.f1),.int .i64 ((rd_T51 l0_0 x11_1).f1.f2),.int .i64 ((rd_T51 l0_0 x11_1).f1.f3),.int .i64 ((rd_T51 l0_0 x11_1).f2)] 51 (0,0)) (by (with_reducible repeat (first|refine kN ?_ _|refine kD ?_|refine kA ?_ _));exact BK181.out) hg (Kd.R_away HO_5.out (fun _ hk => hk.2)));have n3_:=Ak (hb);have n4_:=Ak (ho);clear BK178;clear BK179;clear BK181;clear HB;clear HO_5;have BK178:=n0_;have BK179:=n1_;have BK181:=n2_;have HB:=n3_;have HO185:=n4_;clear n0_ n1_ n2_ n3_ n4_;clear ho hb hg hat))
        go_roundg k1
        case measure => have:=HK1.out;omega
        case rel => exact ⟨(y183),(wrap64 (x11_1+1)),(by first|rfl|(simp;done)|(simp [*];done)),H',⟨by have:=HK1.out;omega⟩,⟨by (with_reducible repeat (first|apply Kd.R_alloc|apply Kd.R_drewN|apply Kd.R_drew));exact Kd.R_mono HO185.out (fun _ hk => trivial)⟩,⟨by (with_reducible repeat (first|refine kN ?_ _|refine kD ?_|refine kA ?_ _));exact BK178.out⟩,⟨by (with_reducible repeat (first|refine kN ?_ _|refine kD ?_|refine kA ?_ _));exact BK179.out⟩,⟨by repeat (first|(with_reducible first|exact HB.out|apply bA|apply bN|apply bD|refine bS ?_ GE178.out|refine bS ?_ GE179.out|refine bS ?_ GE181.out)|exact HB.out)⟩⟩
       ·rw [if_neg c12] at H
        exact absurd H (by simp)
      ·replace c11:=Bool.eq_false_iff.mpr c11
       subst c11
       have H1 : (gazetteerref22_Meets.l0 k1 x5_1 l0_0 (l0_0.length : Int) (wrap64 (x11_1+1)) a1_0 a1_1 a1_2 a1_3) = some r:=by rw [if_neg (show ¬ (false = true) by decide)] at H;exact H
       clear H
       have H:=H1
       clear H1
       have H':=Ak H
       clear H
       have p180 : 0 ≤ (x11_1 : Int):=of_decide_eq_true (by first|(with_reducible assumption)|assumption)
       have q180 : x11_1 < (l0_0.length : Int):=of_decide_eq_true (by first|(with_reducible assumption)|assumption)
       obtain ⟨ad180,e180,hx180_0,hx180_1,hx180_2,hx180_3,hx180_4,hx180_5⟩:=at_T51 HR0_0.out x11_1 p180 q180
       cases e180
       replace hx180_0:=(HB.out.cell (World.block_lt_of_cell? w _ hx180_0)).trans hx180_0
       replace hx180_1:=(HB.out.cell (World.block_lt_of_cell? w _ hx180_1)).trans hx180_1
       replace hx180_2:=(HB.out.cell (World.block_lt_of_cell? w _ hx180_2)).trans hx180_2
       replace hx180_3:=(HB.out.cell (World.block_lt_of_cell? w _ hx180_3)).trans hx180_3
       replace hx180_4:=(HB.out.cell (World.block_lt_of_cell? w _ hx180_4)).trans hx180_4
       replace hx180_5:=(HB.out.cell (World.block_lt_of_cell? w _ hx180_5)).trans hx180_5
       replace p180:=eq_true p180
       replace q180:=eq_true q180
       go_wp2_with (first|((with_reducible refine gate_dst (N:=7) rfl ?_);refine box_event ?hg (N:=7) ?hd (cs:=#[.int .u32 0,.int .i64 0,.int .i64 0,.int .i64 0,.int .i64 0,.int .i64 0]) (t:=51) ?hr ?_;(case hd => rfl);(case hg => rfl);(case hr => first|(go_simp;done)|(go_simp;rfl));intro gb181 hg w22 hbox hb;have n0_:=Ak (Kd.R_below (Kd.R_elderB (by (with_reducible repeat (first|apply Kd.R_alloc|apply Kd.R_drewN|apply Kd.R_drew));exact HO_5.out) gb181 (Nat.le_of_eq hg.symm)) hb);have n1_:=Ak (kB (g:=gb178) (o:=.cells #[.slice (some ad180) l0_0.length c0_0] 24 (0,0)) (by (with_reducible repeat (first|refine kN ?_ _|refine kD ?_|refine kA ?_ _));exact BK178.out) hb);have n2_:=Ak (kB (g:=gb179) (o:=.cells #[.int .i64 a1_0,.int .i64 a1_1,.int .i64 a1_2,.int .i64 a1_3] 36 (0,0)) (by (with_reducible repeat (first|refine kN ?_ _|refine kD ?_|refine kA ?_ _));exact BK179.out) hb);have n3_:=Ak (below_step (by repeat (first|(with_reducible first|exact HB.out|apply bA|apply bN|apply bD|refine bS ?_ GE178.out|refine bS ?_ GE179.out)|exact HB.out)) hb);have n4_:=Ak (hbox);have n5_:=Ak ((by rw [hg];exact (below_size (by repeat (first|(with_reducible first|exact HB.out|apply bA|apply bN|apply bD|refine bS ?_ GE178.out|refine bS ?_ GE179.out)|exact HB.out))) : w.heap.size ≤ gb181));have n6_:=Ak ((by rw [hg];exact (below_size (by repeat (first|(with_reducible first|exact HB.out|apply bA|apply bN|apply bD|refine bS ?_ GE178.out|refine bS ?_ GE179.out)|exact HB.out))) : w.heap.size ≤ gb181));have n7_:=Ak ((by rw [hg];exact Nat.ne_of_lt (blk_lt (g:=gb178) (o:=.cells #[.slice (some ad180) l0_0.length c0_0] 24 (0,0)) (by (with_reducible repeat (first|refine kN ?_ _|refine kD ?_|refine kA ?_ _));exact BK178.out)) : gb178 ≠ gb181));have n8_:=Ak ((by rw [hg];exact Nat.ne_of_gt (blk_lt (g:=gb178) (o:=.cells #[.slice (some ad180) l0_0.length c0_0] 24 (0,0)) (by (with_reducible repeat (first|refine kN ?_ _|refine kD ?_|refine kA ?_ _));exact BK178.out)) : gb181 ≠ gb178));have n9_:=Ak ((by rw [hg];exact Nat.ne_of_lt (blk_lt (g:=gb179) (o:=.cells #[.int .i64 a1_0,.int .i64 a1_1,.int .i64 a1_2,.int .i64 a1_3] 36 (0,0)) (by (with_reducible repeat (first|refine kN ?_ _|refine kD ?_|refine kA ?_ _));exact BK179.out)) : gb179 ≠ gb181));have n10_:=Ak ((by rw [hg];exact Nat.ne_of_gt (blk_lt (g:=gb179) (o:=.cells #[.int .i64 a1_0,.int .i64 a1_1,.int .i64 a1_2,.int .i64 a1_3] 36 (0,0)) (by (with_reducible repeat (first|refine kN ?_ _|refine kD ?_|refine kA ?_ _));exact BK179.out)) : gb181 ≠ gb179));clear HO_5;clear BK178;clear BK179;clear HB;have HO_5:=n0_;have BK178:=n1_;have BK179:=n2_;have HB:=n3_;have BK181:=n4_;have GW181:=n5_;have GE181:=n6_;have NB178_181:=n7_;have NB181_178:=n8_;have NB179_181:=n9_;have NB181_179:=n10_;clear n0_ n1_ n2_ n3_ n4_ n5_ n6_ n7_ n8_ n9_ n10_;clear hb hbox hg;have hnb23:=NB181_178.out;have hnc23:=NB178_181.out;have hnb24:=NB181_179.out;have hnc24:=NB179_181.out;have hcz25_0 : w22.cell? ⟨gb181,0,none⟩ = some (.int .u32 0):=(kC BK181.out 0).trans rfl;have hcz25_1 : w22.cell? ⟨gb181,1,none⟩ = some (.int .i64 0):=(kC BK181.out 1).trans rfl;have hcz25_2 : w22.cell? ⟨gb181,2,none⟩ = some (.int .i64 0):=(kC BK181.out 2).trans rfl;have hcz25_3 : w22.cell? ⟨gb181,3,none⟩ = some (.int .i64 0):=(kC BK181.out 3).trans rfl;have hcz25_4 : w22.cell? ⟨gb181,4,none⟩ = some (.int .i64 0):=(kC BK181.out 4).trans rfl;have hcz25_5 : w22.cell? ⟨gb181,5,none⟩ = some (.int .i64 0):=(kC BK181.out 5).trans rfl;have hfz25_0:=blk_frozen BK181.out 0;have hfz25_1:=blk_frozen BK181.out 1;have hfz25_2:=blk_frozen BK181.out 2;have hfz25_3:=blk_frozen BK181.out 3;have hfz25_4:=blk_frozen BK181.out 4;have hfz25_5:=blk_frozen BK181.out 5;have hnb26:=NB179_178.out;have hnc26:=NB178_179.out;have hcz27_0 : w22.cell? ⟨gb179,0,none⟩ = some (.int .i64 a1_0):=(kC BK179.out 0).trans rfl;have hcz27_1 : w22.cell? ⟨gb179,1,none⟩ = some (.int .i64 a1_1):=(kC BK179.out 1).trans rfl;have hcz27_2 : w22.cell? ⟨gb179,2,none⟩ = some (.int .i64 a1_2):=(kC BK179.out 2).trans rfl;have hcz27_3 : w22.cell? ⟨gb179,3,none⟩ = some (.int .i64 a1_3):=(kC BK179.out 3).trans rfl;have hfz27_0:=blk_frozen BK179.out 0;have hfz27_1:=blk_frozen BK179.out 1;have hfz27_2:=blk_frozen BK179.out 2;have hfz27_3:=blk_frozen BK179.out 3)|((with_reducible refine gate_callee (f:=52) rfl ?_);refine goesL_ (some 18) rfl rfl Try.func52 (by kernel_rfl) rfl #[.agg #[.int .i64 ((rd_T51 l0_0 x11_1).f1.f0),.int .i64 ((rd_T51 l0_0 x11_1).f1.f1),.int .i64 ((rd_T51 l0_0 x11_1).f1.f2),.int .i64 ((rd_T51 l0_0 x11_1).f1.f3)],.agg #[.int .i64 a1_0,.int .i64 a1_1,.int .i64 a1_2,.int .i64 a1_3]] rfl (by (try simp only [List.map_toArray,List.map_cons,List.map_nil]);first|done|rfl|(simp only [List.length_drop,List.length_take];rfl)) ?_;(with_reducible refine (gazetteerref09_Meets.calls k1 ((rd_T51 l0_0 x11_1).f1.f0) ((rd_T51 l0_0 x11_1).f1.f1) ((rd_T51 l0_0 x11_1).f1.f2) ((rd_T51 l0_0 x11_1).f1.f3) a1_0 a1_1 a1_2 a1_3 false _ A10.out).mono ?_);rintro e w28 ⟨rfl,hb⟩;refine ⟨_,rfl,?_⟩;have n0_:=Ak (Kd.R_below (by (with_reducible repeat (first|apply Kd.R_alloc|apply Kd.R_drewN|apply Kd.R_drew));exact (Kd.R_mono (Kd.R_far (p:=⟨gb181,5,none⟩) (Kd.R_far (p:=⟨gb181,4,none⟩) (Kd.R_far (p:=⟨gb181,3,none⟩) (Kd.R_far (p:=⟨gb181,2,none⟩) (Kd.R_far (p:=⟨gb181,1,none⟩) (Kd.R_far (p:=⟨gb181,0,none⟩) (Kd.R_mono HO_5.out (fun k_ hk => (⟨hk,hk.2⟩ : _∧k_ ≠ gb181))) (fun _ hk => hk.2) (.int .u32 ((rd_T51 l0_0 x11_1).f0))) (fun _ hk => hk.2) (.int .i64 ((rd_T51 l0_0 x11_1).f1.f0))) (fun _ hk => hk.2) (.int .i64 ((rd_T51 l0_0 x11_1).f1.f1))) (fun _ hk => hk.2) (.int .i64 ((rd_T51 l0_0 x11_1).f1.f2))) (fun _ hk => hk.2) (.int .i64 ((rd_T51 l0_0 x11_1).f1.f3))) (fun _ hk => hk.2) (.int .i64 ((rd_T51 l0_0 x11_1).f2))) (fun _ h_ => h_.1))) hb);have n1_:=Ak (kB (g:=gb178) (o:=.cells #[.slice (some ad180) l0_0.length c0_0] 24 (0,0)) (by (with_reducible repeat (first|refine kN ?_ _|refine kD ?_|refine kA ?_ _));refine blk_far ?_ NB178_181.out _;(with_reducible repeat (first|refine kN ?_ _|refine kD ?_|refine kA ?_ _));refine blk_far ?_ NB178_181.out _;(with_reducible repeat (first|refine kN ?_ _|refine kD ?_|refine kA ?_ _));refine blk_far ?_ NB178_181.out _;(with_reducible repeat (first|refine kN ?_ _|refine kD ?_|refine kA ?_ _));refine blk_far ?_ NB178_181.out _;(with_reducible repeat (first|refine kN ?_ _|refine kD ?_|refine kA ?_ _));refine blk_far ?_ NB178_181.out _;(with_reducible repeat (first|refine kN ?_ _|refine kD ?_|refine kA ?_ _));refine blk_far ?_ NB178_181.out _;(with_reducible repeat (first|refine kN ?_ _|refine kD ?_|refine kA ?_ _));exact BK178.out) hb);have n2_:=Ak (kB (g:=gb179) (o:=.cells #[.int .i64 a1_0,.int .i64 a1_1,.int .i64 a1_2,.int .i64 a1_3] 36 (0,0)) (by (with_reducible repeat (first|refine kN ?_ _|refine kD ?_|refine kA ?_ _));refine blk_far ?_ NB179_181.out _;(with_reducible repeat (first|refine kN ?_ _|refine kD ?_|refine kA ?_ _));refine blk_far ?_ NB179_181.out _;(with_reducible repeat (first|refine kN ?_ _|refine kD ?_|refine kA ?_ _));refine blk_far ?_ NB179_181.out _;(with_reducible repeat (first|refine kN ?_ _|refine kD ?_|refine kA ?_ _));refine blk_far ?_ NB179_181.out _;(with_reducible repeat (first|refine kN ?_ _|refine kD ?_|refine kA ?_ _));refine blk_far ?_ NB179_181.out _;(with_reducible repeat (first|refine kN ?_ _|refine kD ?_|refine kA ?_ _));refine blk_far ?_ NB179_181.out _;(with_reducible repeat (first|refine kN ?_ _|refine kD ?_|refine kA ?_ _));exact BK179.out) hb);have n3_:=Ak (kB (g:=gb181) (o:=.cells #[.int .u32 ((rd_T51 l0_0 x11_1).f0),.int .i64 ((rd_T51 l0_0 x11_1).f1.f0),.int .i64 ((rd_T51 l0_0 x11_1).f1.f1),.int .i64 ((rd_T51 l0_0 x11_1).f1.f2),.int .i64 ((rd_T51 l0_0 x11_1).f1.f3),.int .i64 ((rd_T51 l0_0 x11_1).f2)] 51 (0,0)) (by (with_reducible repeat (first|refine kN ?_ _|refine kD ?_|refine kA ?_ _));refine blk_put (cs:=#[.int .u32 ((rd_T51 l0_0 x11_1).f0),.int .i64 ((rd_T51 l0_0 x11_1).f1.f0),.int .i64 ((rd_T51 l0_0 x11_1).f1.f1),.int .i64 ((rd_T51 l0_0 x11_1).f1.f2),.int .i64 ((rd_T51 l0_0 x11_1).f1.f3),.int .i64 0]) ?_ 5 _ rfl;(with_reducible repeat (first|refine kN ?_ _|refine kD ?_|refine kA ?_ _));refine blk_put (cs:=#[.int .u32 ((rd_T51 l0_0 x11_1).f0),.int .i64 ((rd_T51 l0_0 x11_1).f1.f0),.int .i64 ((rd_T51 l0_0 x11_1).f1.f1),.int .i64 ((rd_T51 l0_0 x11_1).f1.f2),.int .i64 0,.int .i64 0]) ?_ 4 _ rfl;(with_reducible repeat (first|refine kN ?_ _|refine kD ?_|refine kA ?_ _));refine blk_put (cs:=#[.int .u32 ((rd_T51 l0_0 x11_1).f0),.int .i64 ((rd_T51 l0_0 x11_1).f1.f0),.int .i64 ((rd_T51 l0_0 x11_1).f1.f1),.int .i64 0,.int .i64 0,.int .i64 0]) ?_ 3 _ rfl;(with_reducible repeat (first|refine kN ?_ _|refine kD ?_|refine kA ?_ _));refine blk_put (cs:=#[.int .u32 ((rd_T51 l0_0 x11_1).f0),.int .i64 ((rd_T51 l0_0 x11_1).f1.f0),.int .i64 0,.int .i64 0,.int .i64 0,.int .i64 0]) ?_ 2 _ rfl;(with_reducible repeat (first|refine kN ?_ _|refine kD ?_|refine kA ?_ _));refine blk_put (cs:=#[.int .u32 ((rd_T51 l0_0 x11_1).f0),.int .i64 0,.int .i64 0,.int .i64 0,.int .i64 0,.int .i64 0]) ?_ 1 _ rfl;(with_reducible repeat (first|refine kN ?_ _|refine kD ?_|refine kA ?_ _));refine blk_put (cs:=#[.int .u32 0,.int .i64 0,.int .i64 0,.int .i64 0,.int .i64 0,.int .i64 0]) ?_ 0 _ rfl;(with_reducible repeat (first|refine kN ?_ _|refine kD ?_|refine kA ?_ _));exact BK181.out) hb);have n4_:=Ak (below_step (by repeat (first|(with_reducible first|exact HB.out|apply bA|apply bN|apply bD|refine bS ?_ GE178.out|refine bS ?_ GE179.out|refine bS ?_ GE181.out)|exact HB.out)) hb);clear HO_5;clear BK178;clear BK179;clear BK181;clear HB;have HO_5:=n0_;have BK178:=n1_;have BK179:=n2_;have BK181:=n3_;have HB:=n4_;clear n0_ n1_ n2_ n3_ n4_;(try clear hb);(try clear hb2);(try clear hk);(try clear hi)))
       go_roundg k1
       case measure => have:=HK1.out;omega
       case rel => exact ⟨(x5_1),(wrap64 (x11_1+1)),(by first|rfl|(simp;done)|(simp [*];done)),H',⟨by have:=HK1.out;omega⟩,⟨by (with_reducible repeat (first|apply Kd.R_alloc|apply Kd.R_drewN|apply Kd.R_drew));exact Kd.R_mono HO_5.out (fun _ hk => trivial)⟩,⟨by (with_reducible repeat (first|refine kN ?_ _|refine kD ?_|refine kA ?_ _));exact BK178.out⟩,⟨by (with_reducible repeat (first|refine kN ?_ _|refine kD ?_|refine kA ?_ _));exact BK179.out⟩,⟨by repeat (first|(with_reducible first|exact HB.out|apply bA|apply bN|apply bD|refine bS ?_ GE178.out|refine bS ?_ GE179.out|refine bS ?_ GE181.out)|exact HB.out)⟩⟩
     ·rw [if_neg c9] at H
      exact absurd H (by simp)
    ·rw [if_neg c8] at H
     exact absurd H (by simp)
   ·rw [if_neg c7] at H
    have c7b0 : decide (x11_1 < (l0_0.length : Int)) = false:=decide_eq_false c7
    clear c7
    obtain rfl:=Option.some.inj H
    go_wp2
    go_ret
    exact ⟨_,by first|rfl|(simp [errW_none,errW_some] <;> rfl)|(simp [*,errW_none,errW_some] <;> rfl),by (with_reducible repeat (first|apply Kd.R_alloc|apply Kd.R_drewN|apply Kd.R_drew));exact HO_5.out,by repeat (first|(with_reducible first|exact HB.out|apply bA|apply bN|apply bD|refine bS ?_ GE178.out|refine bS ?_ GE179.out)|exact HB.out)⟩
end Go.Proofs.Ytknlbfandkmeiaa.M
end
section
namespace Go.Proofs.Ytknlbfandkmeiaa.M
open Go.RowKit Go.Proofs.YtknlbfandkmeiaaW.PrintWords Go.Proofs.YtknlbfandkmeiaaW.PrintLast Go.Proofs.YtknlbfandkmeiaaW.PrintMore
attribute [local go_sem] max2_int min2_int max_two min_two max_three min_three max_four min_four   -- for this text's walks alone
def gazetteerref09_Right.f (a0 : Int) (a1_0 : Int) (a1_1 : Int) (a1_2 : Int) (a1_3 : Int) : Option (Bool) := (gazetteerref09_Box.f a1_0 a1_1 a1_2 a1_3).bind fun t187 => (if t187 = true then (if a0 < 1 then (some false) else (if a0 > 3 then (some false) else (if a0 = 1 then (some true) else (if a0 = 2 then (if a1_2 = 0 then (if a1_3 = 0 then (some true) else (if a0 = 3 then (if a1_0 = a1_1 then (some (a1_2 == a1_3)) else (some false)) else (some false))) else (if a0 = 3 then (if a1_0 = a1_1 then (some (a1_2 == a1_3)) else (some false)) else (some false))) else (if a0 = 3 then (if a1_0 = a1_1 then (some (a1_2 == a1_3)) else (some false)) else (some false)))))) else (some false))
set_option maxHeartbeats 8000000 in
set_option maxRecDepth 100000 in
theorem gazetteerref09_Right.calls (a0 : Int) (a1_0 : Int) (a1_1 : Int) (a1_2 : Int) (a1_3 : Int) (r : Bool) (w : World) (h : gazetteerref09_Right.f a0 a1_0 a1_1 a1_2 a1_3 = some r) :
  Calls Try.prog 70 #[.int .i64 a0,.agg #[.int .i64 a1_0,.int .i64 a1_1,.int .i64 a1_2,.int .i64 a1_3]] w fun e w' => e = .returned (.bool r)∧Below w.heap.size w w':=by
 have hu36:=Try.underlying36
 have HB:=Ak (Below.refl w.heap.size w)
 have H : ((gazetteerref09_Box.f a1_0 a1_1 a1_2 a1_3).bind fun t187 => (if t187 = true then (if a0 < 1 then (some false) else (if a0 > 3 then (some false) else (if a0 = 1 then (some true) else (if a0 = 2 then (if a1_2 = 0 then (if a1_3 = 0 then (some true) else (if a0 = 3 then (if a1_0 = a1_1 then (some (a1_2 == a1_3)) else (some false)) else (some false))) else (if a0 = 3 then (if a1_0 = a1_1 then (some (a1_2 == a1_3)) else (some false)) else (some false))) else (if a0 = 3 then (if a1_0 = a1_1 then (some (a1_2 == a1_3)) else (some false)) else (some false)))))) else (some false))) = some r:=h
 clear h
 replace H:=Option.bind_eq_some_iff.mp H
 obtain ⟨t187,A30,H⟩:=H
 replace H : (if t187 = true then (if a0 < 1 then (some false) else (if a0 > 3 then (some false) else (if a0 = 1 then (some true) else (if a0 = 2 then (if a1_2 = 0 then (if a1_3 = 0 then (some true) else (if a0 = 3 then (if a1_0 = a1_1 then (some (a1_2 == a1_3)) else (some false)) else (some false))) else (if a0 = 3 then (if a1_0 = a1_1 then (some (a1_2 == a1_3)) else (some false)) else (some false))) else (if a0 = 3 then (if a1_0 = a1_1 then (some (a1_2 == a1_3)) else (some false)) else (some false)))))) else (some false)) = some r:=H
 have A3:=Ak A30
 clear A30
 by_cases c4 : t187 = true
 ·subst c4
  have H1 : (if a0 < 1 then (some false) else (if a0 > 3 then (some false) else (if a0 = 1 then (some true) else (if a0 = 2 then (if a1_2 = 0 then (if a1_3 = 0 then (some true) else (if a0 = 3 then (if a1_0 = a1_1 then (some (a1_2 == a1_3)) else (some false)) else (some false))) else (if a0 = 3 then (if a1_0 = a1_1 then (some (a1_2 == a1_3)) else (some false)) else (some false))) else (if a0 = 3 then (if a1_0 = a1_1 then (some (a1_2 == a1_3)) else (some false)) else (some false)))))) = some r:=by rw [if_pos rfl] at H;exact H
  clear H
  have H:=H1
  clear H1
  by_cases c5 : a0 < 1
  ·rw [if_pos c5] at H
   have c5b0 : decide (a0 < 1) = true:=decide_eq_true c5
   clear c5
   obtain rfl:=Option.some.inj H
   go_enter Try.func70,Try.ntmps70
   go_wp2_with (first|((with_reducible refine gate_dst (N:=3) rfl ?_);refine box_event ?hg (N:=3) ?hd (cs:=#[.int .i64 a1_0,.int .i64 a1_1,.int .i64 a1_2,.int .i64 a1_3]) (t:=36) ?hr ?_;(case hd => rfl);(case hg => rfl);(case hr => first|(go_simp;done)|(go_simp;rfl));intro gb186 hg w6 hbox hb;have n0_:=Ak (below_step (by repeat (first|(with_reducible first|exact HB.out|apply bA|apply bN|apply bD)|exact HB.out)) hb);have n1_:=Ak (hbox);have n2_:=Ak ((by rw [hg];exact (below_size (by repeat (first|(with_reducible first|exact HB.out|apply bA|apply bN|apply bD)|exact HB.out))) : w.heap.size ≤ gb186));have n3_:=Ak ((by rw [hg];exact (below_size (by repeat (first|(with_reducible first|exact HB.out|apply bA|apply bN|apply bD)|exact HB.out))) : w.heap.size ≤ gb186));clear HB;have HB:=n0_;have BK186:=n1_;have GW186:=n2_;have GE186:=n3_;clear n0_ n1_ n2_ n3_;clear hb hbox hg;have hcz7_0 : w6.cell? ⟨gb186,0,none⟩ = some (.int .i64 a1_0):=(kC BK186.out 0).trans rfl;have hcz7_1 : w6.cell? ⟨gb186,1,none⟩ = some (.int .i64 a1_1):=(kC BK186.out 1).trans rfl;have hcz7_2 : w6.cell? ⟨gb186,2,none⟩ = some (.int .i64 a1_2):=(kC BK186.out 2).trans rfl;have hcz7_3 : w6.cell? ⟨gb186,3,none⟩ = some (.int .i64 a1_3):=(kC BK186.out 3).trans rfl;have hfz7_0:=blk_frozen BK186.out 0;have hfz7_1:=blk_frozen BK186.out 1;have hfz7_2:=blk_frozen BK186.out 2;have hfz7_3:=blk_frozen BK186.out 3)|((with_reducible refine gate_callee (f:=26) rfl ?_);refine goesL_ (some 6) rfl rfl Try.func26 (by kernel_rfl) rfl #[.agg #[.int .i64 a1_0,.int .i64 a1_1,.int .i64 a1_2,.int .i64 a1_3]] rfl (by (try simp only [List.map_toArray,List.map_cons,List.map_nil]);first|done|rfl|(simp only [List.length_drop,List.length_take];rfl)) ?_;(with_reducible refine (gazetteerref09_Box.calls a1_0 a1_1 a1_2 a1_3 true _ A3.out).mono ?_);rintro e w8 ⟨rfl,hb⟩;refine ⟨_,rfl,?_⟩;have n0_:=Ak (kB (g:=gb186) (o:=.cells #[.int .i64 a1_0,.int .i64 a1_1,.int .i64 a1_2,.int .i64 a1_3] 36 (0,0)) (by (with_reducible repeat (first|refine kN ?_ _|refine kD ?_|refine kA ?_ _));exact BK186.out) hb);have n1_:=Ak (below_step (by repeat (first|(with_reducible first|exact HB.out|apply bA|apply bN|apply bD|refine bS ?_ GE186.out)|exact HB.out)) hb);clear BK186;clear HB;have BK186:=n0_;have HB:=n1_;clear n0_ n1_;(try clear hb);(try clear hb2);(try clear hk);(try clear hi)))
   go_ret
   exact ⟨by first|rfl|(simp [errW_none,errW_some] <;> rfl)|(simp [*,errW_none,errW_some] <;> rfl),by repeat (first|(with_reducible first|exact HB.out|apply bA|apply bN|apply bD|refine bS ?_ GE186.out)|exact HB.out)⟩
  ·rw [if_neg c5] at H
   have c5b0 : decide (a0 < 1) = false:=decide_eq_false c5
   clear c5
   by_cases c9 : a0 > 3
   ·rw [if_pos c9] at H
    have c9b0 : decide (3 < a0) = true:=decide_eq_true c9
    clear c9
    obtain rfl:=Option.some.inj H
    go_enter Try.func70,Try.ntmps70
    go_wp2_with (first|((with_reducible refine gate_dst (N:=3) rfl ?_);refine box_event ?hg (N:=3) ?hd (cs:=#[.int .i64 a1_0,.int .i64 a1_1,.int .i64 a1_2,.int .i64 a1_3]) (t:=36) ?hr ?_;(case hd => rfl);(case hg => rfl);(case hr => first|(go_simp;done)|(go_simp;rfl));intro gb186 hg w10 hbox hb;have n0_:=Ak (below_step (by repeat (first|(with_reducible first|exact HB.out|apply bA|apply bN|apply bD)|exact HB.out)) hb);have n1_:=Ak (hbox);have n2_:=Ak ((by rw [hg];exact (below_size (by repeat (first|(with_reducible first|exact HB.out|apply bA|apply bN|apply bD)|exact HB.out))) : w.heap.size ≤ gb186));have n3_:=Ak ((by rw [hg];exact (below_size (by repeat (first|(with_reducible first|exact HB.out|apply bA|apply bN|apply bD)|exact HB.out))) : w.heap.size ≤ gb186));clear HB;have HB:=n0_;have BK186:=n1_;have GW186:=n2_;have GE186:=n3_;clear n0_ n1_ n2_ n3_;clear hb hbox hg;have hcz11_0 : w10.cell? ⟨gb186,0,none⟩ = some (.int .i64 a1_0):=(kC BK186.out 0).trans rfl;have hcz11_1 : w10.cell? ⟨gb186,1,none⟩ = some (.int .i64 a1_1):=(kC BK186.out 1).trans rfl;have hcz11_2 : w10.cell? ⟨gb186,2,none⟩ = some (.int .i64 a1_2):=(kC BK186.out 2).trans rfl;have hcz11_3 : w10.cell? ⟨gb186,3,none⟩ = some (.int .i64 a1_3):=(kC BK186.out 3).trans rfl;have hfz11_0:=blk_frozen BK186.out 0;have hfz11_1:=blk_frozen BK186.out 1;have hfz11_2:=blk_frozen BK186.out 2;have hfz11_3:=blk_frozen BK186.out 3)|((with_reducible refine gate_callee (f:=26) rfl ?_);refine goesL_ (some 6) rfl rfl Try.func26 (by kernel_rfl) rfl #[.agg #[.int .i64 a1_0,.int .i64 a1_1,.int .i64 a1_2,.int .i64 a1_3]] rfl (by (try simp only [List.map_toArray,List.map_cons,List.map_nil]);first|done|rfl|(simp only [List.length_drop,List.length_take];rfl)) ?_;(with_reducible refine (gazetteerref09_Box.calls a1_0 a1_1 a1_2 a1_3 true _ A3.out).mono ?_);rintro e w12 ⟨rfl,hb⟩;refine ⟨_,rfl,?_⟩;have n0_:=Ak (kB (g:=gb186) (o:=.cells #[.int .i64 a1_0,.int .i64 a1_1,.int .i64 a1_2,.int .i64 a1_3] 36 (0,0)) (by (with_reducible repeat (first|refine kN ?_ _|refine kD ?_|refine kA ?_ _));exact BK186.out) hb);have n1_:=Ak (below_step (by repeat (first|(with_reducible first|exact HB.out|apply bA|apply bN|apply bD|refine bS ?_ GE186.out)|exact HB.out)) hb);clear BK186;clear HB;have BK186:=n0_;have HB:=n1_;clear n0_ n1_;(try clear hb);(try clear hb2);(try clear hk);(try clear hi)))
    go_ret
    exact ⟨by first|rfl|(simp [errW_none,errW_some] <;> rfl)|(simp [*,errW_none,errW_some] <;> rfl),by repeat (first|(with_reducible first|exact HB.out|apply bA|apply bN|apply bD|refine bS ?_ GE186.out)|exact HB.out)⟩
   ·rw [if_neg c9] at H
    have c9b0 : decide (3 < a0) = false:=decide_eq_false c9
    clear c9
    by_cases c13 : a0 = 1
    ·rw [if_pos c13] at H
     have c13b0 : (a0 == 1) = true:=beq_iff_eq.mpr c13
     have c13b1 : (a0 != 1) = false:=bne_eq_false_iff_eq.mpr c13
     clear c13
     obtain rfl:=Option.some.inj H
     go_enter Try.func70,Try.ntmps70
     go_wp2_with (first|((with_reducible refine gate_dst (N:=3) rfl ?_);refine box_event ?hg (N:=3) ?hd (cs:=#[.int .i64 a1_0,.int .i64 a1_1,.int .i64 a1_2,.int .i64 a1_3]) (t:=36) ?hr ?_;(case hd => rfl);(case hg => rfl);(case hr => first|(go_simp;done)|(go_simp;rfl));intro gb186 hg w14 hbox hb;have n0_:=Ak (below_step (by repeat (first|(with_reducible first|exact HB.out|apply bA|apply bN|apply bD)|exact HB.out)) hb);have n1_:=Ak (hbox);have n2_:=Ak ((by rw [hg];exact (below_size (by repeat (first|(with_reducible first|exact HB.out|apply bA|apply bN|apply bD)|exact HB.out))) : w.heap.size ≤ gb186));have n3_:=Ak ((by rw [hg];exact (below_size (by repeat (first|(with_reducible first|exact HB.out|apply bA|apply bN|apply bD)|exact HB.out))) : w.heap.size ≤ gb186));clear HB;have HB:=n0_;have BK186:=n1_;have GW186:=n2_;have GE186:=n3_;clear n0_ n1_ n2_ n3_;clear hb hbox hg;have hcz15_0 : w14.cell? ⟨gb186,0,none⟩ = some (.int .i64 a1_0):=(kC BK186.out 0).trans rfl;have hcz15_1 : w14.cell? ⟨gb186,1,none⟩ = some (.int .i64 a1_1):=(kC BK186.out 1).trans rfl;have hcz15_2 : w14.cell? ⟨gb186,2,none⟩ = some (.int .i64 a1_2):=(kC BK186.out 2).trans rfl;have hcz15_3 : w14.cell? ⟨gb186,3,none⟩ = some (.int .i64 a1_3):=(kC BK186.out 3).trans rfl;have hfz15_0:=blk_frozen BK186.out 0;have hfz15_1:=blk_frozen BK186.out 1;have hfz15_2:=blk_frozen BK186.out 2;have hfz15_3:=blk_frozen BK186.out 3)|((with_reducible refine gate_callee (f:=26) rfl ?_);refine goesL_ (some 6) rfl rfl Try.func26 (by kernel_rfl) rfl #[.agg #[.int .i64 a1_0,.int .i64 a1_1,.int .i64 a1_2,.int .i64 a1_3]] rfl (by (try simp only [List.map_toArray,List.map_cons,List.map_nil]);first|done|rfl|(simp only [List.length_drop,List.length_take];rfl)) ?_;(with_reducible refine (gazetteerref09_Box.calls a1_0 a1_1 a1_2 a1_3 true _ A3.out).mono ?_);rintro e w16 ⟨rfl,hb⟩;refine ⟨_,rfl,?_⟩;have n0_:=Ak (kB (g:=gb186) (o:=.cells #[.int .i64 a1_0,.int .i64 a1_1,.int .i64 a1_2,.int .i64 a1_3] 36 (0,0)) (by (with_reducible repeat (first|refine kN ?_ _|refine kD ?_|refine kA ?_ _));exact BK186.out) hb);have n1_:=Ak (below_step (by repeat (first|(with_reducible first|exact HB.out|apply bA|apply bN|apply bD|refine bS ?_ GE186.out)|exact HB.out)) hb);clear BK186;clear HB;have BK186:=n0_;have HB:=n1_;clear n0_ n1_;(try clear hb);(try clear hb2);(try clear hk);(try clear hi)))
     go_ret
     exact ⟨by first|rfl|(simp [errW_none,errW_some] <;> rfl)|(simp [*,errW_none,errW_some] <;> rfl),by repeat (first|(with_reducible first|exact HB.out|apply bA|apply bN|apply bD|refine bS ?_ GE186.out)|exact HB.out)⟩
    ·rw [if_neg c13] at H
     have c13b0 : (a0 == 1) = false:=beq_eq_false_iff_ne.mpr c13
     have c13b1 : (a0 != 1) = true:=bne_iff_ne.mpr c13
     by_cases c17 : a0 = 2
     ·rw [if_pos c17] at H
      have c17b0 : (a0 == 2) = true:=beq_iff_eq.mpr c17
      have c17b1 : (a0 != 2) = false:=bne_eq_false_iff_eq.mpr c17
      clear c17
      by_cases c18 : a1_2 = 0
      ·rw [if_pos c18] at H
       have c18b0 : (a1_2 == 0) = true:=beq_iff_eq.mpr c18
       have c18b1 : (a1_2 != 0) = false:=bne_eq_false_iff_eq.mpr c18
       clear c18
       by_cases c19 : a1_3 = 0
       ·rw [if_pos c19] at H
        have c19b0 : (a1_3 == 0) = true:=beq_iff_eq.mpr c19
        have c19b1 : (a1_3 != 0) = false:=bne_eq_false_iff_eq.mpr c19
        clear c19
        obtain rfl:=Option.some.inj H
        go_enter Try.func70,Try.ntmps70
        go_wp2_with (first|((with_reducible refine gate_dst (N:=3) rfl ?_);refine box_event ?hg (N:=3) ?hd (cs:=#[.int .i64 a1_0,.int .i64 a1_1,.int .i64 a1_2,.int .i64 a1_3]) (t:=36) ?hr ?_;(case hd => rfl);(case hg => rfl);(case hr => first|(go_simp;done)|(go_simp;rfl));intro gb186 hg w20 hbox hb;have n0_:=Ak (below_step (by repeat (first|(with_reducible first|exact HB.out|apply bA|apply bN|apply bD)|exact HB.out)) hb);have n1_:=Ak (hbox);have n2_:=Ak ((by rw [hg];exact (below_size (by repeat (first|(with_reducible first|exact HB.out|apply bA|apply bN|apply bD)|exact HB.out))) : w.heap.size ≤ gb186));have n3_:=Ak ((by rw [hg];exact (below_size (by repeat (first|(with_reducible first|exact HB.out|apply bA|apply bN|apply bD)|exact HB.out))) : w.heap.size ≤ gb186));clear HB;have HB:=n0_;have BK186:=n1_;have GW186:=n2_;have GE186:=n3_;clear n0_ n1_ n2_ n3_;clear hb hbox hg;have hcz21_0 : w20.cell? ⟨gb186,0,none⟩ = some (.int .i64 a1_0):=(kC BK186.out 0).trans rfl;have hcz21_1 : w20.cell? ⟨gb186,1,none⟩ = some (.int .i64 a1_1):=(kC BK186.out 1).trans rfl;have hcz21_2 : w20.cell? ⟨gb186,2,none⟩ = some (.int .i64 a1_2):=(kC BK186.out 2).trans rfl;have hcz21_3 : w20.cell? ⟨gb186,3,none⟩ = some (.int .i64 a1_3):=(kC BK186.out 3).trans rfl;have hfz21_0:=blk_frozen BK186.out 0;have hfz21_1:=blk_frozen BK186.out 1;have hfz21_2:=blk_frozen BK186.out 2;have hfz21_3:=blk_frozen BK186.out 3)|((with_reducible refine gate_callee (f:=26) rfl ?_);refine goesL_ (some 6) rfl rfl Try.func26 (by kernel_rfl) rfl #[.agg #[.int .i64 a1_0,.int .i64 a1_1,.int .i64 a1_2,.int .i64 a1_3]] rfl (by (try simp only [List.map_toArray,List.map_cons,List.map_nil]);first|done|rfl|(simp only [List.length_drop,List.length_take];rfl)) ?_;(with_reducible refine (gazetteerref09_Box.calls a1_0 a1_1 a1_2 a1_3 true _ A3.out).mono ?_);rintro e w22 ⟨rfl,hb⟩;refine ⟨_,rfl,?_⟩;have n0_:=Ak (kB (g:=gb186) (o:=.cells #[.int .i64 a1_0,.int .i64 a1_1,.int .i64 a1_2,.int .i64 a1_3] 36 (0,0)) (by (with_reducible repeat (first|refine kN ?_ _|refine kD ?_|refine kA ?_ _));exact BK186.out) hb);have n1_:=Ak (below_step (by repeat (first|(with_reducible first|exact HB.out|apply bA|apply bN|apply bD|refine bS ?_ GE186.out)|exact HB.out)) hb);clear BK186;clear HB;have BK186:=n0_;have HB:=n1_;clear n0_ n1_;(try clear hb);(try clear hb2);(try clear hk);(try clear hi);have hcz23_0 : w22.cell? ⟨gb186,0,none⟩ = some (.int .i64 a1_0):=(kC BK186.out 0).trans rfl;have hcz23_1 : w22.cell? ⟨gb186,1,none⟩ = some (.int .i64 a1_1):=(kC BK186.out 1).trans rfl;have hcz23_2 : w22.cell? ⟨gb186,2,none⟩ = some (.int .i64 a1_2):=(kC BK186.out 2).trans rfl;have hcz23_3 : w22.cell? ⟨gb186,3,none⟩ = some (.int .i64 a1_3):=(kC BK186.out 3).trans rfl;have hfz23_0:=blk_frozen BK186.out 0;have hfz23_1:=blk_frozen BK186.out 1;have hfz23_2:=blk_frozen BK186.out 2;have hfz23_3:=blk_frozen BK186.out 3))
        go_ret
        exact ⟨by first|rfl|(simp [errW_none,errW_some] <;> rfl)|(simp [*,errW_none,errW_some] <;> rfl),by repeat (first|(with_reducible first|exact HB.out|apply bA|apply bN|apply bD|refine bS ?_ GE186.out)|exact HB.out)⟩
       ·rw [if_neg c19] at H
        have c19b0 : (a1_3 == 0) = false:=beq_eq_false_iff_ne.mpr c19
        have c19b1 : (a1_3 != 0) = true:=bne_iff_ne.mpr c19
        by_cases c24 : a0 = 3
        ·rw [if_pos c24] at H
         have c24b0 : (a0 == 3) = true:=beq_iff_eq.mpr c24
         have c24b1 : (a0 != 3) = false:=bne_eq_false_iff_eq.mpr c24
         clear c24
         by_cases c25 : a1_0 = a1_1
         ·rw [if_pos c25] at H
          have c25b0 : (a1_0 == a1_1) = true:=beq_iff_eq.mpr c25
          have c25b1 : (a1_0 != a1_1) = false:=bne_eq_false_iff_eq.mpr c25
          clear c25
          obtain rfl:=Option.some.inj H
          go_enter Try.func70,Try.ntmps70
          go_wp2_with (first|((with_reducible refine gate_dst (N:=3) rfl ?_);refine box_event ?hg (N:=3) ?hd (cs:=#[.int .i64 a1_0,.int .i64 a1_1,.int .i64 a1_2,.int .i64 a1_3]) (t:=36) ?hr ?_;(case hd => rfl);(case hg => rfl);(case hr => first|(go_simp;done)|(go_simp;rfl));intro gb186 hg w26 hbox hb;have n0_:=Ak (below_step (by repeat (first|(with_reducible first|exact HB.out|apply bA|apply bN|apply bD)|exact HB.out)) hb);have n1_:=Ak (hbox);have n2_:=Ak ((by rw [hg];exact (below_size (by repeat (first|(with_reducible first|exact HB.out|apply bA|apply bN|apply bD)|exact HB.out))) : w.heap.size ≤ gb186));have n3_:=Ak ((by rw [hg];exact (below_size (by repeat (first|(with_reducible first|exact HB.out|apply bA|apply bN|apply bD)|exact HB.out))) : w.heap.size ≤ gb186));clear HB;have HB:=n0_;have BK186:=n1_;have GW186:=n2_;have GE186:=n3_;clear n0_ n1_ n2_ n3_;clear hb hbox hg;have hcz27_0 : w26.cell? ⟨gb186,0,none⟩ = some (.int .i64 a1_0):=(kC BK186.out 0).trans rfl;have hcz27_1 : w26.cell? ⟨gb186,1,none⟩ = some (.int .i64 a1_1):=(kC BK186.out 1).trans rfl;have hcz27_2 : w26.cell? ⟨gb186,2,none⟩ = some (.int .i64 a1_2):=(kC BK186.out 2).trans rfl;have hcz27_3 : w26.cell? ⟨gb186,3,none⟩ = some (.int .i64 a1_3):=(kC BK186.out 3).trans rfl;have hfz27_0:=blk_frozen BK186.out 0;have hfz27_1:=blk_frozen BK186.out 1;have hfz27_2:=blk_frozen BK186.out 2;have hfz27_3:=blk_frozen BK186.out 3)|((with_reducible refine gate_callee (f:=26) rfl ?_);refine goesL_ (some 6) rfl rfl Try.func26 (by kernel_rfl) rfl #[.agg #[.int .i64 a1_0,.int .i64 a1_1,.int .i64 a1_2,.int .i64 a1_3]] rfl (by (try simp only [List.map_toArray,List.map_cons,List.map_nil]);first|done|rfl|(simp only [List.length_drop,List.length_take];rfl)) ?_;(with_reducible refine (gazetteerref09_Box.calls a1_0 a1_1 a1_2 a1_3 true _ A3.out).mono ?_);rintro e w28 ⟨rfl,hb⟩;refine ⟨_,rfl,?_⟩;have n0_:=Ak (kB (g:=gb186) (o:=.cells #[.int .i64 a1_0,.int .i64 a1_1,.int .i64 a1_2,.int .i64 a1_3] 36 (0,0)) (by (with_reducible repeat (first|refine kN ?_ _|refine kD ?_|refine kA ?_ _));exact BK186.out) hb);have n1_:=Ak (below_step (by repeat (first|(with_reducible first|exact HB.out|apply bA|apply bN|apply bD|refine bS ?_ GE186.out)|exact HB.out)) hb);clear BK186;clear HB;have BK186:=n0_;have HB:=n1_;clear n0_ n1_;(try clear hb);(try clear hb2);(try clear hk);(try clear hi);have hcz29_0 : w28.cell? ⟨gb186,0,none⟩ = some (.int .i64 a1_0):=(kC BK186.out 0).trans rfl;have hcz29_1 : w28.cell? ⟨gb186,1,none⟩ = some (.int .i64 a1_1):=(kC BK186.out 1).trans rfl;have hcz29_2 : w28.cell? ⟨gb186,2,none⟩ = some (.int .i64 a1_2):=(kC BK186.out 2).trans rfl;have hcz29_3 : w28.cell? ⟨gb186,3,none⟩ = some (.int .i64 a1_3):=(kC BK186.out 3).trans rfl;have hfz29_0:=blk_frozen BK186.out 0;have hfz29_1:=blk_frozen BK186.out 1;have hfz29_2:=blk_frozen BK186.out 2;have hfz29_3:=blk_frozen BK186.out 3))
          go_ret
          exact ⟨by first|rfl|(simp [errW_none,errW_some] <;> rfl)|(simp [*,errW_none,errW_some] <;> rfl),by repeat (first|(with_reducible first|exact HB.out|apply bA|apply bN|apply bD|refine bS ?_ GE186.out)|exact HB.out)⟩
         ·rw [if_neg c25] at H
          have c25b0 : (a1_0 == a1_1) = false:=beq_eq_false_iff_ne.mpr c25
          have c25b1 : (a1_0 != a1_1) = true:=bne_iff_ne.mpr c25
          obtain rfl:=Option.some.inj H
          go_enter Try.func70,Try.ntmps70
          go_wp2_with (first|((with_reducible refine gate_dst (N:=3) rfl ?_);refine box_event ?hg (N:=3) ?hd (cs:=#[.int .i64 a1_0,.int .i64 a1_1,.int .i64 a1_2,.int .i64 a1_3]) (t:=36) ?hr ?_;(case hd => rfl);(case hg => rfl);(case hr => first|(go_simp;done)|(go_simp;rfl));intro gb186 hg w30 hbox hb;have n0_:=Ak (below_step (by repeat (first|(with_reducible first|exact HB.out|apply bA|apply bN|apply bD)|exact HB.out)) hb);have n1_:=Ak (hbox);have n2_:=Ak ((by rw [hg];exact (below_size (by repeat (first|(with_reducible first|exact HB.out|apply bA|apply bN|apply bD)|exact HB.out))) : w.heap.size ≤ gb186));have n3_:=Ak ((by rw [hg];exact (below_size (by repeat (first|(with_reducible first|exact HB.out|apply bA|apply bN|apply bD)|exact HB.out))) : w.heap.size ≤ gb186));clear HB;have HB:=n0_;have BK186:=n1_;have GW186:=n2_;have GE186:=n3_;clear n0_ n1_ n2_ n3_;clear hb hbox hg;have hcz31_0 : w30.cell? ⟨gb186,0,none⟩ = some (.int .i64 a1_0):=(kC BK186.out 0).trans rfl;have hcz31_1 : w30.cell? ⟨gb186,1,none⟩ = some (.int .i64 a1_1):=(kC BK186.out 1).trans rfl;have hcz31_2 : w30.cell? ⟨gb186,2,none⟩ = some (.int .i64 a1_2):=(kC BK186.out 2).trans rfl;have hcz31_3 : w30.cell? ⟨gb186,3,none⟩ = some (.int .i64 a1_3):=(kC BK186.out 3).trans rfl;have hfz31_0:=blk_frozen BK186.out 0;have hfz31_1:=blk_frozen BK186.out 1;have hfz31_2:=blk_frozen BK186.out 2;have hfz31_3:=blk_frozen BK186.out 3)|((with_reducible refine gate_callee (f:=26) rfl ?_);refine goesL_ (some 6) rfl rfl Try.func26 (by kernel_rfl) rfl #[.agg #[.int .i64 a1_0,.int .i64 a1_1,.int .i64 a1_2,.int .i64 a1_3]] rfl (by (try simp only [List.map_toArray,List.map_cons,List.map_nil]);first|done|rfl|(simp only [List.length_drop,List.length_take];rfl)) ?_;(with_reducible refine (gazetteerref09_Box.calls a1_0 a1_1 a1_2 a1_3 true _ A3.out).mono ?_);rintro e w32 ⟨rfl,hb⟩;refine ⟨_,rfl,?_⟩;have n0_:=Ak (kB (g:=gb186) (o:=.cells #[.int .i64 a1_0,.int .i64 a1_1,.int .i64 a1_2,.int .i64 a1_3] 36 (0,0)) (by (with_reducible repeat (first|refine kN ?_ _|refine kD ?_|refine kA ?_ _));exact BK186.out) hb);have n1_:=Ak (below_step (by repeat (first|(with_reducible first|exact HB.out|apply bA|apply bN|apply bD|refine bS ?_ GE186.out)|exact HB.out)) hb);clear BK186;clear HB;have BK186:=n0_;have HB:=n1_;clear n0_ n1_;(try clear hb);(try clear hb2);(try clear hk);(try clear hi);have hcz33_0 : w32.cell? ⟨gb186,0,none⟩ = some (.int .i64 a1_0):=(kC BK186.out 0).trans rfl;have hcz33_1 : w32.cell? ⟨gb186,1,none⟩ = some (.int .i64 a1_1):=(kC BK186.out 1).trans rfl;have hcz33_2 : w32.cell? ⟨gb186,2,none⟩ = some (.int .i64 a1_2):=(kC BK186.out 2).trans rfl;have hcz33_3 : w32.cell? ⟨gb186,3,none⟩ = some (.int .i64 a1_3):=(kC BK186.out 3).trans rfl;have hfz33_0:=blk_frozen BK186.out 0;have hfz33_1:=blk_frozen BK186.out 1;have hfz33_2:=blk_frozen BK186.out 2;have hfz33_3:=blk_frozen BK186.out 3))
          go_ret
          exact ⟨by first|rfl|(simp [errW_none,errW_some] <;> rfl)|(simp [*,errW_none,errW_some] <;> rfl),by repeat (first|(with_reducible first|exact HB.out|apply bA|apply bN|apply bD|refine bS ?_ GE186.out)|exact HB.out)⟩
        ·rw [if_neg c24] at H
         have c24b0 : (a0 == 3) = false:=beq_eq_false_iff_ne.mpr c24
         have c24b1 : (a0 != 3) = true:=bne_iff_ne.mpr c24
         obtain rfl:=Option.some.inj H
         go_enter Try.func70,Try.ntmps70
         go_wp2_with (first|((with_reducible refine gate_dst (N:=3) rfl ?_);refine box_event ?hg (N:=3) ?hd (cs:=#[.int .i64 a1_0,.int .i64 a1_1,.int .i64 a1_2,.int .i64 a1_3]) (t:=36) ?hr ?_;(case hd => rfl);(case hg => rfl);(case hr => first|(go_simp;done)|(go_simp;rfl));intro gb186 hg w34 hbox hb;have n0_:=Ak (below_step (by repeat (first|(with_reducible first|exact HB.out|apply bA|apply bN|apply bD)|exact HB.out)) hb);have n1_:=Ak (hbox);have n2_:=Ak ((by rw [hg];exact (below_size (by repeat (first|(with_reducible first|exact HB.out|apply bA|apply bN|apply bD)|exact HB.out))) : w.heap.size ≤ gb186));have n3_:=Ak ((by rw [hg];exact (below_size (by repeat (first|(with_reducible first|exact HB.out|apply bA|apply bN|apply bD)|exact HB.out))) : w.heap.size ≤ gb186));clear HB;have HB:=n0_;have BK186:=n1_;have GW186:=n2_;have GE186:=n3_;clear n0_ n1_ n2_ n3_;clear hb hbox hg;have hcz35_0 : w34.cell? ⟨gb186,0,none⟩ = some (.int .i64 a1_0):=(kC BK186.out 0).trans rfl;have hcz35_1 : w34.cell? ⟨gb186,1,none⟩ = some (.int .i64 a1_1):=(kC BK186.out 1).trans rfl;have hcz35_2 : w34.cell? ⟨gb186,2,none⟩ = some (.int .i64 a1_2):=(kC BK186.out 2).trans rfl;have hcz35_3 : w34.cell? ⟨gb186,3,none⟩ = some (.int .i64 a1_3):=(kC BK186.out 3).trans rfl;have hfz35_0:=blk_frozen BK186.out 0;have hfz35_1:=blk_frozen BK186.out 1;have hfz35_2:=blk_frozen BK186.out 2;have hfz35_3:=blk_frozen BK186.out 3)|((with_reducible refine gate_callee (f:=26) rfl ?_);refine goesL_ (some 6) rfl rfl Try.func26 (by kernel_rfl) rfl #[.agg #[.int .i64 a1_0,.int .i64 a1_1,.int .i64 a1_2,.int .i64 a1_3]] rfl (by (try simp only [List.map_toArray,List.map_cons,List.map_nil]);first|done|rfl|(simp only [List.length_drop,List.length_take];rfl)) ?_;(with_reducible refine (gazetteerref09_Box.calls a1_0 a1_1 a1_2 a1_3 true _ A3.out).mono ?_);rintro e w36 ⟨rfl,hb⟩;refine ⟨_,rfl,?_⟩;have n0_:=Ak (kB (g:=gb186) (o:=.cells #[.int .i64 a1_0,.int .i64 a1_1,.int .i64 a1_2,.int .i64 a1_3] 36 (0,0)) (by (with_reducible repeat (first|refine kN ?_ _|refine kD ?_|refine kA ?_ _));exact BK186.out) hb);have n1_:=Ak (below_step (by repeat (first|(with_reducible first|exact HB.out|apply bA|apply bN|apply bD|refine bS ?_ GE186.out)|exact HB.out)) hb);clear BK186;clear HB;have BK186:=n0_;have HB:=n1_;clear n0_ n1_;(try clear hb);(try clear hb2);(try clear hk);(try clear hi);have hcz37_0 : w36.cell? ⟨gb186,0,none⟩ = some (.int .i64 a1_0):=(kC BK186.out 0).trans rfl;have hcz37_1 : w36.cell? ⟨gb186,1,none⟩ = some (.int .i64 a1_1):=(kC BK186.out 1).trans rfl;have hcz37_2 : w36.cell? ⟨gb186,2,none⟩ = some (.int .i64 a1_2):=(kC BK186.out 2).trans rfl;have hcz37_3 : w36.cell? ⟨gb186,3,none⟩ = some (.int .i64 a1_3):=(kC BK186.out 3).trans rfl;have hfz37_0:=blk_frozen BK186.out 0;have hfz37_1:=blk_frozen BK186.out 1;have hfz37_2:=blk_frozen BK186.out 2;have hfz37_3:=blk_frozen BK186.out 3))
         go_ret
         exact ⟨by first|rfl|(simp [errW_none,errW_some] <;> rfl)|(simp [*,errW_none,errW_some] <;> rfl),by repeat (first|(with_reducible first|exact HB.out|apply bA|apply bN|apply bD|refine bS ?_ GE186.out)|exact HB.out)⟩
      ·rw [if_neg c18] at H
       have c18b0 : (a1_2 == 0) = false:=beq_eq_false_iff_ne.mpr c18
       have c18b1 : (a1_2 != 0) = true:=bne_iff_ne.mpr c18
       by_cases c38 : a0 = 3
       ·rw [if_pos c38] at H
        have c38b0 : (a0 == 3) = true:=beq_iff_eq.mpr c38
        have c38b1 : (a0 != 3) = false:=bne_eq_false_iff_eq.mpr c38
        clear c38
        by_cases c39 : a1_0 = a1_1
        ·rw [if_pos c39] at H
         have c39b0 : (a1_0 == a1_1) = true:=beq_iff_eq.mpr c39
         have c39b1 : (a1_0 != a1_1) = false:=bne_eq_false_iff_eq.mpr c39
         clear c39
         obtain rfl:=Option.some.inj H
         go_enter Try.func70,Try.ntmps70
         go_wp2_with (first|((with_reducible refine gate_dst (N:=3) rfl ?_);refine box_event ?hg (N:=3) ?hd (cs:=#[.int .i64 a1_0,.int .i64 a1_1,.int .i64 a1_2,.int .i64 a1_3]) (t:=36) ?hr ?_;(case hd => rfl);(case hg => rfl);(case hr => first|(go_simp;done)|(go_simp;rfl));intro gb186 hg w40 hbox hb;have n0_:=Ak (below_step (by repeat (first|(with_reducible first|exact HB.out|apply bA|apply bN|apply bD)|exact HB.out)) hb);have n1_:=Ak (hbox);have n2_:=Ak ((by rw [hg];exact (below_size (by repeat (first|(with_reducible first|exact HB.out|apply bA|apply bN|apply bD)|exact HB.out))) : w.heap.size ≤ gb186));have n3_:=Ak ((by rw [hg];exact (below_size (by repeat (first|(with_reducible first|exact HB.out|apply bA|apply bN|apply bD)|exact HB.out))) : w.heap.size ≤ gb186));clear HB;have HB:=n0_;have BK186:=n1_;have GW186:=n2_;have GE186:=n3_;clear n0_ n1_ n2_ n3_;clear hb hbox hg;have hcz41_0 : w40.cell? ⟨gb186,0,none⟩ = some (.int .i64 a1_0):=(kC BK186.out 0).trans rfl;have hcz41_1 : w40.cell? ⟨gb186,1,none⟩ = some (.int .i64 a1_1):=(kC BK186.out 1).trans rfl;have hcz41_2 : w40.cell? ⟨gb186,2,none⟩ = some (.int .i64 a1_2):=(kC BK186.out 2).trans rfl;have hcz41_3 : w40.cell? ⟨gb186,3,none⟩ = some (.int .i64 a1_3):=(kC BK186.out 3).trans rfl;have hfz41_0:=blk_frozen BK186.out 0;have hfz41_1:=blk_frozen BK186.out 1;have hfz41_2:=blk_frozen BK186.out 2;have hfz41_3:=blk_frozen BK186.out 3)|((with_reducible refine gate_callee (f:=26) rfl ?_);refine goesL_ (some 6) rfl rfl Try.func26 (by kernel_rfl) rfl #[.agg #[.int .i64 a1_0,.int .i64 a1_1,.int .i64 a1_2,.int .i64 a1_3]] rfl (by (try simp only [List.map_toArray,List.map_cons,List.map_nil]);first|done|rfl|(simp only [List.length_drop,List.length_take];rfl)) ?_;(with_reducible refine (gazetteerref09_Box.calls a1_0 a1_1 a1_2 a1_3 true _ A3.out).mono ?_);rintro e w42 ⟨rfl,hb⟩;refine ⟨_,rfl,?_⟩;have n0_:=Ak (kB (g:=gb186) (o:=.cells #[.int .i64 a1_0,.int .i64 a1_1,.int .i64 a1_2,.int .i64 a1_3] 36 (0,0)) (by (with_reducible repeat (first|refine kN ?_ _|refine kD ?_|refine kA ?_ _));exact BK186.out) hb);have n1_:=Ak (below_step (by repeat (first|(with_reducible first|exact HB.out|apply bA|apply bN|apply bD|refine bS ?_ GE186.out)|exact HB.out)) hb);clear BK186;clear HB;have BK186:=n0_;have HB:=n1_;clear n0_ n1_;(try clear hb);(try clear hb2);(try clear hk);(try clear hi);have hcz43_0 : w42.cell? ⟨gb186,0,none⟩ = some (.int .i64 a1_0):=(kC BK186.out 0).trans rfl;have hcz43_1 : w42.cell? ⟨gb186,1,none⟩ = some (.int .i64 a1_1):=(kC BK186.out 1).trans rfl;have hcz43_2 : w42.cell? ⟨gb186,2,none⟩ = some (.int .i64 a1_2):=(kC BK186.out 2).trans rfl;have hcz43_3 : w42.cell? ⟨gb186,3,none⟩ = some (.int .i64 a1_3):=(kC BK186.out 3).trans rfl;have hfz43_0:=blk_frozen BK186.out 0;have hfz43_1:=blk_frozen BK186.out 1;have hfz43_2:=blk_frozen BK186.out 2;have hfz43_3:=blk_frozen BK186.out 3))
         go_ret
         exact ⟨by first|rfl|(simp [errW_none,errW_some] <;> rfl)|(simp [*,errW_none,errW_some] <;> rfl),by repeat (first|(with_reducible first|exact HB.out|apply bA|apply bN|apply bD|refine bS ?_ GE186.out)|exact HB.out)⟩
        ·rw [if_neg c39] at H
         have c39b0 : (a1_0 == a1_1) = false:=beq_eq_false_iff_ne.mpr c39
         have c39b1 : (a1_0 != a1_1) = true:=bne_iff_ne.mpr c39
         obtain rfl:=Option.some.inj H
         go_enter Try.func70,Try.ntmps70
         go_wp2_with (first|((with_reducible refine gate_dst (N:=3) rfl ?_);refine box_event ?hg (N:=3) ?hd (cs:=#[.int .i64 a1_0,.int .i64 a1_1,.int .i64 a1_2,.int .i64 a1_3]) (t:=36) ?hr ?_;(case hd => rfl);(case hg => rfl);(case hr => first|(go_simp;done)|(go_simp;rfl));intro gb186 hg w44 hbox hb;have n0_:=Ak (below_step (by repeat (first|(with_reducible first|exact HB.out|apply bA|apply bN|apply bD)|exact HB.out)) hb);have n1_:=Ak (hbox);have n2_:=Ak ((by rw [hg];exact (below_size (by repeat (first|(with_reducible first|exact HB.out|apply bA|apply bN|apply bD)|exact HB.out))) : w.heap.size ≤ gb186));have n3_:=Ak ((by rw [hg];exact (below_size (by repeat (first|(with_reducible first|exact HB.out|apply bA|apply bN|apply bD)|exact HB.out))) : w.heap.size ≤ gb186));clear HB;have HB:=n0_;have BK186:=n1_;have GW186:=n2_;have GE186:=n3_;clear n0_ n1_ n2_ n3_;clear hb hbox hg;have hcz45_0 : w44.cell? ⟨gb186,0,none⟩ = some (.int .i64 a1_0):=(kC BK186.out 0).trans rfl;have hcz45_1 : w44.cell? ⟨gb186,1,none⟩ = some (.int .i64 a1_1):=(kC BK186.out 1).trans rfl;have hcz45_2 : w44.cell? ⟨gb186,2,none⟩ = some (.int .i64 a1_2):=(kC BK186.out 2).trans rfl;have hcz45_3 : w44.cell? ⟨gb186,3,none⟩ = some (.int .i64 a1_3):=(kC BK186.out 3).trans rfl;have hfz45_0:=blk_frozen BK186.out 0;have hfz45_1:=blk_frozen BK186.out 1;have hfz45_2:=blk_frozen BK186.out 2;have hfz45_3:=blk_frozen BK186.out 3)|((with_reducible refine gate_callee (f:=26) rfl ?_);refine goesL_ (some 6) rfl rfl Try.func26 (by kernel_rfl) rfl #[.agg #[.int .i64 a1_0,.int .i64 a1_1,.int .i64 a1_2,.int .i64 a1_3]] rfl (by (try simp only [List.map_toArray,List.map_cons,List.map_nil]);first|done|rfl|(simp only [List.length_drop,List.length_take];rfl)) ?_;(with_reducible refine (gazetteerref09_Box.calls a1_0 a1_1 a1_2 a1_3 true _ A3.out).mono ?_);rintro e w46 ⟨rfl,hb⟩;refine ⟨_,rfl,?_⟩;have n0_:=Ak (kB (g:=gb186) (o:=.cells #[.int .i64 a1_0,.int .i64 a1_1,.int .i64 a1_2,.int .i64 a1_3] 36 (0,0)) (by (with_reducible repeat (first|refine kN ?_ _|refine kD ?_|refine kA ?_ _));exact BK186.out) hb);have n1_:=Ak (below_step (by repeat (first|(with_reducible first|exact HB.out|apply bA|apply bN|apply bD|refine bS ?_ GE186.out)|exact HB.out)) hb);clear BK186;clear HB;have BK186:=n0_;have HB:=n1_;clear n0_ n1_;(try clear hb);(try clear hb2);(try clear hk);(try clear hi);have hcz47_0 : w46.cell? ⟨gb186,0,none⟩ = some (.int .i64 a1_0):=(kC BK186.out 0).trans rfl;have hcz47_1 : w46.cell? ⟨gb186,1,none⟩ = some (.int .i64 a1_1):=(kC BK186.out 1).trans rfl;have hcz47_2 : w46.cell? ⟨gb186,2,none⟩ = some (.int .i64 a1_2):=(kC BK186.out 2).trans rfl;have hcz47_3 : w46.cell? ⟨gb186,3,none⟩ = some (.int .i64 a1_3):=(kC BK186.out 3).trans rfl;have hfz47_0:=blk_frozen BK186.out 0;have hfz47_1:=blk_frozen BK186.out 1;have hfz47_2:=blk_frozen BK186.out 2;have hfz47_3:=blk_frozen BK186.out 3))
         go_ret
         exact ⟨by first|rfl|(simp [errW_none,errW_some] <;> rfl)|(simp [*,errW_none,errW_some] <;> rfl),by repeat (first|(with_reducible first|exact HB.out|apply bA|apply bN|apply bD|refine bS ?_ GE186.out)|exact HB.out)⟩
       ·rw [if_neg c38] at H
        have c38b0 : (a0 == 3) = false:=beq_eq_false_iff_ne.mpr c38
        have c38b1 : (a0 != 3) = true:=bne_iff_ne.mpr c38
        obtain rfl:=Option.some.inj H
        go_enter Try.func70,Try.ntmps70
        go_wp2_with (first|((with_reducible refine gate_dst (N:=3) rfl ?_);refine box_event ?hg (N:=3) ?hd (cs:=#[.int .i64 a1_0,.int .i64 a1_1,.int .i64 a1_2,.int .i64 a1_3]) (t:=36) ?hr ?_;(case hd => rfl);(case hg => rfl);(case hr => first|(go_simp;done)|(go_simp;rfl));intro gb186 hg w48 hbox hb;have n0_:=Ak (below_step (by repeat (first|(with_reducible first|exact HB.out|apply bA|apply bN|apply bD)|exact HB.out)) hb);have n1_:=Ak (hbox);have n2_:=Ak ((by rw [hg];exact (below_size (by repeat (first|(with_reducible first|exact HB.out|apply bA|apply bN|apply bD)|exact HB.out))) : w.heap.size ≤ gb186));have n3_:=Ak ((by rw [hg];exact (below_size (by repeat (first|(with_reducible first|exact HB.out|apply bA|apply bN|apply bD)|exact HB.out))) : w.heap.size ≤ gb186));clear HB;have HB:=n0_;have BK186:=n1_;have GW186:=n2_;have GE186:=n3_;clear n0_ n1_ n2_ n3_;clear hb hbox hg;have hcz49_0 : w48.cell? ⟨gb186,0,none⟩ = some (.int .i64 a1_0):=(kC BK186.out 0).trans rfl;have hcz49_1 : w48.cell? ⟨gb186,1,none⟩ = some (.int .i64 a1_1):=(kC BK186.out 1).trans rfl;have hcz49_2 : w48.cell? ⟨gb186,2,none⟩ = some (.int .i64 a1_2):=(kC BK186.out 2).trans rfl;have hcz49_3 : w48.cell? ⟨gb186,3,none⟩ = some (.int .i64 a1_3):=(kC BK186.out 3).trans rfl;have hfz49_0:=blk_frozen BK186.out 0;have hfz49_1:=blk_frozen BK186.out 1;have hfz49_2:=blk_frozen BK186.out 2;have hfz49_3:=blk_frozen BK186.out 3)|((with_reducible refine gate_callee (f:=26) rfl ?_);refine goesL_ (some 6) rfl rfl Try.func26 (by kernel_rfl) rfl #[.agg #[.int .i64 a1_0,.int .i64 a1_1,.int .i64 a1_2,.int .i64 a1_3]] rfl (by (try simp only [List.map_toArray,List.map_cons,List.map_nil]);first|done|rfl|(simp only [List.length_drop,List.length_take];rfl)) ?_;(with_reducible refine (gazetteerref09_Box.calls a1_0 a1_1 a1_2 a1_3 true _ A3.out).mono ?_);rintro e w50 ⟨rfl,hb⟩;refine ⟨_,rfl,?_⟩;have n0_:=Ak (kB (g:=gb186) (o:=.cells #[.int .i64 a1_0,.int .i64 a1_1,.int .i64 a1_2,.int .i64 a1_3] 36 (0,0)) (by (with_reducible repeat (first|refine kN ?_ _|refine kD ?_|refine kA ?_ _));exact BK186.out) hb);have n1_:=Ak (below_step (by repeat (first|(with_reducible first|exact HB.out|apply bA|apply bN|apply bD|refine bS ?_ GE186.out)|exact HB.out)) hb);clear BK186;clear HB;have BK186:=n0_;have HB:=n1_;clear n0_ n1_;(try clear hb);(try clear hb2);(try clear hk);(try clear hi);have hcz51_0 : w50.cell? ⟨gb186,0,none⟩ = some (.int .i64 a1_0):=(kC BK186.out 0).trans rfl;have hcz51_1 : w50.cell? ⟨gb186,1,none⟩ = some (.int .i64 a1_1):=(kC BK186.out 1).trans rfl;have hcz51_2 : w50.cell? ⟨gb186,2,none⟩ = some (.int .i64 a1_2):=(kC BK186.out 2).trans rfl;have hcz51_3 : w50.cell? ⟨gb186,3,none⟩ = some (.int .i64 a1_3):=(kC BK186.out 3).trans rfl;have hfz51_0:=blk_frozen BK186.out 0;have hfz51_1:=blk_frozen BK186.out 1;have hfz51_2:=blk_frozen BK186.out 2;have hfz51_3:=blk_frozen BK186.out 3))
        go_ret
        exact ⟨by first|rfl|(simp [errW_none,errW_some] <;> rfl)|(simp [*,errW_none,errW_some] <;> rfl),by repeat (first|(with_reducible first|exact HB.out|apply bA|apply bN|apply bD|refine bS ?_ GE186.out)|exact HB.out)⟩
     ·rw [if_neg c17] at H
      have c17b0 : (a0 == 2) = false:=beq_eq_false_iff_ne.mpr c17
      have c17b1 : (a0 != 2) = true:=bne_iff_ne.mpr c17
      by_cases c52 : a0 = 3
      ·rw [if_pos c52] at H
       have c52b0 : (a0 == 3) = true:=beq_iff_eq.mpr c52
       have c52b1 : (a0 != 3) = false:=bne_eq_false_iff_eq.mpr c52
       clear c52
       by_cases c53 : a1_0 = a1_1
       ·rw [if_pos c53] at H
        have c53b0 : (a1_0 == a1_1) = true:=beq_iff_eq.mpr c53
        have c53b1 : (a1_0 != a1_1) = false:=bne_eq_false_iff_eq.mpr c53
        clear c53
        obtain rfl:=Option.some.inj H
        go_enter Try.func70,Try.ntmps70
        go_wp2_with (first|((with_reducible refine gate_dst (N:=3) rfl ?_);refine box_event ?hg (N:=3) ?hd (cs:=#[.int .i64 a1_0,.int .i64 a1_1,.int .i64 a1_2,.int .i64 a1_3]) (t:=36) ?hr ?_;(case hd => rfl);(case hg => rfl);(case hr => first|(go_simp;done)|(go_simp;rfl));intro gb186 hg w54 hbox hb;have n0_:=Ak (below_step (by repeat (first|(with_reducible first|exact HB.out|apply bA|apply bN|apply bD)|exact HB.out)) hb);have n1_:=Ak (hbox);have n2_:=Ak ((by rw [hg];exact (below_size (by repeat (first|(with_reducible first|exact HB.out|apply bA|apply bN|apply bD)|exact HB.out))) : w.heap.size ≤ gb186));have n3_:=Ak ((by rw [hg];exact (below_size (by repeat (first|(with_reducible first|exact HB.out|apply bA|apply bN|apply bD)|exact HB.out))) : w.heap.size ≤ gb186));clear HB;have HB:=n0_;have BK186:=n1_;have GW186:=n2_;have GE186:=n3_;clear n0_ n1_ n2_ n3_;clear hb hbox hg;have hcz55_0 : w54.cell? ⟨gb186,0,none⟩ = some (.int .i64 a1_0):=(kC BK186.out 0).trans rfl;have hcz55_1 : w54.cell? ⟨gb186,1,none⟩ = some (.int .i64 a1_1):=(kC BK186.out 1).trans rfl;have hcz55_2 : w54.cell? ⟨gb186,2,none⟩ = some (.int .i64 a1_2):=(kC BK186.out 2).trans rfl;have hcz55_3 : w54.cell? ⟨gb186,3,none⟩ = some (.int .i64 a1_3):=(kC BK186.out 3).trans rfl;have hfz55_0:=blk_frozen BK186.out 0;have hfz55_1:=blk_frozen BK186.out 1;have hfz55_2:=blk_frozen BK186.out 2;have hfz55_3:=blk_frozen BK186.out 3)|((with_reducible refine gate_callee (f:=26) rfl ?_);refine goesL_ (some 6) rfl rfl Try.func26 (by kernel_rfl) rfl #[.agg #[.int .i64 a1_0,.int .i64 a1_1,.int .i64 a1_2,.int .i64 a1_3]] rfl (by (try simp only [List.map_toArray,List.map_cons,List.map_nil]);first|done|rfl|(simp only [List.length_drop,List.length_take];rfl)) ?_;(with_reducible refine (gazetteerref09_Box.calls a1_0 a1_1 a1_2 a1_3 true _ A3.out).mono ?_);rintro e w56 ⟨rfl,hb⟩;refine ⟨_,rfl,?_⟩;have n0_:=Ak (kB (g:=gb186) (o:=.cells #[.int .i64 a1_0,.int .i64 a1_1,.int .i64 a1_2,.int .i64 a1_3] 36 (0,0)) (by (with_reducible repeat (first|refine kN ?_ _|refine kD ?_|refine kA ?_ _));exact BK186.out) hb);have n1_:=Ak (below_step (by repeat (first|(with_reducible first|exact HB.out|apply bA|apply bN|apply bD|refine bS ?_ GE186.out)|exact HB.out)) hb);clear BK186;clear HB;have BK186:=n0_;have HB:=n1_;clear n0_ n1_;(try clear hb);(try clear hb2);(try clear hk);(try clear hi);have hcz57_0 : w56.cell? ⟨gb186,0,none⟩ = some (.int .i64 a1_0):=(kC BK186.out 0).trans rfl;have hcz57_1 : w56.cell? ⟨gb186,1,none⟩ = some (.int .i64 a1_1):=(kC BK186.out 1).trans rfl;have hcz57_2 : w56.cell? ⟨gb186,2,none⟩ = some (.int .i64 a1_2):=(kC BK186.out 2).trans rfl;have hcz57_3 : w56.cell? ⟨gb186,3,none⟩ = some (.int .i64 a1_3):=(kC BK186.out 3).trans rfl;have hfz57_0:=blk_frozen BK186.out 0;have hfz57_1:=blk_frozen BK186.out 1;have hfz57_2:=blk_frozen BK186.out 2;have hfz57_3:=blk_frozen BK186.out 3))
        go_ret
        exact ⟨by first|rfl|(simp [errW_none,errW_some] <;> rfl)|(simp [*,errW_none,errW_some] <;> rfl),by repeat (first|(with_reducible first|exact HB.out|apply bA|apply bN|apply bD|refine bS ?_ GE186.out)|exact HB.out)⟩
       ·rw [if_neg c53] at H
        have c53b0 : (a1_0 == a1_1) = false:=beq_eq_false_iff_ne.mpr c53
        have c53b1 : (a1_0 != a1_1) = true:=bne_iff_ne.mpr c53
        obtain rfl:=Option.some.inj H
        go_enter Try.func70,Try.ntmps70
        go_wp2_with (first|((with_reducible refine gate_dst (N:=3) rfl ?_);refine box_event ?hg (N:=3) ?hd (cs:=#[.int .i64 a1_0,.int .i64 a1_1,.int .i64 a1_2,.int .i64 a1_3]) (t:=36) ?hr ?_;(case hd => rfl);(case hg => rfl);(case hr => first|(go_simp;done)|(go_simp;rfl));intro gb186 hg w58 hbox hb;have n0_:=Ak (below_step (by repeat (first|(with_reducible first|exact HB.out|apply bA|apply bN|apply bD)|exact HB.out)) hb);have n1_:=Ak (hbox);have n2_:=Ak ((by rw [hg];exact (below_size (by repeat (first|(with_reducible first|exact HB.out|apply bA|apply bN|apply bD)|exact HB.out))) : w.heap.size ≤ gb186));have n3_:=Ak ((by rw [hg];exact (below_size (by repeat (first|(with_reducible first|exact HB.out|apply bA|apply bN|apply bD)|exact HB.out))) : w.heap.size ≤ gb186));clear HB;have HB:=n0_;have BK186:=n1_;have GW186:=n2_;have GE186:=n3_;clear n0_ n1_ n2_ n3_;clear hb hbox hg;have hcz59_0 : w58.cell? ⟨gb186,0,none⟩ = some (.int .i64 a1_0):=(kC BK186.out 0).trans rfl;have hcz59_1 : w58.cell? ⟨gb186,1,none⟩ = some (.int .i64 a1_1):=(kC BK186.out 1).trans rfl;have hcz59_2 : w58.cell? ⟨gb186,2,none⟩ = some (.int .i64 a1_2):=(kC BK186.out 2).trans rfl;have hcz59_3 : w58.cell? ⟨gb186,3,none⟩ = some (.int .i64 a1_3):=(kC BK186.out 3).trans rfl;have hfz59_0:=blk_frozen BK186.out 0;have hfz59_1:=blk_frozen BK186.out 1;have hfz59_2:=blk_frozen BK186.out 2;have hfz59_3:=blk_frozen BK186.out 3)|((with_reducible refine gate_callee (f:=26) rfl ?_);refine goesL_ (some 6) rfl rfl Try.func26 (by kernel_rfl) rfl #[.agg #[.int .i64 a1_0,.int .i64 a1_1,.int .i64 a1_2,.int .i64 a1_3]] rfl (by (try simp only [List.map_toArray,List.map_cons,List.map_nil]);first|done|rfl|(simp only [List.length_drop,List.length_take];rfl)) ?_;(with_reducible refine (gazetteerref09_Box.calls a1_0 a1_1 a1_2 a1_3 true _ A3.out).mono ?_);rintro e w60 ⟨rfl,hb⟩;refine ⟨_,rfl,?_⟩;have n0_:=Ak (kB (g:=gb186) (o:=.cells #[.int .i64 a1_0,.int .i64 a1_1,.int .i64 a1_2,.int .i64 a1_3] 36 (0,0)) (by (with_reducible repeat (first|refine kN ?_ _|refine kD ?_|refine kA ?_ _));exact BK186.out) hb);have n1_:=Ak (below_step (by repeat (first|(with_reducible first|exact HB.out|apply bA|apply bN|apply bD|refine bS ?_ GE186.out)|exact HB.out)) hb);clear BK186;clear HB;have BK186:=n0_;have HB:=n1_;clear n0_ n1_;(try clear hb);(try clear hb2);(try clear hk);(try clear hi);have hcz61_0 : w60.cell? ⟨gb186,0,none⟩ = some (.int .i64 a1_0):=(kC BK186.out 0).trans rfl;have hcz61_1 : w60.cell? ⟨gb186,1,none⟩ = some (.int .i64 a1_1):=(kC BK186.out 1).trans rfl;have hcz61_2 : w60.cell? ⟨gb186,2,none⟩ = some (.int .i64 a1_2):=(kC BK186.out 2).trans rfl;have hcz61_3 : w60.cell? ⟨gb186,3,none⟩ = some (.int .i64 a1_3):=(kC BK186.out 3).trans rfl;have hfz61_0:=blk_frozen BK186.out 0;have hfz61_1:=blk_frozen BK186.out 1;have hfz61_2:=blk_frozen BK186.out 2;have hfz61_3:=blk_frozen BK186.out 3))
        go_ret
        exact ⟨by first|rfl|(simp [errW_none,errW_some] <;> rfl)|(simp [*,errW_none,errW_some] <;> rfl),by repeat (first|(with_reducible first|exact HB.out|apply bA|apply bN|apply bD|refine bS ?_ GE186.out)|exact HB.out)⟩
      ·rw [if_neg c52] at H
       have c52b0 : (a0 == 3) = false:=beq_eq_false_iff_ne.mpr c52
       have c52b1 : (a0 != 3) = true:=bne_iff_ne.mpr c52
       obtain rfl:=Option.some.inj H
       go_enter Try.func70,Try.ntmps70
       go_wp2_with (first|((with_reducible refine gate_dst (N:=3) rfl ?_);refine box_event ?hg (N:=3) ?hd (cs:=#[.int .i64 a1_0,.int .i64 a1_1,.int .i64 a1_2,.int .i64 a1_3]) (t:=36) ?hr ?_;(case hd => rfl);(case hg => rfl);(case hr => first|(go_simp;done)|(go_simp;rfl));intro gb186 hg w62 hbox hb;have n0_:=Ak (below_step (by repeat (first|(with_reducible first|exact HB.out|apply bA|apply bN|apply bD)|exact HB.out)) hb);have n1_:=Ak (hbox);have n2_:=Ak ((by rw [hg];exact (below_size (by repeat (first|(with_reducible first|exact HB.out|apply bA|apply bN|apply bD)|exact HB.out))) : w.heap.size ≤ gb186));have n3_:=Ak ((by rw [hg];exact (below_size (by repeat (first|(with_reducible first|exact HB.out|apply bA|apply bN|apply bD)|exact HB.out))) : w.heap.size ≤ gb186));clear HB;have HB:=n0_;have BK186:=n1_;have GW186:=n2_;have GE186:=n3_;clear n0_ n1_ n2_ n3_;clear hb hbox hg;have hcz63_0 : w62.cell? ⟨gb186,0,none⟩ = some (.int .i64 a1_0):=(kC BK186.out 0).trans rfl;have hcz63_1 : w62.cell? ⟨gb186,1,none⟩ = some (.int .i64 a1_1):=(kC BK186.out 1).trans rfl;have hcz63_2 : w62.cell? ⟨gb186,2,none⟩ = some (.int .i64 a1_2):=(kC BK186.out 2).trans rfl;have hcz63_3 : w62.cell? ⟨gb186,3,none⟩ = some (.int .i64 a1_3):=(kC BK186.out 3).trans rfl;have hfz63_0:=blk_frozen BK186.out 0;have hfz63_1:=blk_frozen BK186.out 1;have hfz63_2:=blk_frozen BK186.out 2;have hfz63_3:=blk_frozen BK186.out 3)|((with_reducible refine gate_callee (f:=26) rfl ?_);refine goesL_ (some 6) rfl rfl Try.func26 (by kernel_rfl) rfl #[.agg #[.int .i64 a1_0,.int .i64 a1_1,.int .i64 a1_2,.int .i64 a1_3]] rfl (by (try simp only [List.map_toArray,List.map_cons,List.map_nil]);first|done|rfl|(simp only [List.length_drop,List.length_take];rfl)) ?_;(with_reducible refine (gazetteerref09_Box.calls a1_0 a1_1 a1_2 a1_3 true _ A3.out).mono ?_);rintro e w64 ⟨rfl,hb⟩;refine ⟨_,rfl,?_⟩;have n0_:=Ak (kB (g:=gb186) (o:=.cells #[.int .i64 a1_0,.int .i64 a1_1,.int .i64 a1_2,.int .i64 a1_3] 36 (0,0)) (by (with_reducible repeat (first|refine kN ?_ _|refine kD ?_|refine kA ?_ _));exact BK186.out) hb);have n1_:=Ak (below_step (by repeat (first|(with_reducible first|exact HB.out|apply bA|apply bN|apply bD|refine bS ?_ GE186.out)|exact HB.out)) hb);clear BK186;clear HB;have BK186:=n0_;have HB:=n1_;clear n0_ n1_;(try clear hb);(try clear hb2);(try clear hk);(try clear hi)))
       go_ret
       exact ⟨by first|rfl|(simp [errW_none,errW_some] <;> rfl)|(simp [*,errW_none,errW_some] <;> rfl),by repeat (first|(with_reducible first|exact HB.out|apply bA|apply bN|apply bD|refine bS ?_ GE186.out)|exact HB.out)⟩
 ·replace c4:=Bool.eq_false_iff.mpr c4
  subst c4
  have H1 : (some false) = some r:=by rw [if_neg (show ¬ (false = true) by decide)] at H;exact H
  clear H
  have H:=H1
  clear H1
  obtain rfl:=Option.some.inj H
  go_enter Try.func70,Try.ntmps70
  go_wp2_with (first|((with_reducible refine gate_dst (N:=3) rfl ?_);refine box_event ?hg (N:=3) ?hd (cs:=#[.int .i64 a1_0,.int .i64 a1_1,.int .i64 a1_2,.int .i64 a1_3]) (t:=36) ?hr ?_;(case hd => rfl);(case hg => rfl);(case hr => first|(go_simp;done)|(go_simp;rfl));intro gb186 hg w65 hbox hb;have n0_:=Ak (below_step (by repeat (first|(with_reducible first|exact HB.out|apply bA|apply bN|apply bD)|exact HB.out)) hb);have n1_:=Ak (hbox);have n2_:=Ak ((by rw [hg];exact (below_size (by repeat (first|(with_reducible first|exact HB.out|apply bA|apply bN|apply bD)|exact HB.out))) : w.heap.size ≤ gb186));have n3_:=Ak ((by rw [hg];exact (below_size (by repeat (first|(with_reducible first|exact HB.out|apply bA|apply bN|apply bD)|exact HB.out))) : w.heap.size ≤ gb186));clear HB;have HB:=n0_;have BK186:=n1_;have GW186:=n2_;have GE186:=n3_;clear n0_ n1_ n2_ n3_;clear hb hbox hg;have hcz66_0 : w65.cell? ⟨gb186,0,none⟩ = some (.int .i64 a1_0):=(kC BK186.out 0).trans rfl;have hcz66_1 : w65.cell? ⟨gb186,1,none⟩ = some (.int .i64 a1_1):=(kC BK186.out 1).trans rfl;have hcz66_2 : w65.cell? ⟨gb186,2,none⟩ = some (.int .i64 a1_2):=(kC BK186.out 2).trans rfl;have hcz66_3 : w65.cell? ⟨gb186,3,none⟩ = some (.int .i64 a1_3):=(kC BK186.out 3).trans rfl;have hfz66_0:=blk_frozen BK186.out 0;have hfz66_1:=blk_frozen BK186.out 1;have hfz66_2:=blk_frozen BK186.out 2;have hfz66_3:=blk_frozen BK186.out 3)|((with_reducible refine gate_callee (f:=26) rfl ?_);refine goesL_ (some 6) rfl rfl Try.func26 (by kernel_rfl) rfl #[.agg #[.int .i64 a1_0,.int .i64 a1_1,.int .i64 a1_2,.int .i64 a1_3]] rfl (by (try simp only [List.map_toArray,List.map_cons,List.map_nil]);first|done|rfl|(simp only [List.length_drop,List.length_take];rfl)) ?_;(with_reducible refine (gazetteerref09_Box.calls a1_0 a1_1 a1_2 a1_3 false _ A3.out).mono ?_);rintro e w67 ⟨rfl,hb⟩;refine ⟨_,rfl,?_⟩;have n0_:=Ak (kB (g:=gb186) (o:=.cells #[.int .i64 a1_0,.int .i64 a1_1,.int .i64 a1_2,.int .i64 a1_3] 36 (0,0)) (by (with_reducible repeat (first|refine kN ?_ _|refine kD ?_|refine kA ?_ _));exact BK186.out) hb);have n1_:=Ak (below_step (by repeat (first|(with_reducible first|exact HB.out|apply bA|apply bN|apply bD|refine bS ?_ GE186.out)|exact HB.out)) hb);clear BK186;clear HB;have BK186:=n0_;have HB:=n1_;clear n0_ n1_;(try clear hb);(try clear hb2);(try clear hk);(try clear hi)))
  go_ret
  exact ⟨by first|rfl|(simp [errW_none,errW_some] <;> rfl)|(simp [*,errW_none,errW_some] <;> rfl),by repeat (first|(with_reducible first|exact HB.out|apply bA|apply bN|apply bD|refine bS ?_ GE186.out)|exact HB.out)⟩
def gazetteerref22_There.l0 : Nat → Int → List (S51) → Int → Int → Option (Bool)
  | 0, _, _, _, _ => none
  | k + 1, x1, x8, x9, x10 => if x10 < x9 then (if 0 ≤ x10 then (if x10 < (x8.length : Int) then (if ((rd_T51 x8 x10).f0) = x1 then (some true) else (gazetteerref22_There.l0 k x1 x8 x9 (wrap64 (x10 + 1)))) else (none)) else (none)) else (some false)
def gazetteerref22_There.f (k : Nat) (l0_0 : List (S51)) (a1 : Int) : Option (Bool) := gazetteerref22_There.l0 k a1 l0_0 (l0_0.length : Int) 0
set_option maxHeartbeats 8000000 in
set_option maxRecDepth 100000 in
theorem gazetteerref22_There.calls (k : Nat) (A0_0 : Option Addr) (c0_0 : Nat) (l0_0 : List (S51)) (a1 : Int) (r : Bool) (w : World) (hr0_0 : Kd.C k51 w A0_0 l0_0.length l0_0) (hc0_0 : l0_0.length ≤ c0_0) (h : gazetteerref22_There.f k l0_0 a1 = some r) :
  Calls Try.prog 71 #[.agg #[.slice A0_0 l0_0.length c0_0],.int .u32 a1] w fun e w' => e = .returned (.bool r)∧Below w.heap.size w w':=by
 have hu24:=Try.underlying24
 have hu51:=Try.underlying51
 have HR0_0:=Ak hr0_0
 have HC0_0:=Ak hc0_0
 clear hr0_0 hc0_0
 have HB:=Ak (Below.refl w.heap.size w)
 have H : (gazetteerref22_There.l0 k a1 l0_0 (l0_0.length : Int) 0) = some r:=h
 clear h
 have H':=Ak H
 clear H
 go_enter Try.func71,Try.ntmps71
 go_wp2_with (first|((with_reducible refine gate_dst (N:=2) rfl ?_);refine box_event ?hg (N:=2) ?hd (cs:=#[.slice A0_0 l0_0.length c0_0]) (t:=24) ?hr ?_;(case hd => rfl);(case hg => rfl);(case hr => first|(go_simp;done)|(go_simp;rfl));intro gb188 hg w3 hbox hb;have n0_:=Ak (below_step (by repeat (first|(with_reducible first|exact HB.out|apply bA|apply bN|apply bD)|exact HB.out)) hb);have n1_:=Ak (hbox);have n2_:=Ak ((by rw [hg];exact (below_size (by repeat (first|(with_reducible first|exact HB.out|apply bA|apply bN|apply bD)|exact HB.out))) : w.heap.size ≤ gb188));have n3_:=Ak ((by rw [hg];exact (below_size (by repeat (first|(with_reducible first|exact HB.out|apply bA|apply bN|apply bD)|exact HB.out))) : w.heap.size ≤ gb188));clear HB;have HB:=n0_;have BK188:=n1_;have GW188:=n2_;have GE188:=n3_;clear n0_ n1_ n2_ n3_;clear hb hbox hg;have hcz4_0 : w3.cell? ⟨gb188,0,none⟩ = some (.slice A0_0 l0_0.length c0_0):=(kC BK188.out 0).trans rfl;have hfz4_0:=blk_frozen BK188.out 0))
 go_loopg [10] k (fun kq v10 w' => ∃ (x10_1 : Int),v10 = .int .i64 x10_1∧Aside0 (gazetteerref22_There.l0 kq a1 l0_0 (l0_0.length : Int) x10_1 = some r)∧Aside0 (kq ≤ k)∧Aside0 (w'.heap[gb188]? = some (.cells #[(.slice A0_0 l0_0.length c0_0)] 24 (0,0)))∧Aside0 (Below w.heap.size w w'))
 case atStart => exact ⟨(0),(by first|rfl|(simp;done)|(simp [*];done)),H',⟨Nat.le_refl _⟩,⟨by (with_reducible repeat (first|refine kN ?_ _|refine kD ?_|refine kA ?_ _));exact BK188.out⟩,⟨by repeat (first|(with_reducible first|exact HB.out|apply bA|apply bN|apply bD|refine bS ?_ GE188.out)|exact HB.out)⟩⟩
 case round =>
  clear H'
  try clear p2
  try clear hcz4_0
  try clear hfz4_0
  obtain ⟨x10_1,rfl,HA,HK1,BK188,HB⟩:=hrel
  cases gk with
  | zero => exact absurd HA.out (by simp [gazetteerref22_There.l0])
  | succ k1 =>
   have H:=HA.out
   clear HA
   simp only [gazetteerref22_There.l0] at H
   by_cases c5 : x10_1 < (l0_0.length : Int)
   ·rw [if_pos c5] at H
    have c5b0 : decide (x10_1 < (l0_0.length : Int)) = true:=decide_eq_true c5
    clear c5
    by_cases c6 : 0 ≤ x10_1
    ·rw [if_pos c6] at H
     have c6b0 : decide (0 ≤ x10_1) = true:=decide_eq_true c6
     clear c6
     by_cases c7 : x10_1 < (l0_0.length : Int)
     ·rw [if_pos c7] at H
      have c7b0 : decide (x10_1 < (l0_0.length : Int)) = true:=decide_eq_true c7
      clear c7
      by_cases c8 : ((rd_T51 l0_0 x10_1).f0) = a1
      ·rw [if_pos c8] at H
       have c8b0 : (((rd_T51 l0_0 x10_1).f0) == a1) = true:=beq_iff_eq.mpr c8
       have c8b1 : (((rd_T51 l0_0 x10_1).f0) != a1) = false:=bne_eq_false_iff_eq.mpr c8
       clear c8
       obtain rfl:=Option.some.inj H
       have p189 : 0 ≤ (x10_1 : Int):=of_decide_eq_true (by first|(with_reducible assumption)|assumption)
       have q189 : x10_1 < (l0_0.length : Int):=of_decide_eq_true (by first|(with_reducible assumption)|assumption)
       obtain ⟨ad189,e189,hx189_0,hx189_1,hx189_2,hx189_3,hx189_4,hx189_5⟩:=at_T51 HR0_0.out x10_1 p189 q189
       cases e189
       replace hx189_0:=(HB.out.cell (World.block_lt_of_cell? w _ hx189_0)).trans hx189_0
       replace hx189_1:=(HB.out.cell (World.block_lt_of_cell? w _ hx189_1)).trans hx189_1
       replace hx189_2:=(HB.out.cell (World.block_lt_of_cell? w _ hx189_2)).trans hx189_2
       replace hx189_3:=(HB.out.cell (World.block_lt_of_cell? w _ hx189_3)).trans hx189_3
       replace hx189_4:=(HB.out.cell (World.block_lt_of_cell? w _ hx189_4)).trans hx189_4
       replace hx189_5:=(HB.out.cell (World.block_lt_of_cell? w _ hx189_5)).trans hx189_5
       replace p189:=eq_true p189
       replace q189:=eq_true q189
       go_wp2_with (first|((with_reducible refine gate_dst (N:=6) rfl ?_);refine box_event ?hg (N:=6) ?hd (cs:=#[.int .u32 0,.int .i64 0,.int .i64 0,.int .i64 0,.int .i64 0,.int .i64 0]) (t:=51) ?hr ?_;(case hd => rfl);(case hg => rfl);(case hr => first|(go_simp;done)|(go_simp;rfl));intro gb190 hg w9 hbox hb;have n0_:=Ak (kB (g:=gb188) (o:=.cells #[.slice (some ad189) l0_0.length c0_0] 24 (0,0)) (by (with_reducible repeat (first|refine kN ?_ _|refine kD ?_|refine kA ?_ _));exact BK188.out) hb);have n1_:=Ak (below_step (by repeat (first|(with_reducible first|exact HB.out|apply bA|apply bN|apply bD|refine bS ?_ GE188.out)|exact HB.out)) hb);have n2_:=Ak (hbox);have n3_:=Ak ((by rw [hg];exact (below_size (by repeat (first|(with_reducible first|exact HB.out|apply bA|apply bN|apply bD|refine bS ?_ GE188.out)|exact HB.out))) : w.heap.size ≤ gb190));have n4_:=Ak ((by rw [hg];exact (below_size (by repeat (first|(with_reducible first|exact HB.out|apply bA|apply bN|apply bD|refine bS ?_ GE188.out)|exact HB.out))) : w.heap.size ≤ gb190));have n5_:=Ak ((by rw [hg];exact Nat.ne_of_lt (blk_lt (g:=gb188) (o:=.cells #[.slice (some ad189) l0_0.length c0_0] 24 (0,0)) (by (with_reducible repeat (first|refine kN ?_ _|refine kD ?_|refine kA ?_ _));exact BK188.out)) : gb188 ≠ gb190));have n6_:=Ak ((by rw [hg];exact Nat.ne_of_gt (blk_lt (g:=gb188) (o:=.cells #[.slice (some ad189) l0_0.length c0_0] 24 (0,0)) (by (with_reducible repeat (first|refine kN ?_ _|refine kD ?_|refine kA ?_ _));exact BK188.out)) : gb190 ≠ gb188));clear BK188;clear HB;have BK188:=n0_;have HB:=n1_;have BK190:=n2_;have GW190:=n3_;have GE190:=n4_;have NB188_190:=n5_;have NB190_188:=n6_;clear n0_ n1_ n2_ n3_ n4_ n5_ n6_;clear hb hbox hg;have hnb10:=NB190_188.out;have hnc10:=NB188_190.out;have hcz11_0 : w9.cell? ⟨gb190,0,none⟩ = some (.int .u32 0):=(kC BK190.out 0).trans rfl;have hcz11_1 : w9.cell? ⟨gb190,1,none⟩ = some (.int .i64 0):=(kC BK190.out 1).trans rfl;have hcz11_2 : w9.cell? ⟨gb190,2,none⟩ = some (.int .i64 0):=(kC BK190.out 2).trans rfl;have hcz11_3 : w9.cell? ⟨gb190,3,none⟩ = some (.int .i64 0):=(kC BK190.out 3).trans rfl;have hcz11_4 : w9.cell? ⟨gb190,4,none⟩ = some (.int .i64 0):=(kC BK190.out 4).trans rfl;have hcz11_5 : w9.cell? ⟨gb190,5,none⟩ = some (.int .i64 0):=(kC BK190.out 5).trans rfl;have hfz11_0:=blk_frozen BK190.out 0;have hfz11_1:=blk_frozen BK190.out 1;have hfz11_2:=blk_frozen BK190.out 2;have hfz11_3:=blk_frozen BK190.out 3;have hfz11_4:=blk_frozen BK190.out 4;have hfz11_5:=blk_frozen BK190.out 5))
       go_ret
       exact ⟨by first|rfl|(simp [errW_none,errW_some] <;> rfl)|(simp [*,errW_none,errW_some] <;> rfl),by repeat (first|(with_reducible first|exact HB.out|apply bA|apply bN|apply bD|refine bS ?_ GE188.out|refine bS ?_ GE190.out)|exact HB.out)⟩
      ·rw [if_neg c8] at H
       have c8b0 : (((rd_T51 l0_0 x10_1).f0) == a1) = false:=beq_eq_false_iff_ne.mpr c8
       have c8b1 : (((rd_T51 l0_0 x10_1).f0) != a1) = true:=bne_iff_ne.mpr c8
       have H':=Ak H
       clear H
       have p189 : 0 ≤ (x10_1 : Int):=of_decide_eq_true (by first|(with_reducible assumption)|assumption)
       have q189 : x10_1 < (l0_0.length : Int):=of_decide_eq_true (by first|(with_reducible assumption)|assumption)
       obtain ⟨ad189,e189,hx189_0,hx189_1,hx189_2,hx189_3,hx189_4,hx189_5⟩:=at_T51 HR0_0.out x10_1 p189 q189
       cases e189
       replace hx189_0:=(HB.out.cell (World.block_lt_of_cell? w _ hx189_0)).trans hx189_0
       replace hx189_1:=(HB.out.cell (World.block_lt_of_cell? w _ hx189_1)).trans hx189_1
       replace hx189_2:=(HB.out.cell (World.block_lt_of_cell? w _ hx189_2)).trans hx189_2
       replace hx189_3:=(HB.out.cell (World.block_lt_of_cell? w _ hx189_3)).trans hx189_3
       replace hx189_4:=(HB.out.cell (World.block_lt_of_cell? w _ hx189_4)).trans hx189_4
       replace hx189_5:=(HB.out.cell (World.block_lt_of_cell? w _ hx189_5)).trans hx189_5
       replace p189:=eq_true p189
       replace q189:=eq_true q189
       go_wp2_with (first|((with_reducible refine gate_dst (N:=6) rfl ?_);refine box_event ?hg (N:=6) ?hd (cs:=#[.int .u32 0,.int .i64 0,.int .i64 0,.int .i64 0,.int .i64 0,.int .i64 0]) (t:=51) ?hr ?_;(case hd => rfl);(case hg => rfl);(case hr => first|(go_simp;done)|(go_simp;rfl));intro gb190 hg w12 hbox hb;have n0_:=Ak (kB (g:=gb188) (o:=.cells #[.slice (some ad189) l0_0.length c0_0] 24 (0,0)) (by (with_reducible repeat (first|refine kN ?_ _|refine kD ?_|refine kA ?_ _));exact BK188.out) hb);have n1_:=Ak (below_step (by repeat (first|(with_reducible first|exact HB.out|apply bA|apply bN|apply bD|refine bS ?_ GE188.out)|exact HB.out)) hb);have n2_:=Ak (hbox);have n3_:=Ak ((by rw [hg];exact (below_size (by repeat (first|(with_reducible first|exact HB.out|apply bA|apply bN|apply bD|refine bS ?_ GE188.out)|exact HB.out))) : w.heap.size ≤ gb190));have n4_:=Ak ((by rw [hg];exact (below_size (by repeat (first|(with_reducible first|exact HB.out|apply bA|apply bN|apply bD|refine bS ?_ GE188.out)|exact HB.out))) : w.heap.size ≤ gb190));have n5_:=Ak ((by rw [hg];exact Nat.ne_of_lt (blk_lt (g:=gb188) (o:=.cells #[.slice (some ad189) l0_0.length c0_0] 24 (0,0)) (by (with_reducible repeat (first|refine kN ?_ _|refine kD ?_|refine kA ?_ _));exact BK188.out)) : gb188 ≠ gb190));have n6_:=Ak ((by rw [hg];exact Nat.ne_of_gt (blk_lt (g:=gb188) (o:=.cells #[.slice (some ad189) l0_0.length c0_0] 24 (0,0)) (by (with_reducible repeat (first|refine kN ?_ _|refine kD ?_|refine kA ?_ _));exact BK188.out)) : gb190 ≠ gb188));clear BK188;clear HB;have BK188:=n0_;have HB:=n1_;have BK190:=n2_;have GW190:=n3_;have GE190:=n4_;have NB188_190:=n5_;have NB190_188:=n6_;clear n0_ n1_ n2_ n3_ n4_ n5_ n6_;clear hb hbox hg;have hnb13:=NB190_188.out;have hnc13:=NB188_190.out;have hcz14_0 : w12.cell? ⟨gb190,0,none⟩ = some (.int .u32 0):=(kC BK190.out 0).trans rfl;have hcz14_1 : w12.cell? ⟨gb190,1,none⟩ = some (.int .i64 0):=(kC BK190.out 1).trans rfl;have hcz14_2 : w12.cell? ⟨gb190,2,none⟩ = some (.int .i64 0):=(kC BK190.out 2).trans rfl;have hcz14_3 : w12.cell? ⟨gb190,3,none⟩ = some (.int .i64 0):=(kC BK190.out 3).trans rfl;have hcz14_4 : w12.cell? ⟨gb190,4,none⟩ = some (.int .i64 0):=(kC BK190.out 4).trans rfl;have hcz14_5 : w12.cell? ⟨gb190,5,none⟩ = some (.int .i64 0):=(kC BK190.out 5).trans rfl;have hfz14_0:=blk_frozen BK190.out 0;have hfz14_1:=blk_frozen BK190.out 1;have hfz14_2:=blk_frozen BK190.out 2;have hfz14_3:=blk_frozen BK190.out 3;have hfz14_4:=blk_frozen BK190.out 4;have hfz14_5:=blk_frozen BK190.out 5))
       go_roundg k1
       case measure => have:=HK1.out;omega
       case rel => exact ⟨(wrap64 (x10_1+1)),(by first|rfl|(simp;done)|(simp [*];done)),H',⟨by have:=HK1.out;omega⟩,⟨by (with_reducible repeat (first|refine kN ?_ _|refine kD ?_|refine kA ?_ _));refine blk_far ?_ NB188_190.out _;(with_reducible repeat (first|refine kN ?_ _|refine kD ?_|refine kA ?_ _));refine blk_far ?_ NB188_190.out _;(with_reducible repeat (first|refine kN ?_ _|refine kD ?_|refine kA ?_ _));refine blk_far ?_ NB188_190.out _;(with_reducible repeat (first|refine kN ?_ _|refine kD ?_|refine kA ?_ _));refine blk_far ?_ NB188_190.out _;(with_reducible repeat (first|refine kN ?_ _|refine kD ?_|refine kA ?_ _));refine blk_far ?_ NB188_190.out _;(with_reducible repeat (first|refine kN ?_ _|refine kD ?_|refine kA ?_ _));refine blk_far ?_ NB188_190.out _;(with_reducible repeat (first|refine kN ?_ _|refine kD ?_|refine kA ?_ _));exact BK188.out⟩,⟨by repeat (first|(with_reducible first|exact HB.out|apply bA|apply bN|apply bD|refine bS ?_ GE188.out|refine bS ?_ GE190.out)|exact HB.out)⟩⟩
     ·rw [if_neg c7] at H
      exact absurd H (by simp)
    ·rw [if_neg c6] at H
     exact absurd H (by simp)
   ·rw [if_neg c5] at H
    have c5b0 : decide (x10_1 < (l0_0.length : Int)) = false:=decide_eq_false c5
    clear c5
    obtain rfl:=Option.some.inj H
    go_wp2
    go_ret
    exact ⟨by first|rfl|(simp [errW_none,errW_some] <;> rfl)|(simp [*,errW_none,errW_some] <;> rfl),by repeat (first|(with_reducible first|exact HB.out|apply bA|apply bN|apply bD|refine bS ?_ GE188.out)|exact HB.out)⟩
def gazetteerref22_wrong.j0 : Nat → Int → Int → Bool → List (S51) → Int → Bool → Int → Int → Int → Int → Int → Int → Option (Int)
  | 0, _, _, _, _, _, _, _, _, _, _, _, _ => none
  | k + 1, x1, x8, x9, x192000, x193000, x193001, x193002, x193003, x193004, x193005, x193006, x193007 => if x9 = true then (some 0) else (if x8 = 2 then (if x193002 = 0 then (some 2) else ((gazetteerref09_Right.f x1 x193003 x193004 x193005 x193006).bind fun t193 => (if t193 = true then ((gazetteerref22_There.f k x192000 x193002).bind fun t194 => (if t194 = true then (some 5) else (if (x192000.length : Int) = 128 then (some 6) else (some 0)))) else (some 314)))) else (if x8 = 3 then (if x193002 = 0 then (some 2) else ((gazetteerref22_There.f k x192000 x193002).bind fun t195 => (if t195 = true then (some 0) else (some 4)))) else (if x8 = 4 then ((gazetteerref09_Box.f x193003 x193004 x193005 x193006).bind fun t196 => (if t196 = true then (some 0) else (some 314))) else (some 2))))
def gazetteerref22_wrong.f (k : Nat) (l0_0 : List (S51)) (a1 : Int) (a2_0 : Int) (a2_1 : Bool) (a2_2 : Int) (a2_3 : Int) (a2_4 : Int) (a2_5 : Int) (a2_6 : Int) (a2_7 : Int) : Option (Int) := if a2_0 = 1 then (gazetteerref22_wrong.j0 k a1 a2_0 (a2_0 == 1) l0_0 a2_0 a2_1 a2_2 a2_3 a2_4 a2_5 a2_6 a2_7) else (if a2_0 = 5 then (gazetteerref22_wrong.j0 k a1 a2_0 (a2_0 == 5) l0_0 a2_0 a2_1 a2_2 a2_3 a2_4 a2_5 a2_6 a2_7) else (gazetteerref22_wrong.j0 k a1 a2_0 (a2_0 == 6) l0_0 a2_0 a2_1 a2_2 a2_3 a2_4 a2_5 a2_6 a2_7))
set_option maxHeartbeats 8000000 in
set_option maxRecDepth 100000 in
theorem gazetteerref22_wrong.calls (k : Nat) (A0_0 : Option Addr) (c0_0 : Nat) (l0_0 : List (S51)) (a1 : Int) (a2_0 : Int) (a2_1 : Bool) (a2_2 : Int) (a2_3 : Int) (a2_4 : Int) (a2_5 : Int) (a2_6 : Int) (a2_7 : Int) (r : Int) (w : World) (hr0_0 : Kd.C k51 w A0_0 l0_0.length l0_0) (hc0_0 : l0_0.length ≤ c0_0) (h : gazetteerref22_wrong.f k l0_0 a1 a2_0 a2_1 a2_2 a2_3 a2_4 a2_5 a2_6 a2_7 = some r) :
  Calls Try.prog 45 #[.agg #[.slice A0_0 l0_0.length c0_0],.int .i64 a1,.agg #[.int .i64 a2_0,.bool a2_1,.int .u32 a2_2,.int .i64 a2_3,.int .i64 a2_4,.int .i64 a2_5,.int .i64 a2_6,.int .i64 a2_7]] w fun e w' => e = .returned (.int .i64 r)∧Below w.heap.size w w':=by
 have hu24:=Try.underlying24
 have hu38:=Try.underlying38
 have hu36:=Try.underlying36
 have HR0_0:=Ak hr0_0
 have HC0_0:=Ak hc0_0
 clear hr0_0 hc0_0
 have HB:=Ak (Below.refl w.heap.size w)
 have H : (if a2_0 = 1 then (gazetteerref22_wrong.j0 k a1 a2_0 (a2_0 == 1) l0_0 a2_0 a2_1 a2_2 a2_3 a2_4 a2_5 a2_6 a2_7) else (if a2_0 = 5 then (gazetteerref22_wrong.j0 k a1 a2_0 (a2_0 == 5) l0_0 a2_0 a2_1 a2_2 a2_3 a2_4 a2_5 a2_6 a2_7) else (gazetteerref22_wrong.j0 k a1 a2_0 (a2_0 == 6) l0_0 a2_0 a2_1 a2_2 a2_3 a2_4 a2_5 a2_6 a2_7))) = some r:=h
 clear h
 have HC4:=Ak H
 clear H
 go_enter Try.func45,Try.ntmps45
 go_upto_if 9 with (first|((with_reducible refine gate_dst (N:=3) rfl ?_);refine box_event ?hg (N:=3) ?hd (cs:=#[.slice A0_0 l0_0.length c0_0]) (t:=24) ?hr ?_;(case hd => rfl);(case hg => rfl);(case hr => first|(go_simp;done)|(go_simp;rfl));intro gb191 hg w5 hbox hb;have n0_:=Ak (below_step (by repeat (first|(with_reducible first|exact HB.out|apply bA|apply bN|apply bD)|exact HB.out)) hb);have n1_:=Ak (hbox);have n2_:=Ak ((by rw [hg];exact (below_size (by repeat (first|(with_reducible first|exact HB.out|apply bA|apply bN|apply bD)|exact HB.out))) : w.heap.size ≤ gb191));have n3_:=Ak ((by rw [hg];exact (below_size (by repeat (first|(with_reducible first|exact HB.out|apply bA|apply bN|apply bD)|exact HB.out))) : w.heap.size ≤ gb191));clear HB;have HB:=n0_;have BK191:=n1_;have GW191:=n2_;have GE191:=n3_;clear n0_ n1_ n2_ n3_;clear hb hbox hg)|((with_reducible refine gate_dst (N:=5) rfl ?_);refine box_event ?hg (N:=5) ?hd (cs:=#[.int .i64 a2_0,.bool a2_1,.int .u32 a2_2,.int .i64 a2_3,.int .i64 a2_4,.int .i64 a2_5,.int .i64 a2_6,.int .i64 a2_7]) (t:=38) ?hr ?_;(case hd => rfl);(case hg => rfl);(case hr => first|(go_simp;done)|(go_simp;rfl));intro gb192 hg w6 hbox hb;have n0_:=Ak (kB (g:=gb191) (o:=.cells #[.slice A0_0 l0_0.length c0_0] 24 (0,0)) (by (with_reducible repeat (first|refine kN ?_ _|refine kD ?_|refine kA ?_ _));exact BK191.out) hb);have n1_:=Ak (below_step (by repeat (first|(with_reducible first|exact HB.out|apply bA|apply bN|apply bD|refine bS ?_ GE191.out)|exact HB.out)) hb);have n2_:=Ak (hbox);have n3_:=Ak ((by rw [hg];exact (below_size (by repeat (first|(with_reducible first|exact HB.out|apply bA|apply bN|apply bD|refine bS ?_ GE191.out)|exact HB.out))) : w.heap.size ≤ gb192));have n4_:=Ak ((by rw [hg];exact (below_size (by repeat (first|(with_reducible first|exact HB.out|apply bA|apply bN|apply bD|refine bS ?_ GE191.out)|exact HB.out))) : w.heap.size ≤ gb192));have n5_:=Ak ((by rw [hg];exact Nat.ne_of_lt (blk_lt (g:=gb191) (o:=.cells #[.slice A0_0 l0_0.length c0_0] 24 (0,0)) (by (with_reducible repeat (first|refine kN ?_ _|refine kD ?_|refine kA ?_ _));exact BK191.out)) : gb191 ≠ gb192));have n6_:=Ak ((by rw [hg];exact Nat.ne_of_gt (blk_lt (g:=gb191) (o:=.cells #[.slice A0_0 l0_0.length c0_0] 24 (0,0)) (by (with_reducible repeat (first|refine kN ?_ _|refine kD ?_|refine kA ?_ _));exact BK191.out)) : gb192 ≠ gb191));clear BK191;clear HB;have BK191:=n0_;have HB:=n1_;have BK192:=n2_;have GW192:=n3_;have GE192:=n4_;have NB191_192:=n5_;have NB192_191:=n6_;clear n0_ n1_ n2_ n3_ n4_ n5_ n6_;clear hb hbox hg;have hnb7:=NB192_191.out;have hnc7:=NB191_192.out;have hcz8_0 : w6.cell? ⟨gb192,0,none⟩ = some (.int .i64 a2_0):=(kC BK192.out 0).trans rfl;have hcz8_1 : w6.cell? ⟨gb192,1,none⟩ = some (.bool a2_1):=(kC BK192.out 1).trans rfl;have hcz8_2 : w6.cell? ⟨gb192,2,none⟩ = some (.int .u32 a2_2):=(kC BK192.out 2).trans rfl;have hcz8_3 : w6.cell? ⟨gb192,3,none⟩ = some (.int .i64 a2_3):=(kC BK192.out 3).trans rfl;have hcz8_4 : w6.cell? ⟨gb192,4,none⟩ = some (.int .i64 a2_4):=(kC BK192.out 4).trans rfl;have hcz8_5 : w6.cell? ⟨gb192,5,none⟩ = some (.int .i64 a2_5):=(kC BK192.out 5).trans rfl;have hcz8_6 : w6.cell? ⟨gb192,6,none⟩ = some (.int .i64 a2_6):=(kC BK192.out 6).trans rfl;have hcz8_7 : w6.cell? ⟨gb192,7,none⟩ = some (.int .i64 a2_7):=(kC BK192.out 7).trans rfl;have hfz8_0:=blk_frozen BK192.out 0;have hfz8_1:=blk_frozen BK192.out 1;have hfz8_2:=blk_frozen BK192.out 2;have hfz8_3:=blk_frozen BK192.out 3;have hfz8_4:=blk_frozen BK192.out 4;have hfz8_5:=blk_frozen BK192.out 5;have hfz8_6:=blk_frozen BK192.out 6;have hfz8_7:=blk_frozen BK192.out 7))
 (try simp only [Act.put,sA,sZ,sS])
 go_cut [9] (fun v9 wc => ∃ (kq : Nat) (x9_3 : Bool),v9 = .bool x9_3∧Aside0 (gazetteerref22_wrong.j0 kq a1 a2_0 x9_3 l0_0 a2_0 a2_1 a2_2 a2_3 a2_4 a2_5 a2_6 a2_7 = some r)∧Aside0 (kq ≤ k)∧Aside0 (wc.heap[gb191]? = some (.cells #[(.slice A0_0 l0_0.length c0_0)] 24 (0,0)))∧Aside0 (wc.heap[gb192]? = some (.cells #[.int .i64 a2_0,.bool a2_1,.int .u32 a2_2,.int .i64 a2_3,.int .i64 a2_4,.int .i64 a2_5,.int .i64 a2_6,.int .i64 a2_7] 38 (0,0)))∧Aside0 (Below w.heap.size w wc))
 case first =>
  have H:=HC4.out
  clear HC4
  by_cases c9 : a2_0 = 1
  ·rw [if_pos c9] at H
   have c9b0 : (a2_0 == 1) = true:=beq_iff_eq.mpr c9
   have c9b1 : (a2_0 != 1) = false:=bne_eq_false_iff_eq.mpr c9
   clear c9
   (first|rw [c9b0]|(simp only [i64_w,i32_w];rw [c9b0])|skip)
   have H':=Ak H
   clear H
   go_wp2
   go_meet
   case rel => exact ⟨_,((a2_0 == 1)),(by first|rfl|(simp;done)|(simp [*];done)),H',⟨by first|omega|exact Nat.le_refl _⟩,⟨by (with_reducible repeat (first|refine kN ?_ _|refine kD ?_|refine kA ?_ _));exact BK191.out⟩,⟨by (with_reducible repeat (first|refine kN ?_ _|refine kD ?_|refine kA ?_ _));exact BK192.out⟩,⟨by repeat (first|(with_reducible first|exact HB.out|apply bA|apply bN|apply bD|refine bS ?_ GE191.out|refine bS ?_ GE192.out)|exact HB.out)⟩⟩
  ·rw [if_neg c9] at H
   have c9b0 : (a2_0 == 1) = false:=beq_eq_false_iff_ne.mpr c9
   have c9b1 : (a2_0 != 1) = true:=bne_iff_ne.mpr c9
   (first|rw [c9b0]|(simp only [i64_w,i32_w];rw [c9b0])|skip)
   by_cases c10 : a2_0 = 5
   ·rw [if_pos c10] at H
    have c10b0 : (a2_0 == 5) = true:=beq_iff_eq.mpr c10
    have c10b1 : (a2_0 != 5) = false:=bne_eq_false_iff_eq.mpr c10
    clear c10
    have H':=Ak H
    clear H
    go_wp2
    go_meet
    case rel => exact ⟨_,((a2_0 == 5)),(by first|rfl|(simp;done)|(simp [*];done)),H',⟨by first|omega|exact Nat.le_refl _⟩,⟨by (with_reducible repeat (first|refine kN ?_ _|refine kD ?_|refine kA ?_ _));exact BK191.out⟩,⟨by (with_reducible repeat (first|refine kN ?_ _|refine kD ?_|refine kA ?_ _));exact BK192.out⟩,⟨by repeat (first|(with_reducible first|exact HB.out|apply bA|apply bN|apply bD|refine bS ?_ GE191.out|refine bS ?_ GE192.out)|exact HB.out)⟩⟩
   ·rw [if_neg c10] at H
    have c10b0 : (a2_0 == 5) = false:=beq_eq_false_iff_ne.mpr c10
    have c10b1 : (a2_0 != 5) = true:=bne_iff_ne.mpr c10
    have H':=Ak H
    clear H
    go_wp2
    go_meet
    case rel => exact ⟨_,((a2_0 == 6)),(by first|rfl|(simp;done)|(simp [*];done)),H',⟨by first|omega|exact Nat.le_refl _⟩,⟨by (with_reducible repeat (first|refine kN ?_ _|refine kD ?_|refine kA ?_ _));exact BK191.out⟩,⟨by (with_reducible repeat (first|refine kN ?_ _|refine kD ?_|refine kA ?_ _));exact BK192.out⟩,⟨by repeat (first|(with_reducible first|exact HB.out|apply bA|apply bN|apply bD|refine bS ?_ GE191.out|refine bS ?_ GE192.out)|exact HB.out)⟩⟩
 case rest =>
  clear HC4
  try clear c1
  try clear p2
  try clear c4
  try clear c7
  try clear c9
  try clear c9b0
  try clear c9b1
  try clear c10
  try clear c10b0
  try clear c10b1
  try clear hcz8_0
  try clear hcz8_1
  try clear hcz8_2
  try clear hcz8_3
  try clear hcz8_4
  try clear hcz8_5
  try clear hcz8_6
  try clear hcz8_7
  try clear hfz8_0
  try clear hfz8_1
  try clear hfz8_2
  try clear hfz8_3
  try clear hfz8_4
  try clear hfz8_5
  try clear hfz8_6
  try clear hfz8_7
  obtain ⟨kq,x9_3,rfl,HA,HJ3,BK191,BK192,HB⟩:=hcut
  cases kq with
  | zero => exact absurd HA.out (by simp [gazetteerref22_wrong.j0])
  | succ kj3 =>
   have H:=HA.out
   clear HA
   simp only [gazetteerref22_wrong.j0] at H
   by_cases c11 : x9_3 = true
   ·subst c11
    have H1 : (some 0) = some r:=by rw [if_pos rfl] at H;exact H
    clear H
    have H:=H1
    clear H1
    obtain rfl:=Option.some.inj H
    go_wp2
    go_ret
    exact ⟨by first|rfl|(simp [errW_none,errW_some] <;> rfl)|(simp [*,errW_none,errW_some] <;> rfl),by repeat (first|(with_reducible first|exact HB.out|apply bA|apply bN|apply bD|refine bS ?_ GE191.out|refine bS ?_ GE192.out)|exact HB.out)⟩
   ·replace c11:=Bool.eq_false_iff.mpr c11
    subst c11
    have H1 : (if a2_0 = 2 then (if a2_2 = 0 then (some 2) else ((gazetteerref09_Right.f a1 a2_3 a2_4 a2_5 a2_6).bind fun t193 => (if t193 = true then ((gazetteerref22_There.f kj3 l0_0 a2_2).bind fun t194 => (if t194 = true then (some 5) else (if (l0_0.length : Int) = 128 then (some 6) else (some 0)))) else (some 314)))) else (if a2_0 = 3 then (if a2_2 = 0 then (some 2) else ((gazetteerref22_There.f kj3 l0_0 a2_2).bind fun t195 => (if t195 = true then (some 0) else (some 4)))) else (if a2_0 = 4 then ((gazetteerref09_Box.f a2_3 a2_4 a2_5 a2_6).bind fun t196 => (if t196 = true then (some 0) else (some 314))) else (some 2)))) = some r:=by rw [if_neg (show ¬ (false = true) by decide)] at H;exact H
    clear H
    have H:=H1
    clear H1
    by_cases c12 : a2_0 = 2
    ·rw [if_pos c12] at H
     have c12b0 : (a2_0 == 2) = true:=beq_iff_eq.mpr c12
     have c12b1 : (a2_0 != 2) = false:=bne_eq_false_iff_eq.mpr c12
     clear c12
     by_cases c13 : a2_2 = 0
     ·rw [if_pos c13] at H
      have c13b0 : (a2_2 == 0) = true:=beq_iff_eq.mpr c13
      have c13b1 : (a2_2 != 0) = false:=bne_eq_false_iff_eq.mpr c13
      clear c13
      obtain rfl:=Option.some.inj H
      have hnb14:=NB192_191.out
      have hnc14:=NB191_192.out
      have hcz15_0 : wc.cell? ⟨gb192,0,none⟩ = some (.int .i64 a2_0):=(kC BK192.out 0).trans rfl
      have hcz15_1 : wc.cell? ⟨gb192,1,none⟩ = some (.bool a2_1):=(kC BK192.out 1).trans rfl
      have hcz15_2 : wc.cell? ⟨gb192,2,none⟩ = some (.int .u32 a2_2):=(kC BK192.out 2).trans rfl
      have hcz15_3 : wc.cell? ⟨gb192,3,none⟩ = some (.int .i64 a2_3):=(kC BK192.out 3).trans rfl
      have hcz15_4 : wc.cell? ⟨gb192,4,none⟩ = some (.int .i64 a2_4):=(kC BK192.out 4).trans rfl
      have hcz15_5 : wc.cell? ⟨gb192,5,none⟩ = some (.int .i64 a2_5):=(kC BK192.out 5).trans rfl
      have hcz15_6 : wc.cell? ⟨gb192,6,none⟩ = some (.int .i64 a2_6):=(kC BK192.out 6).trans rfl
      have hcz15_7 : wc.cell? ⟨gb192,7,none⟩ = some (.int .i64 a2_7):=(kC BK192.out 7).trans rfl
      have hfz15_0:=blk_frozen BK192.out 0
      have hfz15_1:=blk_frozen BK192.out 1
      have hfz15_2:=blk_frozen BK192.out 2
      have hfz15_3:=blk_frozen BK192.out 3
      have hfz15_4:=blk_frozen BK192.out 4
      have hfz15_5:=blk_frozen BK192.out 5
      have hfz15_6:=blk_frozen BK192.out 6
      have hfz15_7:=blk_frozen BK192.out 7
      go_wp2
      go_ret
      exact ⟨by first|rfl|(simp [errW_none,errW_some] <;> rfl)|(simp [*,errW_none,errW_some] <;> rfl),by repeat (first|(with_reducible first|exact HB.out|apply bA|apply bN|apply bD|refine bS ?_ GE191.out|refine bS ?_ GE192.out)|exact HB.out)⟩
     ·rw [if_neg c13] at H
      have c13b0 : (a2_2 == 0) = false:=beq_eq_false_iff_ne.mpr c13
      have c13b1 : (a2_2 != 0) = true:=bne_iff_ne.mpr c13
      replace H:=Option.bind_eq_some_iff.mp H
      obtain ⟨t193,A160,H⟩:=H
      replace H : (if t193 = true then ((gazetteerref22_There.f kj3 l0_0 a2_2).bind fun t194 => (if t194 = true then (some 5) else (if (l0_0.length : Int) = 128 then (some 6) else (some 0)))) else (some 314)) = some r:=H
      have A16:=Ak A160
      clear A160
      by_cases c17 : t193 = true
      ·subst c17
       have H1 : ((gazetteerref22_There.f kj3 l0_0 a2_2).bind fun t194 => (if t194 = true then (some 5) else (if (l0_0.length : Int) = 128 then (some 6) else (some 0)))) = some r:=by rw [if_pos rfl] at H;exact H
       clear H
       have H:=H1
       clear H1
       replace H:=Option.bind_eq_some_iff.mp H
       obtain ⟨t194,A180,H⟩:=H
       replace H : (if t194 = true then (some 5) else (if (l0_0.length : Int) = 128 then (some 6) else (some 0))) = some r:=H
       have A18:=Ak A180
       clear A180
       by_cases c19 : t194 = true
       ·subst c19
        have H1 : (some 5) = some r:=by rw [if_pos rfl] at H;exact H
        clear H
        have H:=H1
        clear H1
        obtain rfl:=Option.some.inj H
        have hnb20:=NB192_191.out
        have hnc20:=NB191_192.out
        have hcz21_0 : wc.cell? ⟨gb192,0,none⟩ = some (.int .i64 a2_0):=(kC BK192.out 0).trans rfl
        have hcz21_1 : wc.cell? ⟨gb192,1,none⟩ = some (.bool a2_1):=(kC BK192.out 1).trans rfl
        have hcz21_2 : wc.cell? ⟨gb192,2,none⟩ = some (.int .u32 a2_2):=(kC BK192.out 2).trans rfl
        have hcz21_3 : wc.cell? ⟨gb192,3,none⟩ = some (.int .i64 a2_3):=(kC BK192.out 3).trans rfl
        have hcz21_4 : wc.cell? ⟨gb192,4,none⟩ = some (.int .i64 a2_4):=(kC BK192.out 4).trans rfl
        have hcz21_5 : wc.cell? ⟨gb192,5,none⟩ = some (.int .i64 a2_5):=(kC BK192.out 5).trans rfl
        have hcz21_6 : wc.cell? ⟨gb192,6,none⟩ = some (.int .i64 a2_6):=(kC BK192.out 6).trans rfl
        have hcz21_7 : wc.cell? ⟨gb192,7,none⟩ = some (.int .i64 a2_7):=(kC BK192.out 7).trans rfl
        have hfz21_0:=blk_frozen BK192.out 0
        have hfz21_1:=blk_frozen BK192.out 1
        have hfz21_2:=blk_frozen BK192.out 2
        have hfz21_3:=blk_frozen BK192.out 3
        have hfz21_4:=blk_frozen BK192.out 4
        have hfz21_5:=blk_frozen BK192.out 5
        have hfz21_6:=blk_frozen BK192.out 6
        have hfz21_7:=blk_frozen BK192.out 7
        go_wp2_with (first|((with_reducible refine gate_callee (f:=70) rfl ?_);refine goesL_ (some 23) rfl rfl Try.func70 (by kernel_rfl) rfl #[.int .i64 a1,.agg #[.int .i64 a2_3,.int .i64 a2_4,.int .i64 a2_5,.int .i64 a2_6]] rfl (by (try simp only [List.map_toArray,List.map_cons,List.map_nil]);first|done|rfl|(simp only [List.length_drop,List.length_take];rfl)) ?_;(with_reducible refine (gazetteerref09_Right.calls a1 a2_3 a2_4 a2_5 a2_6 true _ A16.out).mono ?_);rintro e w22 ⟨rfl,hb⟩;refine ⟨_,rfl,?_⟩;have n0_:=Ak (kB (g:=gb191) (o:=.cells #[.slice A0_0 l0_0.length c0_0] 24 (0,0)) (by (with_reducible repeat (first|refine kN ?_ _|refine kD ?_|refine kA ?_ _));exact BK191.out) hb);have n1_:=Ak (kB (g:=gb192) (o:=.cells #[.int .i64 a2_0,.bool a2_1,.int .u32 a2_2,.int .i64 a2_3,.int .i64 a2_4,.int .i64 a2_5,.int .i64 a2_6,.int .i64 a2_7] 38 (0,0)) (by (with_reducible repeat (first|refine kN ?_ _|refine kD ?_|refine kA ?_ _));exact BK192.out) hb);have n2_:=Ak (below_step (by repeat (first|(with_reducible first|exact HB.out|apply bA|apply bN|apply bD|refine bS ?_ GE191.out|refine bS ?_ GE192.out)|exact HB.out)) hb);clear BK191;clear BK192;clear HB;have BK191:=n0_;have BK192:=n1_;have HB:=n2_;clear n0_ n1_ n2_;(try clear hb);(try clear hb2);(try clear hk);(try clear hi);have hcz23_0 : w22.cell? ⟨gb191,0,none⟩ = some (.slice A0_0 l0_0.length c0_0):=(kC BK191.out 0).trans rfl;have hfz23_0:=blk_frozen BK191.out 0;have hcz24_0 : w22.cell? ⟨gb192,0,none⟩ = some (.int .i64 a2_0):=(kC BK192.out 0).trans rfl;have hcz24_1 : w22.cell? ⟨gb192,1,none⟩ = some (.bool a2_1):=(kC BK192.out 1).trans rfl;have hcz24_2 : w22.cell? ⟨gb192,2,none⟩ = some (.int .u32 a2_2):=(kC BK192.out 2).trans rfl;have hcz24_3 : w22.cell? ⟨gb192,3,none⟩ = some (.int .i64 a2_3):=(kC BK192.out 3).trans rfl;have hcz24_4 : w22.cell? ⟨gb192,4,none⟩ = some (.int .i64 a2_4):=(kC BK192.out 4).trans rfl;have hcz24_5 : w22.cell? ⟨gb192,5,none⟩ = some (.int .i64 a2_5):=(kC BK192.out 5).trans rfl;have hcz24_6 : w22.cell? ⟨gb192,6,none⟩ = some (.int .i64 a2_6):=(kC BK192.out 6).trans rfl;have hcz24_7 : w22.cell? ⟨gb192,7,none⟩ = some (.int .i64 a2_7):=(kC BK192.out 7).trans rfl;have hfz24_0:=blk_frozen BK192.out 0;have hfz24_1:=blk_frozen BK192.out 1;have hfz24_2:=blk_frozen BK192.out 2;have hfz24_3:=blk_frozen BK192.out 3;have hfz24_4:=blk_frozen BK192.out 4;have hfz24_5:=blk_frozen BK192.out 5;have hfz24_6:=blk_frozen BK192.out 6;have hfz24_7:=blk_frozen BK192.out 7)|((with_reducible refine gate_callee (f:=71) rfl ?_);refine goesL_ (some 29) rfl rfl Try.func71 (by kernel_rfl) rfl #[.agg #[.slice A0_0 l0_0.length c0_0],.int .u32 a2_2] rfl (by (try simp only [List.map_toArray,List.map_cons,List.map_nil]);first|done|rfl|(simp only [List.length_drop,List.length_take];rfl)) ?_;(with_reducible refine (gazetteerref22_There.calls kj3 _ _ l0_0 a2_2 true _ ?side1 ?side2 A18.out).mono ?_);(case side1 => repeat (first|exact (Kd.C_below HR0_0.out HB.out)|(with_reducible refine Kd.C_alloc ?_ _)|(with_reducible refine Kd.C_drewN ?_ _)|(with_reducible refine Kd.C_drew ?_)));(case side2 => exact HC0_0.out);rintro e w25 ⟨rfl,hb⟩;refine ⟨_,rfl,?_⟩;have n0_:=Ak (kB (g:=gb191) (o:=.cells #[.slice A0_0 l0_0.length c0_0] 24 (0,0)) (by (with_reducible repeat (first|refine kN ?_ _|refine kD ?_|refine kA ?_ _));exact BK191.out) hb);have n1_:=Ak (kB (g:=gb192) (o:=.cells #[.int .i64 a2_0,.bool a2_1,.int .u32 a2_2,.int .i64 a2_3,.int .i64 a2_4,.int .i64 a2_5,.int .i64 a2_6,.int .i64 a2_7] 38 (0,0)) (by (with_reducible repeat (first|refine kN ?_ _|refine kD ?_|refine kA ?_ _));exact BK192.out) hb);have n2_:=Ak (below_step (by repeat (first|(with_reducible first|exact HB.out|apply bA|apply bN|apply bD|refine bS ?_ GE191.out|refine bS ?_ GE192.out)|exact HB.out)) hb);clear BK191;clear BK192;clear HB;have BK191:=n0_;have BK192:=n1_;have HB:=n2_;clear n0_ n1_ n2_;(try clear hb);(try clear hb2);(try clear hk);(try clear hi)))
        go_ret
        exact ⟨by first|rfl|(simp [errW_none,errW_some] <;> rfl)|(simp [*,errW_none,errW_some] <;> rfl),by repeat (first|(with_reducible first|exact HB.out|apply bA|apply bN|apply bD|refine bS ?_ GE191.out|refine bS ?_ GE192.out)|exact HB.out)⟩
       ·replace c19:=Bool.eq_false_iff.mpr c19
        subst c19
        have H1 : (if (l0_0.length : Int) = 128 then (some 6) else (some 0)) = some r:=by rw [if_neg (show ¬ (false = true) by decide)] at H;exact H
        clear H
        have H:=H1
        clear H1
        by_cases c26 : (l0_0.length : Int) = 128
        ·rw [if_pos c26] at H
         have c26b0 : ((l0_0.length : Int) == 128) = true:=beq_iff_eq.mpr c26
         have c26b1 : ((l0_0.length : Int) != 128) = false:=bne_eq_false_iff_eq.mpr c26
         clear c26
         obtain rfl:=Option.some.inj H
         have hnb27:=NB192_191.out
         have hnc27:=NB191_192.out
         have hcz28_0 : wc.cell? ⟨gb192,0,none⟩ = some (.int .i64 a2_0):=(kC BK192.out 0).trans rfl
         have hcz28_1 : wc.cell? ⟨gb192,1,none⟩ = some (.bool a2_1):=(kC BK192.out 1).trans rfl
         have hcz28_2 : wc.cell? ⟨gb192,2,none⟩ = some (.int .u32 a2_2):=(kC BK192.out 2).trans rfl
         have hcz28_3 : wc.cell? ⟨gb192,3,none⟩ = some (.int .i64 a2_3):=(kC BK192.out 3).trans rfl
         have hcz28_4 : wc.cell? ⟨gb192,4,none⟩ = some (.int .i64 a2_4):=(kC BK192.out 4).trans rfl
         have hcz28_5 : wc.cell? ⟨gb192,5,none⟩ = some (.int .i64 a2_5):=(kC BK192.out 5).trans rfl
         have hcz28_6 : wc.cell? ⟨gb192,6,none⟩ = some (.int .i64 a2_6):=(kC BK192.out 6).trans rfl
         have hcz28_7 : wc.cell? ⟨gb192,7,none⟩ = some (.int .i64 a2_7):=(kC BK192.out 7).trans rfl
         have hfz28_0:=blk_frozen BK192.out 0
         have hfz28_1:=blk_frozen BK192.out 1
         have hfz28_2:=blk_frozen BK192.out 2
         have hfz28_3:=blk_frozen BK192.out 3
         have hfz28_4:=blk_frozen BK192.out 4
         have hfz28_5:=blk_frozen BK192.out 5
         have hfz28_6:=blk_frozen BK192.out 6
         have hfz28_7:=blk_frozen BK192.out 7
         go_wp2_with (first|((with_reducible refine gate_callee (f:=70) rfl ?_);refine goesL_ (some 23) rfl rfl Try.func70 (by kernel_rfl) rfl #[.int .i64 a1,.agg #[.int .i64 a2_3,.int .i64 a2_4,.int .i64 a2_5,.int .i64 a2_6]] rfl (by (try simp only [List.map_toArray,List.map_cons,List.map_nil]);first|done|rfl|(simp only [List.length_drop,List.length_take];rfl)) ?_;(with_reducible refine (gazetteerref09_Right.calls a1 a2_3 a2_4 a2_5 a2_6 true _ A16.out).mono ?_);rintro e w29 ⟨rfl,hb⟩;refine ⟨_,rfl,?_⟩;have n0_:=Ak (kB (g:=gb191) (o:=.cells #[.slice A0_0 l0_0.length c0_0] 24 (0,0)) (by (with_reducible repeat (first|refine kN ?_ _|refine kD ?_|refine kA ?_ _));exact BK191.out) hb);have n1_:=Ak (kB (g:=gb192) (o:=.cells #[.int .i64 a2_0,.bool a2_1,.int .u32 a2_2,.int .i64 a2_3,.int .i64 a2_4,.int .i64 a2_5,.int .i64 a2_6,.int .i64 a2_7] 38 (0,0)) (by (with_reducible repeat (first|refine kN ?_ _|refine kD ?_|refine kA ?_ _));exact BK192.out) hb);have n2_:=Ak (below_step (by repeat (first|(with_reducible first|exact HB.out|apply bA|apply bN|apply bD|refine bS ?_ GE191.out|refine bS ?_ GE192.out)|exact HB.out)) hb);clear BK191;clear BK192;clear HB;have BK191:=n0_;have BK192:=n1_;have HB:=n2_;clear n0_ n1_ n2_;(try clear hb);(try clear hb2);(try clear hk);(try clear hi);have hcz30_0 : w29.cell? ⟨gb191,0,none⟩ = some (.slice A0_0 l0_0.length c0_0):=(kC BK191.out 0).trans rfl;have hfz30_0:=blk_frozen BK191.out 0;have hcz31_0 : w29.cell? ⟨gb192,0,none⟩ = some (.int .i64 a2_0):=(kC BK192.out 0).trans rfl;have hcz31_1 : w29.cell? ⟨gb192,1,none⟩ = some (.bool a2_1):=(kC BK192.out 1).trans rfl;have hcz31_2 : w29.cell? ⟨gb192,2,none⟩ = some (.int .u32 a2_2):=(kC BK192.out 2).trans rfl;have hcz31_3 : w29.cell? ⟨gb192,3,none⟩ = some (.int .i64 a2_3):=(kC BK192.out 3).trans rfl;have hcz31_4 : w29.cell? ⟨gb192,4,none⟩ = some (.int .i64 a2_4):=(kC BK192.out 4).trans rfl;have hcz31_5 : w29.cell? ⟨gb192,5,none⟩ = some (.int .i64 a2_5):=(kC BK192.out 5).trans rfl;have hcz31_6 : w29.cell? ⟨gb192,6,none⟩ = some (.int .i64 a2_6):=(kC BK192.out 6).trans rfl;have hcz31_7 : w29.cell? ⟨gb192,7,none⟩ = some (.int .i64 a2_7):=(kC BK192.out 7).trans rfl;have hfz31_0:=blk_frozen BK192.out 0;have hfz31_1:=blk_frozen BK192.out 1;have hfz31_2:=blk_frozen BK192.out 2;have hfz31_3:=blk_frozen BK192.out 3;have hfz31_4:=blk_frozen BK192.out 4;have hfz31_5:=blk_frozen BK192.out 5;have hfz31_6:=blk_frozen BK192.out 6;have hfz31_7:=blk_frozen BK192.out 7)|((with_reducible refine gate_callee (f:=71) rfl ?_);refine goesL_ (some 29) rfl rfl Try.func71 (by kernel_rfl) rfl #[.agg #[.slice A0_0 l0_0.length c0_0],.int .u32 a2_2] rfl (by (try simp only [List.map_toArray,List.map_cons,List.map_nil]);first|done|rfl|(simp only [List.length_drop,List.length_take];rfl)) ?_;(with_reducible refine (gazetteerref22_There.calls kj3 _ _ l0_0 a2_2 false _ ?side1 ?side2 A18.out).mono ?_);(case side1 => repeat (first|exact (Kd.C_below HR0_0.out HB.out)|(with_reducible refine Kd.C_alloc ?_ _)|(with_reducible refine Kd.C_drewN ?_ _)|(with_reducible refine Kd.C_drew ?_)));(case side2 => exact HC0_0.out);rintro e w32 ⟨rfl,hb⟩;refine ⟨_,rfl,?_⟩;have n0_:=Ak (kB (g:=gb191) (o:=.cells #[.slice A0_0 l0_0.length c0_0] 24 (0,0)) (by (with_reducible repeat (first|refine kN ?_ _|refine kD ?_|refine kA ?_ _));exact BK191.out) hb);have n1_:=Ak (kB (g:=gb192) (o:=.cells #[.int .i64 a2_0,.bool a2_1,.int .u32 a2_2,.int .i64 a2_3,.int .i64 a2_4,.int .i64 a2_5,.int .i64 a2_6,.int .i64 a2_7] 38 (0,0)) (by (with_reducible repeat (first|refine kN ?_ _|refine kD ?_|refine kA ?_ _));exact BK192.out) hb);have n2_:=Ak (below_step (by repeat (first|(with_reducible first|exact HB.out|apply bA|apply bN|apply bD|refine bS ?_ GE191.out|refine bS ?_ GE192.out)|exact HB.out)) hb);clear BK191;clear BK192;clear HB;have BK191:=n0_;have BK192:=n1_;have HB:=n2_;clear n0_ n1_ n2_;(try clear hb);(try clear hb2);(try clear hk);(try clear hi);have hcz33_0 : w32.cell? ⟨gb191,0,none⟩ = some (.slice A0_0 l0_0.length c0_0):=(kC BK191.out 0).trans rfl;have hfz33_0:=blk_frozen BK191.out 0))
         go_ret
         exact ⟨by first|rfl|(simp [errW_none,errW_some] <;> rfl)|(simp [*,errW_none,errW_some] <;> rfl),by repeat (first|(with_reducible first|exact HB.out|apply bA|apply bN|apply bD|refine bS ?_ GE191.out|refine bS ?_ GE192.out)|exact HB.out)⟩
        ·rw [if_neg c26] at H
         have c26b0 : ((l0_0.length : Int) == 128) = false:=beq_eq_false_iff_ne.mpr c26
         have c26b1 : ((l0_0.length : Int) != 128) = true:=bne_iff_ne.mpr c26
         obtain rfl:=Option.some.inj H
         have hnb34:=NB192_191.out
         have hnc34:=NB191_192.out
         have hcz35_0 : wc.cell? ⟨gb192,0,none⟩ = some (.int .i64 a2_0):=(kC BK192.out 0).trans rfl
         have hcz35_1 : wc.cell? ⟨gb192,1,none⟩ = some (.bool a2_1):=(kC BK192.out 1).trans rfl
         have hcz35_2 : wc.cell? ⟨gb192,2,none⟩ = some (.int .u32 a2_2):=(kC BK192.out 2).trans rfl
         have hcz35_3 : wc.cell? ⟨gb192,3,none⟩ = some (.int .i64 a2_3):=(kC BK192.out 3).trans rfl
         have hcz35_4 : wc.cell? ⟨gb192,4,none⟩ = some (.int .i64 a2_4):=(kC BK192.out 4).trans rfl
         have hcz35_5 : wc.cell? ⟨gb192,5,none⟩ = some (.int .i64 a2_5):=(kC BK192.out 5).trans rfl
         have hcz35_6 : wc.cell? ⟨gb192,6,none⟩ = some (.int .i64 a2_6):=(kC BK192.out 6).trans rfl
         have hcz35_7 : wc.cell? ⟨gb192,7,none⟩ = some (.int .i64 a2_7):=(kC BK192.out 7).trans rfl
         have hfz35_0:=blk_frozen BK192.out 0
         have hfz35_1:=blk_frozen BK192.out 1
         have hfz35_2:=blk_frozen BK192.out 2
         have hfz35_3:=blk_frozen BK192.out 3
         have hfz35_4:=blk_frozen BK192.out 4
         have hfz35_5:=blk_frozen BK192.out 5
         have hfz35_6:=blk_frozen BK192.out 6
         have hfz35_7:=blk_frozen BK192.out 7
         go_wp2_with (first|((with_reducible refine gate_callee (f:=70) rfl ?_);refine goesL_ (some 23) rfl rfl Try.func70 (by kernel_rfl) rfl #[.int .i64 a1,.agg #[.int .i64 a2_3,.int .i64 a2_4,.int .i64 a2_5,.int .i64 a2_6]] rfl (by (try simp only [List.map_toArray,List.map_cons,List.map_nil]);first|done|rfl|(simp only [List.length_drop,List.length_take];rfl)) ?_;(with_reducible refine (gazetteerref09_Right.calls a1 a2_3 a2_4 a2_5 a2_6 true _ A16.out).mono ?_);rintro e w36 ⟨rfl,hb⟩;refine ⟨_,rfl,?_⟩;have n0_:=Ak (kB (g:=gb191) (o:=.cells #[.slice A0_0 l0_0.length c0_0] 24 (0,0)) (by (with_reducible repeat (first|refine kN ?_ _|refine kD ?_|refine kA ?_ _));exact BK191.out) hb);have n1_:=Ak (kB (g:=gb192) (o:=.cells #[.int .i64 a2_0,.bool a2_1,.int .u32 a2_2,.int .i64 a2_3,.int .i64 a2_4,.int .i64 a2_5,.int .i64 a2_6,.int .i64 a2_7] 38 (0,0)) (by (with_reducible repeat (first|refine kN ?_ _|refine kD ?_|refine kA ?_ _));exact BK192.out) hb);have n2_:=Ak (below_step (by repeat (first|(with_reducible first|exact HB.out|apply bA|apply bN|apply bD|refine bS ?_ GE191.out|refine bS ?_ GE192.out)|exact HB.out)) hb);clear BK191;clear BK192;clear HB;have BK191:=n0_;have BK192:=n1_;have HB:=n2_;clear n0_ n1_ n2_;(try clear hb);(try clear hb2);(try clear hk);(try clear hi);have hcz37_0 : w36.cell? ⟨gb191,0,none⟩ = some (.slice A0_0 l0_0.length c0_0):=(kC BK191.out 0).trans rfl;have hfz37_0:=blk_frozen BK191.out 0;have hcz38_0 : w36.cell? ⟨gb192,0,none⟩ = some (.int .i64 a2_0):=(kC BK192.out 0).trans rfl;have hcz38_1 : w36.cell? ⟨gb192,1,none⟩ = some (.bool a2_1):=(kC BK192.out 1).trans rfl;have hcz38_2 : w36.cell? ⟨gb192,2,none⟩ = some (.int .u32 a2_2):=(kC BK192.out 2).trans rfl;have hcz38_3 : w36.cell? ⟨gb192,3,none⟩ = some (.int .i64 a2_3):=(kC BK192.out 3).trans rfl;have hcz38_4 : w36.cell? ⟨gb192,4,none⟩ = some (.int .i64 a2_4):=(kC BK192.out 4).trans rfl;have hcz38_5 : w36.cell? ⟨gb192,5,none⟩ = some (.int .i64 a2_5):=(kC BK192.out 5).trans rfl;have hcz38_6 : w36.cell? ⟨gb192,6,none⟩ = some (.int .i64 a2_6):=(kC BK192.out 6).trans rfl;have hcz38_7 : w36.cell? ⟨gb192,7,none⟩ = some (.int .i64 a2_7):=(kC BK192.out 7).trans rfl;have hfz38_0:=blk_frozen BK192.out 0;have hfz38_1:=blk_frozen BK192.out 1;have hfz38_2:=blk_frozen BK192.out 2;have hfz38_3:=blk_frozen BK192.out 3;have hfz38_4:=blk_frozen BK192.out 4;have hfz38_5:=blk_frozen BK192.out 5;have hfz38_6:=blk_frozen BK192.out 6;have hfz38_7:=blk_frozen BK192.out 7)|((with_reducible refine gate_callee (f:=71) rfl ?_);refine goesL_ (some 29) rfl rfl Try.func71 (by kernel_rfl) rfl #[.agg #[.slice A0_0 l0_0.length c0_0],.int .u32 a2_2] rfl (by (try simp only [List.map_toArray,List.map_cons,List.map_nil]);first|done|rfl|(simp only [List.length_drop,List.length_take];rfl)) ?_;(with_reducible refine (gazetteerref22_There.calls kj3 _ _ l0_0 a2_2 false _ ?side1 ?side2 A18.out).mono ?_);(case side1 => repeat (first|exact (Kd.C_below HR0_0.out HB.out)|(with_reducible refine Kd.C_alloc ?_ _)|(with_reducible refine Kd.C_drewN ?_ _)|(with_reducible refine Kd.C_drew ?_)));(case side2 => exact HC0_0.out);rintro e w39 ⟨rfl,hb⟩;refine ⟨_,rfl,?_⟩;have n0_:=Ak (kB (g:=gb191) (o:=.cells #[.slice A0_0 l0_0.length c0_0] 24 (0,0)) (by (with_reducible repeat (first|refine kN ?_ _|refine kD ?_|refine kA ?_ _));exact BK191.out) hb);have n1_:=Ak (kB (g:=gb192) (o:=.cells #[.int .i64 a2_0,.bool a2_1,.int .u32 a2_2,.int .i64 a2_3,.int .i64 a2_4,.int .i64 a2_5,.int .i64 a2_6,.int .i64 a2_7] 38 (0,0)) (by (with_reducible repeat (first|refine kN ?_ _|refine kD ?_|refine kA ?_ _));exact BK192.out) hb);have n2_:=Ak (below_step (by repeat (first|(with_reducible first|exact HB.out|apply bA|apply bN|apply bD|refine bS ?_ GE191.out|refine bS ?_ GE192.out)|exact HB.out)) hb);clear BK191;clear BK192;clear HB;have BK191:=n0_;have BK192:=n1_;have HB:=n2_;clear n0_ n1_ n2_;(try clear hb);(try clear hb2);(try clear hk);(try clear hi);have hcz40_0 : w39.cell? ⟨gb191,0,none⟩ = some (.slice A0_0 l0_0.length c0_0):=(kC BK191.out 0).trans rfl;have hfz40_0:=blk_frozen BK191.out 0))
         go_ret
         exact ⟨by first|rfl|(simp [errW_none,errW_some] <;> rfl)|(simp [*,errW_none,errW_some] <;> rfl),by repeat (first|(with_reducible first|exact HB.out|apply bA|apply bN|apply bD|refine bS ?_ GE191.out|refine bS ?_ GE192.out)|exact HB.out)⟩
      ·replace c17:=Bool.eq_false_iff.mpr c17
       subst c17
       have H1 : (some 314) = some r:=by rw [if_neg (show ¬ (false = true) by decide)] at H;exact H
       clear H
       have H:=H1
       clear H1
       obtain rfl:=Option.some.inj H
       have hnb41:=NB192_191.out
       have hnc41:=NB191_192.out
       have hcz42_0 : wc.cell? ⟨gb192,0,none⟩ = some (.int .i64 a2_0):=(kC BK192.out 0).trans rfl
       have hcz42_1 : wc.cell? ⟨gb192,1,none⟩ = some (.bool a2_1):=(kC BK192.out 1).trans rfl
       have hcz42_2 : wc.cell? ⟨gb192,2,none⟩ = some (.int .u32 a2_2):=(kC BK192.out 2).trans rfl
       have hcz42_3 : wc.cell? ⟨gb192,3,none⟩ = some (.int .i64 a2_3):=(kC BK192.out 3).trans rfl
       have hcz42_4 : wc.cell? ⟨gb192,4,none⟩ = some (.int .i64 a2_4):=(kC BK192.out 4).trans rfl
       have hcz42_5 : wc.cell? ⟨gb192,5,none⟩ = some (.int .i64 a2_5):=(kC BK192.out 5).trans rfl
       have hcz42_6 : wc.cell? ⟨gb192,6,none⟩ = some (.int .i64 a2_6):=(kC BK192.out 6).trans rfl
       have hcz42_7 : wc.cell? ⟨gb192,7,none⟩ = some (.int .i64 a2_7):=(kC BK192.out 7).trans rfl
       have hfz42_0:=blk_frozen BK192.out 0
       have hfz42_1:=blk_frozen BK192.out 1
       have hfz42_2:=blk_frozen BK192.out 2
       have hfz42_3:=blk_frozen BK192.out 3
       have hfz42_4:=blk_frozen BK192.out 4
       have hfz42_5:=blk_frozen BK192.out 5
       have hfz42_6:=blk_frozen BK192.out 6
       have hfz42_7:=blk_frozen BK192.out 7
       go_wp2_with (first|((with_reducible refine gate_callee (f:=70) rfl ?_);refine goesL_ (some 23) rfl rfl Try.func70 (by kernel_rfl) rfl #[.int .i64 a1,.agg #[.int .i64 a2_3,.int .i64 a2_4,.int .i64 a2_5,.int .i64 a2_6]] rfl (by (try simp only [List.map_toArray,List.map_cons,List.map_nil]);first|done|rfl|(simp only [List.length_drop,List.length_take];rfl)) ?_;(with_reducible refine (gazetteerref09_Right.calls a1 a2_3 a2_4 a2_5 a2_6 false _ A16.out).mono ?_);rintro e w43 ⟨rfl,hb⟩;refine ⟨_,rfl,?_⟩;have n0_:=Ak (kB (g:=gb191) (o:=.cells #[.slice A0_0 l0_0.length c0_0] 24 (0,0)) (by (with_reducible repeat (first|refine kN ?_ _|refine kD ?_|refine kA ?_ _));exact BK191.out) hb);have n1_:=Ak (kB (g:=gb192) (o:=.cells #[.int .i64 a2_0,.bool a2_1,.int .u32 a2_2,.int .i64 a2_3,.int .i64 a2_4,.int .i64 a2_5,.int .i64 a2_6,.int .i64 a2_7] 38 (0,0)) (by (with_reducible repeat (first|refine kN ?_ _|refine kD ?_|refine kA ?_ _));exact BK192.out) hb);have n2_:=Ak (below_step (by repeat (first|(with_reducible first|exact HB.out|apply bA|apply bN|apply bD|refine bS ?_ GE191.out|refine bS ?_ GE192.out)|exact HB.out)) hb);clear BK191;clear BK192;clear HB;have BK191:=n0_;have BK192:=n1_;have HB:=n2_;clear n0_ n1_ n2_;(try clear hb);(try clear hb2);(try clear hk);(try clear hi)))
       go_ret
       exact ⟨by first|rfl|(simp [errW_none,errW_some] <;> rfl)|(simp [*,errW_none,errW_some] <;> rfl),by repeat (first|(with_reducible first|exact HB.out|apply bA|apply bN|apply bD|refine bS ?_ GE191.out|refine bS ?_ GE192.out)|exact HB.out)⟩
    ·rw [if_neg c12] at H
     have c12b0 : (a2_0 == 2) = false:=beq_eq_false_iff_ne.mpr c12
     have c12b1 : (a2_0 != 2) = true:=bne_iff_ne.mpr c12
     by_cases c44 : a2_0 = 3
     ·rw [if_pos c44] at H
      have c44b0 : (a2_0 == 3) = true:=beq_iff_eq.mpr c44
      have c44b1 : (a2_0 != 3) = false:=bne_eq_false_iff_eq.mpr c44
      clear c44
      by_cases c45 : a2_2 = 0
      ·rw [if_pos c45] at H
       have c45b0 : (a2_2 == 0) = true:=beq_iff_eq.mpr c45
       have c45b1 : (a2_2 != 0) = false:=bne_eq_false_iff_eq.mpr c45
       clear c45
       obtain rfl:=Option.some.inj H
       have hnb46:=NB192_191.out
       have hnc46:=NB191_192.out
       have hcz47_0 : wc.cell? ⟨gb192,0,none⟩ = some (.int .i64 a2_0):=(kC BK192.out 0).trans rfl
       have hcz47_1 : wc.cell? ⟨gb192,1,none⟩ = some (.bool a2_1):=(kC BK192.out 1).trans rfl
       have hcz47_2 : wc.cell? ⟨gb192,2,none⟩ = some (.int .u32 a2_2):=(kC BK192.out 2).trans rfl
       have hcz47_3 : wc.cell? ⟨gb192,3,none⟩ = some (.int .i64 a2_3):=(kC BK192.out 3).trans rfl
       have hcz47_4 : wc.cell? ⟨gb192,4,none⟩ = some (.int .i64 a2_4):=(kC BK192.out 4).trans rfl
       have hcz47_5 : wc.cell? ⟨gb192,5,none⟩ = some (.int .i64 a2_5):=(kC BK192.out 5).trans rfl
       have hcz47_6 : wc.cell? ⟨gb192,6,none⟩ = some (.int .i64 a2_6):=(kC BK192.out 6).trans rfl
       have hcz47_7 : wc.cell? ⟨gb192,7,none⟩ = some (.int .i64 a2_7):=(kC BK192.out 7).trans rfl
       have hfz47_0:=blk_frozen BK192.out 0
       have hfz47_1:=blk_frozen BK192.out 1
       have hfz47_2:=blk_frozen BK192.out 2
       have hfz47_3:=blk_frozen BK192.out 3
       have hfz47_4:=blk_frozen BK192.out 4
       have hfz47_5:=blk_frozen BK192.out 5
       have hfz47_6:=blk_frozen BK192.out 6
       have hfz47_7:=blk_frozen BK192.out 7
       go_wp2
       go_ret
       exact ⟨by first|rfl|(simp [errW_none,errW_some] <;> rfl)|(simp [*,errW_none,errW_some] <;> rfl),by repeat (first|(with_reducible first|exact HB.out|apply bA|apply bN|apply bD|refine bS ?_ GE191.out|refine bS ?_ GE192.out)|exact HB.out)⟩
      ·rw [if_neg c45] at H
       have c45b0 : (a2_2 == 0) = false:=beq_eq_false_iff_ne.mpr c45
       have c45b1 : (a2_2 != 0) = true:=bne_iff_ne.mpr c45
       replace H:=Option.bind_eq_some_iff.mp H
       obtain ⟨t195,A480,H⟩:=H
       replace H : (if t195 = true then (some 0) else (some 4)) = some r:=H
       have A48:=Ak A480
       clear A480
       by_cases c49 : t195 = true
       ·subst c49
        have H1 : (some 0) = some r:=by rw [if_pos rfl] at H;exact H
        clear H
        have H:=H1
        clear H1
        obtain rfl:=Option.some.inj H
        have hnb50:=NB192_191.out
        have hnc50:=NB191_192.out
        have hcz51_0 : wc.cell? ⟨gb192,0,none⟩ = some (.int .i64 a2_0):=(kC BK192.out 0).trans rfl
        have hcz51_1 : wc.cell? ⟨gb192,1,none⟩ = some (.bool a2_1):=(kC BK192.out 1).trans rfl
        have hcz51_2 : wc.cell? ⟨gb192,2,none⟩ = some (.int .u32 a2_2):=(kC BK192.out 2).trans rfl
        have hcz51_3 : wc.cell? ⟨gb192,3,none⟩ = some (.int .i64 a2_3):=(kC BK192.out 3).trans rfl
        have hcz51_4 : wc.cell? ⟨gb192,4,none⟩ = some (.int .i64 a2_4):=(kC BK192.out 4).trans rfl
        have hcz51_5 : wc.cell? ⟨gb192,5,none⟩ = some (.int .i64 a2_5):=(kC BK192.out 5).trans rfl
        have hcz51_6 : wc.cell? ⟨gb192,6,none⟩ = some (.int .i64 a2_6):=(kC BK192.out 6).trans rfl
        have hcz51_7 : wc.cell? ⟨gb192,7,none⟩ = some (.int .i64 a2_7):=(kC BK192.out 7).trans rfl
        have hfz51_0:=blk_frozen BK192.out 0
        have hfz51_1:=blk_frozen BK192.out 1
        have hfz51_2:=blk_frozen BK192.out 2
        have hfz51_3:=blk_frozen BK192.out 3
        have hfz51_4:=blk_frozen BK192.out 4
        have hfz51_5:=blk_frozen BK192.out 5
        have hfz51_6:=blk_frozen BK192.out 6
        have hfz51_7:=blk_frozen BK192.out 7
        have hcz52_0 : wc.cell? ⟨gb191,0,none⟩ = some (.slice A0_0 l0_0.length c0_0):=(kC BK191.out 0).trans rfl
        have hfz52_0:=blk_frozen BK191.out 0
        go_wp2_with (first|((with_reducible refine gate_callee (f:=71) rfl ?_);refine goesL_ (some 45) rfl rfl Try.func71 (by kernel_rfl) rfl #[.agg #[.slice A0_0 l0_0.length c0_0],.int .u32 a2_2] rfl (by (try simp only [List.map_toArray,List.map_cons,List.map_nil]);first|done|rfl|(simp only [List.length_drop,List.length_take];rfl)) ?_;(with_reducible refine (gazetteerref22_There.calls kj3 _ _ l0_0 a2_2 true _ ?side1 ?side2 A48.out).mono ?_);(case side1 => repeat (first|exact (Kd.C_below HR0_0.out HB.out)|(with_reducible refine Kd.C_alloc ?_ _)|(with_reducible refine Kd.C_drewN ?_ _)|(with_reducible refine Kd.C_drew ?_)));(case side2 => exact HC0_0.out);rintro e w53 ⟨rfl,hb⟩;refine ⟨_,rfl,?_⟩;have n0_:=Ak (kB (g:=gb191) (o:=.cells #[.slice A0_0 l0_0.length c0_0] 24 (0,0)) (by (with_reducible repeat (first|refine kN ?_ _|refine kD ?_|refine kA ?_ _));exact BK191.out) hb);have n1_:=Ak (kB (g:=gb192) (o:=.cells #[.int .i64 a2_0,.bool a2_1,.int .u32 a2_2,.int .i64 a2_3,.int .i64 a2_4,.int .i64 a2_5,.int .i64 a2_6,.int .i64 a2_7] 38 (0,0)) (by (with_reducible repeat (first|refine kN ?_ _|refine kD ?_|refine kA ?_ _));exact BK192.out) hb);have n2_:=Ak (below_step (by repeat (first|(with_reducible first|exact HB.out|apply bA|apply bN|apply bD|refine bS ?_ GE191.out|refine bS ?_ GE192.out)|exact HB.out)) hb);clear BK191;clear BK192;clear HB;have BK191:=n0_;have BK192:=n1_;have HB:=n2_;clear n0_ n1_ n2_;(try clear hb);(try clear hb2);(try clear hk);(try clear hi)))
        go_ret
        exact ⟨by first|rfl|(simp [errW_none,errW_some] <;> rfl)|(simp [*,errW_none,errW_some] <;> rfl),by repeat (first|(with_reducible first|exact HB.out|apply bA|apply bN|apply bD|refine bS ?_ GE191.out|refine bS ?_ GE192.out)|exact HB.out)⟩
       ·replace c49:=Bool.eq_false_iff.mpr c49
        subst c49
        have H1 : (some 4) = some r:=by rw [if_neg (show ¬ (false = true) by decide)] at H;exact H
        clear H
        have H:=H1
        clear H1
        obtain rfl:=Option.some.inj H
        have hnb54:=NB192_191.out
        have hnc54:=NB191_192.out
        have hcz55_0 : wc.cell? ⟨gb192,0,none⟩ = some (.int .i64 a2_0):=(kC BK192.out 0).trans rfl
        have hcz55_1 : wc.cell? ⟨gb192,1,none⟩ = some (.bool a2_1):=(kC BK192.out 1).trans rfl
        have hcz55_2 : wc.cell? ⟨gb192,2,none⟩ = some (.int .u32 a2_2):=(kC BK192.out 2).trans rfl
        have hcz55_3 : wc.cell? ⟨gb192,3,none⟩ = some (.int .i64 a2_3):=(kC BK192.out 3).trans rfl
        have hcz55_4 : wc.cell? ⟨gb192,4,none⟩ = some (.int .i64 a2_4):=(kC BK192.out 4).trans rfl
        have hcz55_5 : wc.cell? ⟨gb192,5,none⟩ = some (.int .i64 a2_5):=(kC BK192.out 5).trans rfl
        have hcz55_6 : wc.cell? ⟨gb192,6,none⟩ = some (.int .i64 a2_6):=(kC BK192.out 6).trans rfl
        have hcz55_7 : wc.cell? ⟨gb192,7,none⟩ = some (.int .i64 a2_7):=(kC BK192.out 7).trans rfl
        have hfz55_0:=blk_frozen BK192.out 0
        have hfz55_1:=blk_frozen BK192.out 1
        have hfz55_2:=blk_frozen BK192.out 2
        have hfz55_3:=blk_frozen BK192.out 3
        have hfz55_4:=blk_frozen BK192.out 4
        have hfz55_5:=blk_frozen BK192.out 5
        have hfz55_6:=blk_frozen BK192.out 6
        have hfz55_7:=blk_frozen BK192.out 7
        have hcz56_0 : wc.cell? ⟨gb191,0,none⟩ = some (.slice A0_0 l0_0.length c0_0):=(kC BK191.out 0).trans rfl
        have hfz56_0:=blk_frozen BK191.out 0
        go_wp2_with (first|((with_reducible refine gate_callee (f:=71) rfl ?_);refine goesL_ (some 45) rfl rfl Try.func71 (by kernel_rfl) rfl #[.agg #[.slice A0_0 l0_0.length c0_0],.int .u32 a2_2] rfl (by (try simp only [List.map_toArray,List.map_cons,List.map_nil]);first|done|rfl|(simp only [List.length_drop,List.length_take];rfl)) ?_;(with_reducible refine (gazetteerref22_There.calls kj3 _ _ l0_0 a2_2 false _ ?side1 ?side2 A48.out).mono ?_);(case side1 => repeat (first|exact (Kd.C_below HR0_0.out HB.out)|(with_reducible refine Kd.C_alloc ?_ _)|(with_reducible refine Kd.C_drewN ?_ _)|(with_reducible refine Kd.C_drew ?_)));(case side2 => exact HC0_0.out);rintro e w57 ⟨rfl,hb⟩;refine ⟨_,rfl,?_⟩;have n0_:=Ak (kB (g:=gb191) (o:=.cells #[.slice A0_0 l0_0.length c0_0] 24 (0,0)) (by (with_reducible repeat (first|refine kN ?_ _|refine kD ?_|refine kA ?_ _));exact BK191.out) hb);have n1_:=Ak (kB (g:=gb192) (o:=.cells #[.int .i64 a2_0,.bool a2_1,.int .u32 a2_2,.int .i64 a2_3,.int .i64 a2_4,.int .i64 a2_5,.int .i64 a2_6,.int .i64 a2_7] 38 (0,0)) (by (with_reducible repeat (first|refine kN ?_ _|refine kD ?_|refine kA ?_ _));exact BK192.out) hb);have n2_:=Ak (below_step (by repeat (first|(with_reducible first|exact HB.out|apply bA|apply bN|apply bD|refine bS ?_ GE191.out|refine bS ?_ GE192.out)|exact HB.out)) hb);clear BK191;clear BK192;clear HB;have BK191:=n0_;have BK192:=n1_;have HB:=n2_;clear n0_ n1_ n2_;(try clear hb);(try clear hb2);(try clear hk);(try clear hi)))
        go_ret
        exact ⟨by first|rfl|(simp [errW_none,errW_some] <;> rfl)|(simp [*,errW_none,errW_some] <;> rfl),by repeat (first|(with_reducible first|exact HB.out|apply bA|apply bN|apply bD|refine bS ?_ GE191.out|refine bS ?_ GE192.out)|exact HB.out)⟩
     ·rw [if_neg c44] at H
      have c44b0 : (a2_0 == 3) = false:=beq_eq_false_iff_ne.mpr c44
      have c44b1 : (a2_0 != 3) = true:=bne_iff_ne.mpr c44
      by_cases c58 : a2_0 = 4
      ·rw [if_pos c58] at H
       have c58b0 : (a2_0 == 4) = true:=beq_iff_eq.mpr c58
       have c58b1 : (a2_0 != 4) = false:=bne_eq_false_iff_eq.mpr c58
       clear c58
       replace H:=Option.bind_eq_some_iff.mp H
       obtain ⟨t196,A590,H⟩:=H
       replace H : (if t196 = true then (some 0) else (some 314)) = some r:=H
       have A59:=Ak A590
       clear A590
       by_cases c60 : t196 = true
       ·subst c60
        have H1 : (some 0) = some r:=by rw [if_pos rfl] at H;exact H
        clear H
        have H:=H1
        clear H1
        obtain rfl:=Option.some.inj H
        have hnb61:=NB192_191.out
        have hnc61:=NB191_192.out
        have hcz62_0 : wc.cell? ⟨gb192,0,none⟩ = some (.int .i64 a2_0):=(kC BK192.out 0).trans rfl
        have hcz62_1 : wc.cell? ⟨gb192,1,none⟩ = some (.bool a2_1):=(kC BK192.out 1).trans rfl
        have hcz62_2 : wc.cell? ⟨gb192,2,none⟩ = some (.int .u32 a2_2):=(kC BK192.out 2).trans rfl
        have hcz62_3 : wc.cell? ⟨gb192,3,none⟩ = some (.int .i64 a2_3):=(kC BK192.out 3).trans rfl
        have hcz62_4 : wc.cell? ⟨gb192,4,none⟩ = some (.int .i64 a2_4):=(kC BK192.out 4).trans rfl
        have hcz62_5 : wc.cell? ⟨gb192,5,none⟩ = some (.int .i64 a2_5):=(kC BK192.out 5).trans rfl
        have hcz62_6 : wc.cell? ⟨gb192,6,none⟩ = some (.int .i64 a2_6):=(kC BK192.out 6).trans rfl
        have hcz62_7 : wc.cell? ⟨gb192,7,none⟩ = some (.int .i64 a2_7):=(kC BK192.out 7).trans rfl
        have hfz62_0:=blk_frozen BK192.out 0
        have hfz62_1:=blk_frozen BK192.out 1
        have hfz62_2:=blk_frozen BK192.out 2
        have hfz62_3:=blk_frozen BK192.out 3
        have hfz62_4:=blk_frozen BK192.out 4
        have hfz62_5:=blk_frozen BK192.out 5
        have hfz62_6:=blk_frozen BK192.out 6
        have hfz62_7:=blk_frozen BK192.out 7
        go_wp2_with (first|((with_reducible refine gate_callee (f:=26) rfl ?_);refine goesL_ (some 51) rfl rfl Try.func26 (by kernel_rfl) rfl #[.agg #[.int .i64 a2_3,.int .i64 a2_4,.int .i64 a2_5,.int .i64 a2_6]] rfl (by (try simp only [List.map_toArray,List.map_cons,List.map_nil]);first|done|rfl|(simp only [List.length_drop,List.length_take];rfl)) ?_;(with_reducible refine (gazetteerref09_Box.calls a2_3 a2_4 a2_5 a2_6 true _ A59.out).mono ?_);rintro e w63 ⟨rfl,hb⟩;refine ⟨_,rfl,?_⟩;have n0_:=Ak (kB (g:=gb191) (o:=.cells #[.slice A0_0 l0_0.length c0_0] 24 (0,0)) (by (with_reducible repeat (first|refine kN ?_ _|refine kD ?_|refine kA ?_ _));exact BK191.out) hb);have n1_:=Ak (kB (g:=gb192) (o:=.cells #[.int .i64 a2_0,.bool a2_1,.int .u32 a2_2,.int .i64 a2_3,.int .i64 a2_4,.int .i64 a2_5,.int .i64 a2_6,.int .i64 a2_7] 38 (0,0)) (by (with_reducible repeat (first|refine kN ?_ _|refine kD ?_|refine kA ?_ _));exact BK192.out) hb);have n2_:=Ak (below_step (by repeat (first|(with_reducible first|exact HB.out|apply bA|apply bN|apply bD|refine bS ?_ GE191.out|refine bS ?_ GE192.out)|exact HB.out)) hb);clear BK191;clear BK192;clear HB;have BK191:=n0_;have BK192:=n1_;have HB:=n2_;clear n0_ n1_ n2_;(try clear hb);(try clear hb2);(try clear hk);(try clear hi)))
        go_ret
        exact ⟨by first|rfl|(simp [errW_none,errW_some] <;> rfl)|(simp [*,errW_none,errW_some] <;> rfl),by repeat (first|(with_reducible first|exact HB.out|apply bA|apply bN|apply bD|refine bS ?_ GE191.out|refine bS ?_ GE192.out)|exact HB.out)⟩
       ·replace c60:=Bool.eq_false_iff.mpr c60
        subst c60
        have H1 : (some 314) = some r:=by rw [if_neg (show ¬ (false = true) by decide)] at H;exact H
        clear H
        have H:=H1
        clear H1
        obtain rfl:=Option.some.inj H
        have hnb64:=NB192_191.out
        have hnc64:=NB191_192.out
        have hcz65_0 : wc.cell? ⟨gb192,0,none⟩ = some (.int .i64 a2_0):=(kC BK192.out 0).trans rfl
        have hcz65_1 : wc.cell? ⟨gb192,1,none⟩ = some (.bool a2_1):=(kC BK192.out 1).trans rfl
        have hcz65_2 : wc.cell? ⟨gb192,2,none⟩ = some (.int .u32 a2_2):=(kC BK192.out 2).trans rfl
        have hcz65_3 : wc.cell? ⟨gb192,3,none⟩ = some (.int .i64 a2_3):=(kC BK192.out 3).trans rfl
        have hcz65_4 : wc.cell? ⟨gb192,4,none⟩ = some (.int .i64 a2_4):=(kC BK192.out 4).trans rfl
        have hcz65_5 : wc.cell? ⟨gb192,5,none⟩ = some (.int .i64 a2_5):=(kC BK192.out 5).trans rfl
        have hcz65_6 : wc.cell? ⟨gb192,6,none⟩ = some (.int .i64 a2_6):=(kC BK192.out 6).trans rfl
        have hcz65_7 : wc.cell? ⟨gb192,7,none⟩ = some (.int .i64 a2_7):=(kC BK192.out 7).trans rfl
        have hfz65_0:=blk_frozen BK192.out 0
        have hfz65_1:=blk_frozen BK192.out 1
        have hfz65_2:=blk_frozen BK192.out 2
        have hfz65_3:=blk_frozen BK192.out 3
        have hfz65_4:=blk_frozen BK192.out 4
        have hfz65_5:=blk_frozen BK192.out 5
        have hfz65_6:=blk_frozen BK192.out 6
        have hfz65_7:=blk_frozen BK192.out 7
        go_wp2_with (first|((with_reducible refine gate_callee (f:=26) rfl ?_);refine goesL_ (some 51) rfl rfl Try.func26 (by kernel_rfl) rfl #[.agg #[.int .i64 a2_3,.int .i64 a2_4,.int .i64 a2_5,.int .i64 a2_6]] rfl (by (try simp only [List.map_toArray,List.map_cons,List.map_nil]);first|done|rfl|(simp only [List.length_drop,List.length_take];rfl)) ?_;(with_reducible refine (gazetteerref09_Box.calls a2_3 a2_4 a2_5 a2_6 false _ A59.out).mono ?_);rintro e w66 ⟨rfl,hb⟩;refine ⟨_,rfl,?_⟩;have n0_:=Ak (kB (g:=gb191) (o:=.cells #[.slice A0_0 l0_0.length c0_0] 24 (0,0)) (by (with_reducible repeat (first|refine kN ?_ _|refine kD ?_|refine kA ?_ _));exact BK191.out) hb);have n1_:=Ak (kB (g:=gb192) (o:=.cells #[.int .i64 a2_0,.bool a2_1,.int .u32 a2_2,.int .i64 a2_3,.int .i64 a2_4,.int .i64 a2_5,.int .i64 a2_6,.int .i64 a2_7] 38 (0,0)) (by (with_reducible repeat (first|refine kN ?_ _|refine kD ?_|refine kA ?_ _));exact BK192.out) hb);have n2_:=Ak (below_step (by repeat (first|(with_reducible first|exact HB.out|apply bA|apply bN|apply bD|refine bS ?_ GE191.out|refine bS ?_ GE192.out)|exact HB.out)) hb);clear BK191;clear BK192;clear HB;have BK191:=n0_;have BK192:=n1_;have HB:=n2_;clear n0_ n1_ n2_;(try clear hb);(try clear hb2);(try clear hk);(try clear hi)))
        go_ret
        exact ⟨by first|rfl|(simp [errW_none,errW_some] <;> rfl)|(simp [*,errW_none,errW_some] <;> rfl),by repeat (first|(with_reducible first|exact HB.out|apply bA|apply bN|apply bD|refine bS ?_ GE191.out|refine bS ?_ GE192.out)|exact HB.out)⟩
      ·rw [if_neg c58] at H
       have c58b0 : (a2_0 == 4) = false:=beq_eq_false_iff_ne.mpr c58
       have c58b1 : (a2_0 != 4) = true:=bne_iff_ne.mpr c58
       obtain rfl:=Option.some.inj H
       go_wp2
       go_ret
       exact ⟨by first|rfl|(simp [errW_none,errW_some] <;> rfl)|(simp [*,errW_none,errW_some] <;> rfl),by repeat (first|(with_reducible first|exact HB.out|apply bA|apply bN|apply bD|refine bS ?_ GE191.out|refine bS ?_ GE192.out)|exact HB.out)⟩
end Go.Proofs.Ytknlbfandkmeiaa.M
end
