/- What the row of this claim reaches. No condition. -/
import Derived.Laws.Cover3
import Derived.Laws.Rows
import Derived.Test.YtiamkgoajkfofaaDoorXVBase
set_option linter.unusedVariables false
set_option linter.unusedSimpArgs false
namespace Go.Proofs.YtiamkgoajkfofaaDoor
open Go.RowKit
def tabF (i j : Int) : Int :=
  if i = 1 then (if j = 0 then 1 else 0) else
  if i = 2 then (if j = 0 then 2 else if j = 1 then 3 else 0) else
  if i = 3 then (if j = 0 then 2 else if j = 1 then 4 else 0) else
  if i = 4 then (if j = 0 then 5 else if j = 1 then 6 else if j = 2 then 2 else if j = 3 then 7 else 0) else
  if i = 5 then (if j = 0 then 8 else 0) else
  if i = 6 then (if j = 0 then 9 else 0) else 0
structure TabIs (w : World) : Prop where
  cell : ∀ i j : Nat, i < 7 → j < 4 → w.cell? ⟨0, i * 4 + j, none⟩ = some (.int .i64 (tabF i j))
theorem TabIs.below {w W : World} (h : TabIs w) (hb : Below w.heap.size w W) : TabIs W := ⟨fun i j hi hj => keep_cell hb (h.cell i j hi hj)⟩
theorem TabIs.same {w W : World} (h : TabIs w) (hd : W = w) : TabIs W := hd ▸ h
theorem load_row_run {P : Program} {o : Oper} {a : Act} {w : World} (ty : TypeId) (x : Operand) (ho : o.op = .load ty x) (g : Nat) (hx : a.eval x = .pointer (some ⟨g, 0, none⟩)) (t : TypeId) (cs : Array Value) (d : TypeDesc) (hg : Blk w g t cs)
    (hu : P.underlying ty = some d) (hd : (match d with | .struct _ | .array _ _ => true | _ => false) = true) (hi : (P.info? ty).map (·.size) = some cs.size) : (execOp a.eval o).run P w = .ok (.value (.agg cs)) w := by
  unfold execOp
  simp only [ho, hx, Instr.loadAt, Instr.sureAddr, Sem.run_bind, Sem.run_pure, Result.andThen_ok, run_loadVar_row w g t ty cs (0, 0) d hg hu hd hi]
theorem Blk.row_ {W : World} {g : Nat} {t : TypeId} {cs0 : Array Value} (h : Blk W g t cs0) (cs : Array Value) : Blk (W.setRow g cs) g t cs := setRow_heap W g cs0 cs t (0, 0) h
theorem Blk.row_far {W : World} {g g' : Nat} {t : TypeId} {cs0 : Array Value} (h : Blk W g' t cs0) (hne : g' ≠ g) (cs : Array Value) : Blk (W.setRow g cs) g' t cs0 := (setRow_other W g g' cs hne).trans h
theorem Below.row_ {B g : Nat} {w W : World} (h : Below B w W) (hg : B ≤ g) (cs : Array Value) : Below B w (W.setRow g cs) :=
  h.trans ⟨rfl, rfl, rfl, by simp, fun k hk => setRow_other W g k cs (by omega)⟩
theorem eql_none_nil {P : Program} (w : World) (t e : TypeId) (l c : Nat) (h : P.underlying t = some (.slice e)) : (binOp .eql t (.slice none l c) (.slice none 0 0)).run P w = .ok (.bool true) w := by
  simp only [binOp]
  simp [run_equal_slice_nil w t e none l c h]
theorem eql_some_nil {P : Program} (w : World) (t e : TypeId) (a : Addr) (l c : Nat) (h : P.underlying t = some (.slice e)) : (binOp .eql t (.slice (some a) l c) (.slice none 0 0)).run P w = .ok (.bool false) w := by
  simp only [binOp]
  simp [run_equal_slice_nil w t e (some a) l c h]
end Go.Proofs.YtiamkgoajkfofaaDoor
