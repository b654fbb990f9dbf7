/- What the row of this claim reaches. No condition. -/
import Derived.Maps.Own
import Derived.Maps.OwnOps
import Derived.Maps.OwnSet
import Derived.Maps.Views
import Derived.Test.YtfggjefncnhikaaZVBase
set_option linter.unusedVariables false
set_option linter.unusedSimpArgs false
namespace Go.Proofs.Ytfggjefncnhikaa
open Go.RowKit Go.Maps
theorem kinfo : (Try.prog.info? 4).map (·.zero) = some (some (.bool false)) := by kernel_rfl
theorem num_key : Keyed Try.prog 22 := int_keyed Try.underlying22
theorem keyLit_u64 (a : Int) : WideAt.IsKeyLit (Lit.int .u64 a) := by first | exact trivial | simp [WideAt.IsKeyLit] | (unfold WideAt.IsKeyLit; simp)
def MapB (W : World) (b n : Nat) (S : Int → Bool) : Prop :=
  ∃ D : DataW Unit, W.ownsMap Try.prog 22 (plainElem Try.prog 4) b n D ∧ ∀ a : Int, (Lit.int .u64 a).wf = true → D.atKey (.int .u64 a) (.lit (.bool false)) = .lit (.bool (S a))
theorem MapB.made (W : World) : MapB (W.alloc (.map #[] 0)) W.heap.size 0 fun _ => false :=
  ⟨.map [], World.ownsMap_made _ _ _ _, fun a _ => by rfl⟩
theorem MapB.grown {W W' : World} {b n : Nat} {S : Int → Bool} {row : Option Nat} (h : MapB W b n S) (hg : W.grownBy W' row) (hne : some b ≠ row) : MapB W' b n S := by
  obtain ⟨D, h1, h2⟩ := h
  exact ⟨D, h1.kept hg hne, h2⟩
theorem MapB.drewN {W : World} {b n : Nat} {S : Int → Bool} (h : MapB W b n S) (k : Nat) : MapB (W.drewN k) b n S := h
theorem MapB.alloc {W : World} {b n : Nat} {S : Int → Bool} (h : MapB W b n S) (o : Obj) : MapB (W.alloc o) b n S := by
  obtain ⟨D, h1, h2⟩ := h
  exact ⟨D, h1.alloc o, h2⟩
theorem MapB.lt {W : World} {b n : Nat} {S : Int → Bool} (h : MapB W b n S) : b < W.heap.size := by
  obtain ⟨D, h1, _⟩ := h
  exact h1.lt
theorem zero_bool (W : World) : (zeroValue 4).run Try.prog W = .ok (.bool false) W := by
  have h := kinfo
  cases hi : Try.prog.info? 4 with
  | none => rw [hi] at h; cases h
  | some i =>
    rw [hi] at h
    simp only [Option.map_some, Option.some.injEq] at h
    simp [zeroValue, typeInfo, hi, h]
theorem MapB.look {W : World} {b n : Nat} {S : Int → Bool} (h : MapB W b n S) (a : Int) (ha : (Lit.int .u64 a).wf = true) :
    (Instr.lookup 69 (.map (some b)) (.int .u64 a) false).run Try.prog W = .ok (.bool (S a)) W := by
  obtain ⟨D, h1, h2⟩ := h
  obtain ⟨v, ps, hrun, hv⟩ := h1.lookup num_key Try.underlying69 (zero_bool W) (plainElem_bool Try.underlying4 false) (keyOf_int_mk Try.underlying22 ha)
  rw [h2 a ha] at hv
  unfold plainElem at hv
  rw [Try.underlying4] at hv
  cases v <;> simp at hv
  obtain ⟨rfl, _⟩ := hv
  exact hrun
theorem MapB.put {W : World} {b n : Nat} {S : Int → Bool} (h : MapB W b n S) (a : Int) (ha : (Lit.int .u64 a).wf = true) (hn : n < maxLen) :
    ∃ w', (Instr.mapUpdate 69 (.map (some b)) (.int .u64 a) (.bool true)).run Try.prog W = .ok () w' ∧ MapB w' b (n + 1) (fun x => x == a || S x) ∧ W.grownBy w' (some b) := by
  obtain ⟨D, h1, h2⟩ := h
  obtain ⟨w', hrun, h3, h4⟩ := h1.update num_key Try.underlying69 hn (keyOf_int_mk Try.underlying22 ha) (plainElem_bool Try.underlying4 true)
  refine ⟨w', hrun, ⟨_, h3, fun x hx => ?_⟩, h4⟩
  by_cases e : x = a
  · subst e
    rw [atKey_put_same h1.isMap (keyLit_u64 _)]
    simp
  · rw [atKey_put_other (by intro h; injection h with _ h; exact e h), h2 x hx]
    simp [e]
end Go.Proofs.Ytfggjefncnhikaa
