/- Cells: the given statement, out of its plain statement and the walk of its code. No condition. -/
import Derived.Deep.MidRow
import Derived.Laws.BytesArg
import Derived.WalkKit
import Derived.Test.YthlhmijgbjcloaaGRefMul
set_option linter.unusedVariables false
set_option linter.unusedSimpArgs false
namespace Go.Proofs.Ythlhmijgbjcloaa
open Go.RowKit
@[irreducible] def fl (f : Nat→Int) : List Value:=(List.range 260).map fun i => Value.int .i64 (f i)
theorem fv_fl (f : Nat→Int) : fv f = (fl f).toArray:=by unfold fv fl;rfl
theorem fl_length (f : Nat→Int) : (fl f).length = 260:=by unfold fl;simp
theorem fl_one (f : Nat→Int) : ∀ v ∈ fl f,v.oneCell' = true:=by
 intro v hv
 unfold fl at hv
 obtain ⟨i,_,rfl⟩:=List.mem_map.1 hv
 rfl
theorem fl_get (f : Nat→Int) {i : Nat} (h : i < 260) : (fl f)[i]? = some (.int .i64 (f i)):=by unfold fl;simp [h]
theorem cell?_newAt {w : World} {g : Nat} {t : TypeId} {cs : Array Value} (h : w.heap.size = g) (i : Nat) : (w.alloc (.cells cs t)).cell? ⟨g,i,none⟩ = cs[i]?:=by
 subst h;exact World.cell?_alloc_new _ _ _ _
theorem there_new (W : World) (f : Nat→Int) : (W.alloc (.cells (fv f) 61)).there W.heap.size 0 260:=fun j hj => by
 have hb : Blk (W.alloc (.cells (fv f) 61)) W.heap.size 61 (fv f):=Blk.new _ _ _
 refine ⟨?_,hb.frozen _⟩
 rw [hb.cell,fv_get f (by omega)];rfl
theorem there_new1 (W : World) (o : Obj) (f : Nat→Int) : ((W.alloc o).alloc (.cells (fv f) 61)).there (W.heap.size+1) 0 260:=by
 have h:=there_new (W.alloc o) f
 rwa [World.size_alloc] at h
theorem there_lt {W : World} {g : Nat} (h : W.there g 0 260) : g < W.heap.size:=by
 have h0:=(h 0 (by omega)).1
 obtain ⟨v,hv⟩:=Option.isSome_iff_exists.1 h0
 exact lt_cell hv
theorem there_drew {W : World} {g : Nat} (h : W.there g 0 260) : W.drew.there g 0 260:=h
theorem there_below {W w2 : World} (hb : Below W.heap.size W w2) (g : Nat) (h : W.there g 0 260) : w2.there g 0 260:=fun j hj => by
 have hg:=there_lt h
 rw [(bcell hb).1 g _ hg,(bcell hb).2 g _ hg]
 exact h j hj
theorem there_alloc (W : World) (o : Obj) (g : Nat) (h : W.there g 0 260) : (W.alloc o).there g 0 260:=there_below (Below.alloc (Below.refl _ _) (Nat.le_refl _) o) g h
theorem there_set (W : World) (b : Nat) (cs : List Value) (g : Nat) (h : W.there g 0 260) : (W.setCells b 0 cs).there g 0 260:=World.there_setCells h b 0 cs
theorem keep_cells {W : World} {p : Addr} {v : Value} {g : Nat} {cs : List Value} (h : W.cell? p = some v) (hne : p.block ≠ g) : (W.setCells g 0 cs).cell? p = some v :=
 (World.cell?_setCells_out g cs 0 W p (fun e => absurd e hne)).trans h
theorem keep_below_cells {B : Nat} {w : World} {g : Nat} (hg : B ≤ g) : ∀ {cs : List Value} {W : World} {o : Nat},Below B w W→Below B w (W.setCells g o cs)
 | [],_,_,h => h
 | x :: xs,W,o,h => by unfold World.setCells;exact keep_below_cells hg (cs:=xs) (h.setCell (p:=⟨g,o,none⟩) hg x)
theorem rng_new {W : World} {g : Nat} {L : List Value} (h : W.there g 0 260) (hn : L.length = 260) : (W.setCells g 0 L).rangeAt g 0 L:=World.rangeAt_setCells_same W g 0 L (by rw [hn];exact h)
theorem rng_below {W w2 : World} {g : Nat} {L : List Value} (h : W.rangeAt g 0 L) (hg : g < W.heap.size) (hb : Below W.heap.size W w2) : w2.rangeAt g 0 L:=fun j v hv => by
 rw [(bcell hb).1 g _ hg];exact h j v hv
theorem rng_drew {W : World} {g : Nat} {L : List Value} (h : W.rangeAt g 0 L) : W.drew.rangeAt g 0 L:=h
theorem rng_set {W : World} {g : Nat} {p : Addr} {L : List Value} (h : W.rangeAt g 0 L) (hp : g ≠ p.block) (u : Value) : (W.setCell p u).rangeAt g 0 L:=fun j v hv => keep_set u (h j v hv) hp
theorem keep_below_set2 {B : Nat} {w W : World} {p q : Addr} {u v : Value} (h : Below B w W) (hp : B ≤ p.block) (hq : B ≤ q.block) : Below B w ((W.setCell p u).setCell q v):=(h.setCell hp u).setCell hq v
theorem rng_alloc {W : World} {g : Nat} {L : List Value} (h : W.rangeAt g 0 L) (hg : g < W.heap.size) (o : Obj) : (W.alloc o).rangeAt g 0 L:=rng_below h hg (Below.alloc (Below.refl _ _) (Nat.le_refl _) o)
theorem blk_drew_below {W w2 : World} {g : Nat} {t : TypeId} {cs : Array Value} (h : Blk W g t cs) (hb : Below W.heap.size W w2) : Blk w2 g t cs:=h.below hb h.lt
theorem size_cells {W : World} {g : Nat} {L : List Value} : ∀ {o : Nat},(W.setCells g o L).heap.size = W.heap.size:=by
 intro o
 induction L generalizing W o with
 | nil => rfl
 | cons x xs ih => unfold World.setCells;rw [ih];simp [World.setCell]
theorem blk_far_cells {W : World} {g k : Nat} {t : TypeId} {cs : Array Value} (h : Blk W g t cs) (hk : g ≠ k) : ∀ {L : List Value} {o : Nat},Blk (W.setCells k o L) g t cs:=by
 intro L
 induction L generalizing W with
 | nil => intro o;exact h
 | cons x xs ih => intro o;unfold World.setCells;exact ih (h.far hk x)
end Go.Proofs.Ythlhmijgbjcloaa
