/- What the row of this claim reaches. No condition. -/
import Derived.Test.YthlhmijgbjcloaaGVBase
set_option linter.unusedVariables false
set_option linter.unusedSimpArgs false
namespace Go.Proofs.Ythlhmijgbjcloaa
open Go.RowKit
section
variable {w W : World} {g t t' : Nat} {cs cs' ds : Array Value}
theorem cell_drew {p : Addr} {v : Option Value} (h : W.cell? p = v) : W.drew.cell? p = v:=h
theorem blk_alloc_ne (h : Blk (W.alloc (.cells cs t)) g t' ds) (ht : t ≠ t') : g < W.heap.size:=by
 have hlt:=h.lt
 rw [World.size_alloc] at hlt
 rcases Nat.lt_or_ge g W.heap.size with h1|h1
 ·exact h1
 ·obtain rfl : g = W.heap.size:=by omega
  have hn:=Blk.new W t cs
  unfold Blk at h hn
  rw [hn] at h
  injection h with h
  injection h with _ h
  exact absurd h ht
theorem swap_blk (h : Blk (W.alloc (.cells cs t)) g t' ds) (ht : t ≠ t') : Blk (W.alloc (.cells cs' t)) g t' ds:=by
 have hlt:=blk_alloc_ne h ht
 have h2 : Blk W g t' ds:=(Below.heap_alloc W _ g hlt).symm.trans h
 exact h2.alloc _
theorem swap_cell {i : Nat} {v : Value} (h : Blk (W.alloc (.cells cs t)) g t' ds) (ht : t ≠ t') (hv : ds[i]? = some v) : (W.alloc (.cells cs' t)).cell? ⟨g,i,none⟩ = some v:=((swap_blk h ht).cell i).trans hv
theorem swap_below {B : Nat} (h : Below B w (W.alloc (.cells cs t))) (hB : B ≤ W.heap.size) : Below B w (W.alloc (.cells cs' t)):=by
 refine ⟨h.os,h.tape,h.output,?_,fun i hi => ?_⟩
 ·have:=h.size
  simp at this ⊢
  omega
 ·rw [← h.block i hi,Below.heap_alloc W _ i (by omega),Below.heap_alloc W _ i (by omega)]
theorem blk_le (h : Blk (W.alloc (.cells cs t)) g t' ds) (ht : t ≠ t') {B : Nat} (hB : B ≤ g) : B ≤ W.heap.size:=by
 have:=blk_alloc_ne h ht
 omega
theorem far_two {gX i j : Nat} (h : Blk W g t cs) (n : Blk W gX t' ds) (ht : t ≠ t') (u v : Value) : Blk ((W.setCell ⟨gX,i,none⟩ u).setCell ⟨gX,j,none⟩ v) g t cs :=
 (h.far (h.ne_ n ht) u).far (h.ne_ n ht) v
theorem far_two_cell {gX i j k : Nat} {x : Value} (h : Blk W g t cs) (n : Blk W gX t' ds) (ht : t ≠ t') (u v : Value) (hv : cs[k]? = some x) : ((W.setCell ⟨gX,i,none⟩ u).setCell ⟨gX,j,none⟩ v).cell? ⟨g,k,none⟩ = some x :=
 ((far_two h n ht u v).cell k).trans hv
theorem far_two_below {B gX i j : Nat} (h : Below B w W) (hB : B ≤ gX) (u v : Value) : Below B w ((W.setCell ⟨gX,i,none⟩ u).setCell ⟨gX,j,none⟩ v) :=
 (h.setCell hB u).setCell hB v
theorem new_keep {o : Obj} {w2 : World} (ho : o = .cells cs t) (hb : Below (W.alloc o).heap.size (W.alloc o) w2) : Blk w2 W.heap.size t cs:=by
 subst ho
 exact (Blk.new W t cs).keep hb
theorem blk_le_drew (h : Blk (W.alloc (.cells cs t)).drew g t' ds) (ht : t ≠ t') {B : Nat} (hB : B ≤ g) : B ≤ W.heap.size:=blk_le (W:=W) h ht hB
theorem new_keep_drew {o : Obj} {w2 : World} (ho : o = .cells cs t) (hb : Below (W.alloc o).drew.heap.size (W.alloc o).drew w2) : Blk w2 W.heap.size t cs:=by
 subst ho
 exact Blk.keep (W:=(W.alloc (.cells cs t)).drew) (Blk.new W t cs) hb
theorem two_set {u v x y : Value} (h : Blk W g t #[x,y]) : Blk ((W.setCell ⟨g,0,none⟩ u).setCell ⟨g,1,none⟩ v) g t #[u,v]:=by simpa using (h.set_ 0 u).set_ 1 v
theorem two_set4 {u v x y a b : Value} (h : Blk W g t #[x,y,a,b]) : Blk ((W.setCell ⟨g,0,none⟩ u).setCell ⟨g,1,none⟩ v) g t #[u,v,a,b]:=by simpa using (h.set_ 0 u).set_ 1 v
end
end Go.Proofs.Ythlhmijgbjcloaa
