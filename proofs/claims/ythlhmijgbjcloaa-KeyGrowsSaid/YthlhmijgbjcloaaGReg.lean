/- What the row of this claim reaches. No condition. -/
import Derived.Test.YthlhmijgbjcloaaGVBase
import Derived.Test.YthlhmijgbjcloaaGWTab
set_option linter.unusedVariables false
set_option linter.unusedSimpArgs false
namespace Go.Proofs.Ythlhmijgbjcloaa
open Go.RowKit Go.Proofs.YthlhmijgbjcloaaW.PrintWords
theorem own_mv {w w1 : World} {base : Nat} {e : TypeId} {size n : Nat} {v : Value} {xs : List Value} (h : w.ownsRow base e size v n xs) (hm : ∀ k,v.ownBlock = some k→w1.heap[k]? = w.heap[k]?) : w1.ownsRow base e size v n xs:=by
 refine ⟨h.1,?_⟩
 rcases h.2 with hn|⟨g,cap,cur,hv,hb,hg,rest⟩
 ·exact .inl hn
 ·exact .inr ⟨g,cap,cur,hv,hb,(hm g (by rw [hv];rfl)).trans hg,rest⟩
theorem Reads.one {w : World} {ad : Addr} {u : Value} (h : w.cell? ad = some u) : Reads w (ad.block+1) 1 (some ad) 1 [u]:=by
 refine ⟨rfl,fun _ => ⟨ad,rfl,Nat.lt_succ_self _,fun j x hj => ?_⟩⟩
 match j,hj with
 | 0,hj =>
  have : ad.add 0 = ad:=by unfold Addr.add;split <;> simp_all
  rw [this,h]
  simpa using hj
 | j+1,hj => simp at hj
section
variable {P : Program} {ops : Array Oper} {Q : Exit → Act → World → Prop} {o : Oper} {a : Act} {Kc : Act → World → Prop}
theorem slice_step {W : World} (hw : Region.wanted o (yielded ops a.tmps) = true) {N : Tmp} (_hd : o.dst = some N) {cs : Array Value} {t : TypeId} {n : Nat}
  (hrun : (execOp a.eval o).run P W = .ok (.value (.slice (some ⟨W.heap.size,0,none⟩) n n)) (W.alloc (.cells cs t (0,0))))
  (h : ∀ g,g = W.heap.size→∀ w1,w1.heap[g]? = some (.cells cs t (0,0))→Below W.heap.size W w1→Kc (a.put o.dst (.slice (some ⟨g,0,none⟩) n n)) w1) : if Region.wanted o (yielded ops a.tmps) = true then Oper.wp P o a W Kc Q else Kc (a.put o.dst undef) W :=
 event_step hw hrun (h _ rfl _ (blk_new W _) (below_alloc (Below.refl _ _) _))
end
end Go.Proofs.Ythlhmijgbjcloaa
