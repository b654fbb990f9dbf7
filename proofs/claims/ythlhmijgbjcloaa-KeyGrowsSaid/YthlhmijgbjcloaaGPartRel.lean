/- What the row of this claim reaches. No condition. -/
import Derived.Laws.BytesArg
import Derived.WalkKit
import Derived.Test.YthlhmijgbjcloaaGChoose
import Derived.Test.YthlhmijgbjcloaaGPut
set_option linter.unusedVariables false
set_option linter.unusedSimpArgs false
namespace Go.Proofs.Ythlhmijgbjcloaa.A
open Go.RowKit Go.Proofs.YthlhmijgbjcloaaW.PrintWords Go.Proofs.YthlhmijgbjcloaaW.PrintLast Go.Proofs.YthlhmijgbjcloaaW.PrintMore
abbrev Side:=List Int × Int × Int × Int × Int
theorem own_of_blk {w : World} {g base : Nat} {e : TypeId} {u : Value} (h : Blk w g e #[u]) (hb : base ≤ g) : w.ownsRow base e 1 (.slice (some ⟨g,0,none⟩) 1 1) 1 [u] :=
 ⟨rfl,.inr ⟨g,1,#[u],rfl,hb,h,Nat.le_refl _,by unfold maxLen;omega,rfl,rfl⟩⟩
structure PartRel (w0 W : World) (gA gB gp gq gl gm : Nat) (a b : Side) (left least : Int) (va vb : Value) : Prop where
  bA : Blk W gA 74 #[va, .int .i64 a.2.1, .int .i64 a.2.2.1, .int .i64 a.2.2.2.1, .int .i64 a.2.2.2.2]
  bB : Blk W gB 74 #[vb, .int .i64 b.2.1, .int .i64 b.2.2.1, .int .i64 b.2.2.2.1, .int .i64 b.2.2.2.2]
  bp : Blk W gp 72 #[.pointer (some ⟨gA, 0, none⟩)]
  bq : Blk W gq 72 #[.pointer (some ⟨gB, 0, none⟩)]
  bl : Blk W gl 3 #[.int .i64 left]
  bm : Blk W gm 3 #[.int .i64 least]
  oA : W.ownsRow w0.heap.size 3 1 va a.1.length (ints a.1)
  oB : W.ownsRow w0.heap.size 3 1 vb b.1.length (ints b.1)
  ab : ∀ k, va.ownBlock = some k → vb.ownBlock ≠ some k
  al : va.ownBlock ≠ some gl
  am : va.ownBlock ≠ some gm
  cl : vb.ownBlock ≠ some gl
  cm : vb.ownBlock ≠ some gm
  nAB : gA ≠ gB
  nlm : gl ≠ gm
  mA : w0.heap.size ≤ gA
  mB : w0.heap.size ≤ gB
  ml : w0.heap.size ≤ gl
  hB : Below w0.heap.size w0 W
section
variable {w0 W W' : World} {gA gB gp gq gl gm : Nat} {a b : Side} {left least : Int} {va vb v' : Value}
theorem PartRel.swap (h : PartRel w0 W gA gB gp gq gl gm a b left least va vb) : PartRel w0 W gB gA gq gp gl gm b a left least vb va :=
 ⟨h.bB,h.bA,h.bq,h.bp,h.bl,h.bm,h.oB,h.oA,fun k h1 h2 => h.ab k h2 h1,h.cl,h.cm,h.al,h.am,h.nAB.symm,h.nlm,h.mB,h.mA,h.ml,h.hB⟩
theorem PartRel.step (h : PartRel w0 W gA gB gp gq gl gm a b left least va vb) (hb : Below W.heap.size W W') : PartRel w0 W' gA gB gp gq gl gm a b left least va vb :=
 ⟨h.bA.keep hb,h.bB.keep hb,h.bp.keep hb,h.bq.keep hb,h.bl.keep hb,h.bm.keep hb,own_mv h.oA fun k hk => hb.block k (h.oA.lt k hk).2,own_mv h.oB fun k hk => hb.block k (h.oB.lt k hk).2,h.ab,h.al,h.am,h.cl,h.cm,h.nAB,h.nlm,h.mA,h.mB,h.ml,keep_below h.hB hb⟩
theorem PartRel.rest (h : PartRel w0 W gA gB gp gq gl gm a b left least va vb) (hr : Rest W W' gA va) {g : Nat} {t : TypeId} {cs : Array Value} (hg : Blk W g t cs) (h1 : g ≠ gA) (h2 : va.ownBlock ≠ some g) : Blk W' g t cs:=(hr.2 g hg.lt h1 h2).trans hg
theorem PartRel.rest_ (h : PartRel w0 W gA gB gp gq gl gm a b left least va vb) (hr : Rest W W' gA va) {g : Nat} {t : TypeId} {cs : Array Value} (hg : Blk W g t cs) (h1 : t ≠ 74) (h2 : 3 ≠ t) : Blk W' g t cs :=
 h.rest hr hg (hg.ne_ h.bA h1) (own_blk_ne h.oA hg h2)
theorem PartRel.put (h : PartRel w0 W gA gB gp gq gl gm a b left least va vb) {i u0 u1 u2 u3 : Int} (h1 : Blk W' gA 74 #[v',.int .i64 u0,.int .i64 u1,.int .i64 u2,.int .i64 u3])
  (h2 : W'.ownsRow w0.heap.size 3 1 v' (a.1.length+1) (ints (a.1 ++ [i]))) (h3 : v'.ownBlock = va.ownBlock∨∃ b,v'.ownBlock = some b∧W.heap.size ≤ b) (h4 : Below w0.heap.size w0 W') (hr : Rest W W' gA va) :
  PartRel w0 W' gA gB gp gq gl gm (a.1 ++ [i],u0,u1,u2,u3) b left least v' vb:=by
 have hnew : ∀ g,g < W.heap.size→va.ownBlock ≠ some g→v'.ownBlock ≠ some g:=by
  intro g hg hv e
  rcases h3 with h3|⟨b,h3,h3'⟩
  ·exact hv (h3 ▸ e)
  ·rw [h3] at e
   injection e with e
   omega
 refine ⟨h1,h.rest hr h.bB h.nAB.symm (own_blk_ne h.oA h.bB (by decide)),h.rest_ hr h.bp (by decide) (by decide),h.rest_ hr h.bq (by decide) (by decide),h.rest hr h.bl (h.bl.ne_ h.bA (by decide)) h.al,h.rest hr h.bm (h.bm.ne_ h.bA (by decide)) h.am,?_,own_mv h.oB fun k hk => hr.2 k (h.oB.lt k hk).2 (fun e => own_blk_ne h.oB h.bA (by decide) (e ▸ hk)) (fun e => h.ab k e hk),fun k hk hk' => hnew k (h.oB.lt k hk').2 (fun e => h.ab k e hk') hk,hnew _ h.bl.lt h.al,hnew _ h.bm.lt h.am,h.cl,h.cm,h.nAB,h.nlm,h.mA,h.mB,h.ml,h4⟩
 simpa using h2
theorem PartRel.setLeft (h : PartRel w0 W gA gB gp gq gl gm a b left least va vb) (left' : Int) : PartRel w0 (W.setCell ⟨gl,0,none⟩ (.int .i64 left')) gA gB gp gq gl gm a b left' least va vb:=by
 refine ⟨h.bA.far (h.bA.ne_ h.bl (by decide)) _,h.bB.far (h.bB.ne_ h.bl (by decide)) _,h.bp.far (h.bp.ne_ h.bl (by decide)) _,h.bq.far (h.bq.ne_ h.bl (by decide)) _,by simpa using h.bl.set_ 0 (.int .i64 left'),h.bm.far h.nlm.symm _,own_mv h.oA fun k hk => Below.heap_setCell W ⟨gl,0,none⟩ _ k (fun e => h.al (hk.trans (congrArg some e))),own_mv h.oB fun k hk => Below.heap_setCell W ⟨gl,0,none⟩ _ k (fun e => h.cl (hk.trans (congrArg some e))),h.ab,h.al,h.am,h.cl,h.cm,h.nAB,h.nlm,h.mA,h.mB,h.ml,h.hB.setCell h.ml _⟩
end
section
variable {P : Program} {ops : Array Oper} {Q : Exit → Act → World → Prop}
theorem goesC {oi : Oper} {N : Option Tmp} {a : Act} {w : World} {K : Act → World → Prop} {f : FuncId} {fn : Func} {ax : Array Operand} {ts : Array TypeId} (hf : P.funcs[f]? = some fn) (hname : (fn.name == "runtime.NumGoroutine") = false) (hb : fn.body.isSome = true) (cap args : Array Value) (c : Operand)
    (hw : Region.wanted oi (yielded ops a.tmps) = true) (hN : oi.dst = N) (hop : oi.op = .call { callee := .value c, args := ax, argTypes := ts }) (hc : a.eval c = .func (.func f) #[] cap) (hargs : ax.map a.eval = args)
    (h : Calls P f (args ++ cap) w fun e w' => ∃ v, e = .returned v ∧ K (a.put N v) w') : if Region.wanted oi (yielded ops a.tmps) = true then Oper.wp P oi a w K Q else K (a.put N undef) w := by
  refine call_ f (args ++ cap) hw hN ?_ h
  have he := enters_ hf hname hb (args ++ cap) w
  unfold execOp
  simp [hop, resolve, Deferred.ofValue, invoke, hargs, hc, he]
end
theorem drop_rd (l : List S35) (n : Int) (h0 : 0 ≤ n) (h1 : n < l.length) : l.drop n.toNat = rd_T35 l n :: l.drop (n+1).toNat:=by
 have e : (n+1).toNat = n.toNat+1:=by omega
 have hl : n.toNat < l.length:=by omega
 rw [e,List.drop_eq_getElem_cons hl]
 unfold rd_T35
 rw [List.getD_eq_getElem?_getD,List.getElem?_eq_getElem hl]
 rfl
end Go.Proofs.Ythlhmijgbjcloaa.A
