/- What the row of this claim reaches. No condition. -/
import Derived.Test.YtiamkgoajkfofaaDoorXSGive
set_option linter.unusedVariables false
set_option linter.unusedSimpArgs false
namespace Go.Proofs.YtiamkgoajkfofaaDoor.S
open Go.RowKit Go.Proofs.YtiamkgoajkfofaaDoorW.PrintWords Go.Proofs.YtiamkgoajkfofaaDoorW.PrintLast Go.Proofs.YtiamkgoajkfofaaDoorW.PrintMore
theorem RS.below {W W' : World} {b c : Nat} {A : Option Addr} {l : List S63} (h : RS W b A c l) (hb : Below W.heap.size W W') : RS W' b A c l := Kd.R_below h hb
theorem RU.below {W W' : World} {b c : Nat} {A : Option Addr} {l : List Int} (h : RU W b A c l) (hb : Below W.heap.size W W') : RU W' b A c l := Kd.R_below h hb
def Flat {α : Type} (d : Kd α) : Prop := ∀ (W W' : World) (base : Nat) (ok : Nat → Prop) (x : α) (cs : List Value), d.K W x cs → d.M W' base ok x cs ∧ cs.length = d.sz ∧ ∀ u ∈ cs, u.oneCell' = true
theorem flat_u32 : Flat (Kd.int .u32) := by
  intro W W' base ok x cs h
  have h' : cs = [.int .u32 x] := h
  subst h'
  exact ⟨rfl, rfl, by simp [Value.oneCell']⟩
theorem flat_63 : Flat k63 := by
  intro W W' base ok x cs h
  have h' := k63_open h
  subst h'
  exact ⟨k63_mkM _ _ _ _, rfl, by simp [Value.oneCell']⟩
section
variable {P : Program}
theorem app_run {α : Type} {d : Kd α} (hd : Flat d) {W : World} {base : Nat} (t ty e : TypeId) (z : Value) (bytes : Nat) (ht : P.underlying t = some (.slice e)) (hinfo : (P.info? e).map (fun i => (i.zero, i.size, i.bytes)) = some (some z, d.sz, bytes)) (hz : z.cells.size = d.sz) (hs0 : 0 < d.sz) (hb0 : bytes ≤ 1000)
    (g : Nat) (A : Option Addr) (m c : Nat) (ys : List α) (hg : Blk W g e #[]) (hgb : base ≤ g) (hbase : base ≤ W.heap.size) (HR : d.C W A m ys) (hm : m ≤ 1000) :
    ∃ A1 c1 w1, (Builtin.append_ #[t, t] ty #[.slice (some ⟨g, 0, none⟩) 0 0, .slice A m c]).run P W = .ok (.slice A1 ys.length c1) w1 ∧ d.R e w1 base (fun _ => True) (.slice A1 ys.length c1) ys ∧ Below W.heap.size W w1 := by
  obtain ⟨i, hi, hzz⟩ := Option.map_eq_some_iff.1 hinfo
  simp only [Prod.mk.injEq] at hzz
  obtain ⟨hz0, hz1, hz2⟩ := hzz
  have hlen : ys.length = m := HR.1
  have mk0 : ∀ W' : World, Blk W' g e #[] → d.R e W' base (fun _ => True) (.slice (some ⟨g, 0, none⟩) 0 0) [] := fun W' h' => ⟨fun _ _ => trivial, [], ⟨by simp, .inr ⟨g, 0, #[], rfl, hgb, h', Nat.le_refl _, by decide, by simp, by simp⟩⟩, Reps.none _ _⟩
  rcases Nat.eq_zero_or_pos m with h0 | h0
  · subst h0
    obtain rfl : ys = [] := List.eq_nil_of_length_eq_zero hlen
    rcases A with _ | ad
    · refine ⟨some ⟨g, 0, none⟩, 0, W, ?_, mk0 W hg, Below.refl _ _⟩
      exact run_append_of_nil W base t ty e i d.sz ht hi _ 0 [] ⟨by simp, .inr ⟨g, 0, #[], rfl, hgb, hg, Nat.le_refl _, by decide, by simp, by simp⟩⟩ c
    · have h := run_append_room (P := P) W t ty e i ht hi g 0 0 #[] hg ad 0 c [] (by simp) (by simp) (by simp) (Nat.le_refl _) (by simp)
      refine ⟨some ⟨g, 0, none⟩, 0, _, h, mk0 _ (by have := setRow_heap W g #[] (List.take (0 * i.size) (#[] : Array Value).toList ++ [] ++ List.drop (0 * i.size + ([] : List Value).length) (#[] : Array Value).toList).toArray e (0, 0) hg; simpa [Blk] using this), ⟨rfl, rfl, rfl, by simp, fun k hk => ?_⟩⟩
      by_cases hkg : k = g
      · subst hkg
        rw [setRow_heap W k #[] _ e (0, 0) hg, hg]
        simp
      · exact setRow_other W g k _ hkg
  · obtain ⟨ad, hA, hc⟩ := HR.2.2 h0
    subst hA
    obtain ⟨news, hnr, hnc⟩ := ReadsRow.inner_ HR
    have hnl : news.length = m * i.size := by rw [hnr.1, hlen, hz1]
    have hfit : m * i.bytes ≤ 281474976710656 := by
      rw [hz2]
      have := Nat.mul_le_mul hm hb0
      omega
    have h1 := run_append_nil (P := P) W t ty e i z ht hi hz0 ad m c news hnl hnc h0 (by omega) hfit
    have h2 := run_append_grow (P := P) W t ty e i z ht hi hz0 ⟨g, 0, none⟩ 0 0 [] (by simp) (by simp) ad m c news hnl hnc (by omega) (by omega) (by rw [Nat.zero_add, nextslicecap_zero h0]; exact hfit)
    have h12 : (Builtin.append_ #[t, t] ty #[.slice (some ⟨g, 0, none⟩) 0 0, .slice (some ad) m c]).run P W = (Builtin.append_ #[t, t] ty #[.slice none 0 0, .slice (some ad) m c]).run P W := by
      rw [h1, h2]
      simp
    have hone : ∀ u ∈ news, u.oneCell' = true := by
      intro u hu
      obtain ⟨j, hj⟩ := List.getElem?_of_mem hu
      have hjl : j < news.length := (List.getElem?_eq_some_iff.1 hj).1
      have hq : j / d.sz < ys.length := by
        rw [hnr.1] at hjl
        exact Nat.div_lt_of_lt_mul (by rwa [Nat.mul_comm] at hjl)
      obtain ⟨_, hsz, hu1⟩ := hd W W 0 (fun _ => True) _ _ (hnr.2 (j / d.sz) _ (List.getElem?_eq_getElem hq))
      refine hu1 u ?_
      refine List.mem_of_getElem? (i := j % d.sz) ?_
      rw [List.getElem?_take_of_lt (Nat.mod_lt _ hs0), List.getElem?_drop, Nat.mul_comm, Nat.div_add_mod]
      exact hj
    obtain ⟨v1, w1, hrun, hown, hgr, hblk⟩ := run_append_any (P := P) W W.heap.size t ty e i z d.sz bytes ht hi hz0 hz1 hz2 hz hs0 (.slice none 0 0) 0 [] (World.ownsRow_nil W _ e d.sz) (ad.block + 1) (some ad) m c news
      ⟨by rw [hnl, hz1], fun _ => ⟨ad, rfl, Nat.lt_succ_self _, hnc⟩⟩ hone (by unfold maxLen; omega) (by have := Nat.mul_le_mul hm hb0; rw [Nat.zero_add]; omega) (Nat.le_refl _)
    rw [Nat.zero_add, List.nil_append] at hown
    have hb1 : Below W.heap.size W w1 := ⟨hgr.os, hgr.tape, hgr.output, hgr.size, fun k hk => hgr.block k hk (by simp [Value.ownBlock])⟩
    rw [← hlen] at hown
    have hR : d.R e w1 W.heap.size (fun _ => True) v1 ys := ⟨fun _ _ => trivial, news, hown, hnr.imp_ (fun p cs hp => (hd W w1 _ _ p cs hp).1)⟩
    obtain ⟨A1, c1, rfl, _, _⟩ := hR.2.reads
    exact ⟨A1, c1, w1, by rw [h12]; exact hrun, Kd.R_lower hR hbase, hb1⟩
end
section
variable {P : Program} {ops : Array Oper} {Q : Exit → Act → World → Prop} {o : Oper} {a : Act} {Kc : Act → World → Prop}
theorem app_step {α : Type} {d : Kd α} (hd : Flat d) {W : World} (base : Nat) (hw : Region.wanted o (yielded ops a.tmps) = true) {N : Option Tmp} (hN : o.dst = N) (s x : Operand) (t e : TypeId) (z : Value) (bytes : Nat)
    (ho : o.op = .call { callee := .builtin .append, args := #[s, x], argTypes := #[t, t] }) (ht : P.underlying t = some (.slice e)) (hinfo : (P.info? e).map (fun i => (i.zero, i.size, i.bytes)) = some (some z, d.sz, bytes)) (hz : z.cells.size = d.sz) (hs0 : 0 < d.sz) (hb0 : bytes ≤ 1000)
    (g : Nat) (A : Option Addr) (c : Nat) (ys : List α) (hs : a.eval s = .slice (some ⟨g, 0, none⟩) 0 0) (hx : a.eval x = .slice A ys.length c) (hg : Blk W g e #[]) (hgb : base ≤ g) (hbase : base ≤ W.heap.size) (HR : d.C W A ys.length ys) (hm : ys.length ≤ 1000)
    (h : ∀ A1 c1 w1, d.R e w1 base (fun _ => True) (.slice A1 ys.length c1) ys → Below W.heap.size W w1 → Kc (a.put N (.slice A1 ys.length c1)) w1) :
    if Region.wanted o (yielded ops a.tmps) = true then Oper.wp P o a W Kc Q else Kc (a.put o.dst undef) W := by
  obtain ⟨A1, c1, w1, hrun, hR, hb⟩ := app_run hd (P := P) (W := W) (base := base) t o.type e z bytes ht hinfo hz hs0 hb0 g A ys.length c ys hg hgb hbase HR hm
  rw [if_pos hw]
  unfold Oper.wp execOp
  simp only [ho, resolve, invoke, builtin, Sem.run_bind, Sem.run_pure, Result.andThen_ok, List.map_toArray, List.map_cons, List.map_nil, hs, hx, hrun]
  subst hN
  exact h A1 c1 w1 hR hb
end
end Go.Proofs.YtiamkgoajkfofaaDoor.S
