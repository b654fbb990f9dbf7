/- What the row of this claim reaches. No condition. -/
import Derived.Test.YtiamkgoajkfofaaDoorZX3
set_option linter.unusedVariables false
set_option linter.unusedSimpArgs false
section
namespace Go.Proofs.YtiamkgoajkfofaaDoor.S
open Go.RowKit Go.Proofs.YtiamkgoajkfofaaDoorW.PrintWords Go.Proofs.YtiamkgoajkfofaaDoorW.PrintLast Go.Proofs.YtiamkgoajkfofaaDoorW.PrintMore
attribute [local go_sem] max2_int min2_int max_two min_two max_three min_three max_four min_four   -- for this text's walks alone
attribute [local go_sem high] eqA27
mutual
def gazetteerref21_Same.j0 : Nat → Bool → Int → Int → Bool → Int → Int → Bool → Int → Int → Int → Int → Int → Int → Int → Int → Int → Int → Int → List (S63) → List Int → List Int → Int → Int → Bool → Int → Int → Bool → Int → Int → Int → Int → Int → Int → Int → Int → Int → Int → Int → List (S63) → List Int → List Int → Option (Bool)
  | 0, _, _, _, _, _, _, _, _, _, _, _, _, _, _, _, _, _, _, _, _, _, _, _, _, _, _, _, _, _, _, _, _, _, _, _, _, _, _, _, _, _ => none
  | k + 1, x62, x141000, x141001, x141002, x141003, x141004, x141005, x141006, x141007, x141008, x141009, x141010, x141011, x141012, x141013, x141014, x141015, x141016, x141017, x141018, x141019, x142000, x142001, x142002, x142003, x142004, x142005, x142006, x142007, x142008, x142009, x142010, x142011, x142012, x142013, x142014, x142015, x142016, x142017, x142018, x142019 => if x62 = true then (some false) else (gazetteerref21_Same.l0 k 0 x141000 x141001 x141002 x141003 x141004 x141005 x141006 x141007 x141008 x141009 x141010 x141011 x141012 x141013 x141014 x141015 x141016 x141017 x141018 x141019 x142000 x142001 x142002 x142003 x142004 x142005 x142006 x142007 x142008 x142009 x142010 x142011 x142012 x142013 x142014 x142015 x142016 x142017 x142018 x142019)
def gazetteerref21_Same.l0 : Nat → Int → Int → Int → Bool → Int → Int → Bool → Int → Int → Int → Int → Int → Int → Int → Int → Int → Int → Int → List (S63) → List Int → List Int → Int → Int → Bool → Int → Int → Bool → Int → Int → Int → Int → Int → Int → Int → Int → Int → Int → Int → List (S63) → List Int → List Int → Option (Bool)
  | 0, _, _, _, _, _, _, _, _, _, _, _, _, _, _, _, _, _, _, _, _, _, _, _, _, _, _, _, _, _, _, _, _, _, _, _, _, _, _, _, _, _ => none
  | k + 1, x5, x141000, x141001, x141002, x141003, x141004, x141005, x141006, x141007, x141008, x141009, x141010, x141011, x141012, x141013, x141014, x141015, x141016, x141017, x141018, x141019, x142000, x142001, x142002, x142003, x142004, x142005, x142006, x142007, x142008, x142009, x142010, x142011, x142012, x142013, x142014, x142015, x142016, x142017, x142018, x142019 => if x5 < (x141019.length : Int) then (if 0 ≤ x5 then (if x5 < (x142019.length : Int) then (if (rd x141019 x5) = (rd x142019 x5) then (gazetteerref21_Same.l0 k (wrap64 (x5 + 1)) x141000 x141001 x141002 x141003 x141004 x141005 x141006 x141007 x141008 x141009 x141010 x141011 x141012 x141013 x141014 x141015 x141016 x141017 x141018 x141019 x142000 x142001 x142002 x142003 x142004 x142005 x142006 x142007 x142008 x142009 x142010 x142011 x142012 x142013 x142014 x142015 x142016 x142017 x142018 x142019) else (some false)) else (none)) else (none)) else (some true)
end
def gazetteerref21_Same.f (k : Nat) (a0_0 : Int) (a0_1 : Int) (a0_2 : Bool) (a0_3 : Int) (a0_4 : Int) (a0_5 : Bool) (a0_6 : Int) (a0_7 : Int) (a0_8 : Int) (a0_9 : Int) (a0_10 : Int) (a0_11 : Int) (a0_12 : Int) (a0_13 : Int) (a0_14 : Int) (a0_15 : Int) (a0_16 : Int) (l0_17 : List (S63)) (l0_18 : List Int) (l0_19 : List Int) (a1_0 : Int) (a1_1 : Int) (a1_2 : Bool) (a1_3 : Int) (a1_4 : Int) (a1_5 : Bool) (a1_6 : Int) (a1_7 : Int) (a1_8 : Int) (a1_9 : Int) (a1_10 : Int) (a1_11 : Int) (a1_12 : Int) (a1_13 : Int) (a1_14 : Int) (a1_15 : Int) (a1_16 : Int) (l1_17 : List (S63)) (l1_18 : List Int) (l1_19 : List Int) : Option (Bool) := if a0_0 = a1_0 then (if a0_1 = a1_1 then (if (a0_2 != a1_2) = true then (gazetteerref21_Same.j0 k true a0_0 a0_1 a0_2 a0_3 a0_4 a0_5 a0_6 a0_7 a0_8 a0_9 a0_10 a0_11 a0_12 a0_13 a0_14 a0_15 a0_16 l0_17 l0_18 l0_19 a1_0 a1_1 a1_2 a1_3 a1_4 a1_5 a1_6 a1_7 a1_8 a1_9 a1_10 a1_11 a1_12 a1_13 a1_14 a1_15 a1_16 l1_17 l1_18 l1_19) else (if a0_3 = a1_3 then (if (!(a0_4 == a1_4) || (!(a0_5 == a1_5) || (!(a0_6 == a1_6) || ((!(a0_7 == a1_7) || (!(a0_8 == a1_8) || (!(a0_9 == a1_9) || (!(a0_10 == a1_10))))) || (!(a0_11 == a1_11)))))) = true then (gazetteerref21_Same.j0 k true a0_0 a0_1 a0_2 a0_3 a0_4 a0_5 a0_6 a0_7 a0_8 a0_9 a0_10 a0_11 a0_12 a0_13 a0_14 a0_15 a0_16 l0_17 l0_18 l0_19 a1_0 a1_1 a1_2 a1_3 a1_4 a1_5 a1_6 a1_7 a1_8 a1_9 a1_10 a1_11 a1_12 a1_13 a1_14 a1_15 a1_16 l1_17 l1_18 l1_19) else (if a0_12 = a1_12 then ((gazetteerref13_Same.f k a0_13 a0_14 a0_15 a0_16 l0_17 l0_18 a1_13 a1_14 a1_15 a1_16 l1_17 l1_18).bind fun t142 => (if t142 = true then (gazetteerref21_Same.j0 k ((l0_19.length : Int) != (l1_19.length : Int)) a0_0 a0_1 a0_2 a0_3 a0_4 a0_5 a0_6 a0_7 a0_8 a0_9 a0_10 a0_11 a0_12 a0_13 a0_14 a0_15 a0_16 l0_17 l0_18 l0_19 a1_0 a1_1 a1_2 a1_3 a1_4 a1_5 a1_6 a1_7 a1_8 a1_9 a1_10 a1_11 a1_12 a1_13 a1_14 a1_15 a1_16 l1_17 l1_18 l1_19) else (gazetteerref21_Same.j0 k true a0_0 a0_1 a0_2 a0_3 a0_4 a0_5 a0_6 a0_7 a0_8 a0_9 a0_10 a0_11 a0_12 a0_13 a0_14 a0_15 a0_16 l0_17 l0_18 l0_19 a1_0 a1_1 a1_2 a1_3 a1_4 a1_5 a1_6 a1_7 a1_8 a1_9 a1_10 a1_11 a1_12 a1_13 a1_14 a1_15 a1_16 l1_17 l1_18 l1_19))) else (gazetteerref21_Same.j0 k true a0_0 a0_1 a0_2 a0_3 a0_4 a0_5 a0_6 a0_7 a0_8 a0_9 a0_10 a0_11 a0_12 a0_13 a0_14 a0_15 a0_16 l0_17 l0_18 l0_19 a1_0 a1_1 a1_2 a1_3 a1_4 a1_5 a1_6 a1_7 a1_8 a1_9 a1_10 a1_11 a1_12 a1_13 a1_14 a1_15 a1_16 l1_17 l1_18 l1_19))) else (gazetteerref21_Same.j0 k true a0_0 a0_1 a0_2 a0_3 a0_4 a0_5 a0_6 a0_7 a0_8 a0_9 a0_10 a0_11 a0_12 a0_13 a0_14 a0_15 a0_16 l0_17 l0_18 l0_19 a1_0 a1_1 a1_2 a1_3 a1_4 a1_5 a1_6 a1_7 a1_8 a1_9 a1_10 a1_11 a1_12 a1_13 a1_14 a1_15 a1_16 l1_17 l1_18 l1_19))) else (gazetteerref21_Same.j0 k true a0_0 a0_1 a0_2 a0_3 a0_4 a0_5 a0_6 a0_7 a0_8 a0_9 a0_10 a0_11 a0_12 a0_13 a0_14 a0_15 a0_16 l0_17 l0_18 l0_19 a1_0 a1_1 a1_2 a1_3 a1_4 a1_5 a1_6 a1_7 a1_8 a1_9 a1_10 a1_11 a1_12 a1_13 a1_14 a1_15 a1_16 l1_17 l1_18 l1_19)) else (gazetteerref21_Same.j0 k true a0_0 a0_1 a0_2 a0_3 a0_4 a0_5 a0_6 a0_7 a0_8 a0_9 a0_10 a0_11 a0_12 a0_13 a0_14 a0_15 a0_16 l0_17 l0_18 l0_19 a1_0 a1_1 a1_2 a1_3 a1_4 a1_5 a1_6 a1_7 a1_8 a1_9 a1_10 a1_11 a1_12 a1_13 a1_14 a1_15 a1_16 l1_17 l1_18 l1_19)
set_option maxHeartbeats 8000000 in
set_option maxRecDepth 100000 in
theorem gazetteerref21_Same.calls (k : Nat) (a0_0 : Int) (a0_1 : Int) (a0_2 : Bool) (a0_3 : Int) (a0_4 : Int) (a0_5 : Bool) (a0_6 : Int) (a0_7 : Int) (a0_8 : Int) (a0_9 : Int) (a0_10 : Int) (a0_11 : Int) (a0_12 : Int) (a0_13 : Int) (a0_14 : Int) (a0_15 : Int) (a0_16 : Int) (A0_17 : Option Addr) (c0_17 : Nat) (l0_17 : List (S63)) (A0_18 : Option Addr) (c0_18 : Nat) (l0_18 : List Int) (A0_19 : Option Addr) (c0_19 : Nat) (l0_19 : List Int) (a1_0 : Int) (a1_1 : Int) (a1_2 : Bool) (a1_3 : Int) (a1_4 : Int) (a1_5 : Bool) (a1_6 : Int) (a1_7 : Int) (a1_8 : Int) (a1_9 : Int) (a1_10 : Int) (a1_11 : Int) (a1_12 : Int) (a1_13 : Int) (a1_14 : Int) (a1_15 : Int) (a1_16 : Int) (A1_17 : Option Addr) (c1_17 : Nat) (l1_17 : List (S63)) (A1_18 : Option Addr) (c1_18 : Nat) (l1_18 : List Int) (A1_19 : Option Addr) (c1_19 : Nat) (l1_19 : List Int) (r : Bool) (w : World) (hr0_17 : Kd.C k63 w A0_17 l0_17.length l0_17) (hc0_17 : l0_17.length ≤ c0_17) (hr0_18 : Kd.C (Kd.int .u32) w A0_18 l0_18.length l0_18) (hc0_18 : l0_18.length ≤ c0_18) (hr0_19 : Kd.C (Kd.int .u32) w A0_19 l0_19.length l0_19) (hc0_19 : l0_19.length ≤ c0_19) (hr1_17 : Kd.C k63 w A1_17 l1_17.length l1_17) (hc1_17 : l1_17.length ≤ c1_17) (hr1_18 : Kd.C (Kd.int .u32) w A1_18 l1_18.length l1_18) (hc1_18 : l1_18.length ≤ c1_18) (hr1_19 : Kd.C (Kd.int .u32) w A1_19 l1_19.length l1_19) (hc1_19 : l1_19.length ≤ c1_19) (h : gazetteerref21_Same.f k a0_0 a0_1 a0_2 a0_3 a0_4 a0_5 a0_6 a0_7 a0_8 a0_9 a0_10 a0_11 a0_12 a0_13 a0_14 a0_15 a0_16 l0_17 l0_18 l0_19 a1_0 a1_1 a1_2 a1_3 a1_4 a1_5 a1_6 a1_7 a1_8 a1_9 a1_10 a1_11 a1_12 a1_13 a1_14 a1_15 a1_16 l1_17 l1_18 l1_19 = some r) :
    Calls Tryd.prog 15 #[.agg #[.int .i64 a0_0, .int .u64 a0_1, .bool a0_2, .int .u64 a0_3, .int .i64 a0_4, .bool a0_5, .int .u32 a0_6, .int .i64 a0_7, .int .i64 a0_8, .int .i64 a0_9, .int .i64 a0_10, .int .i64 a0_11, .int .i64 a0_12, .int .i64 a0_13, .int .i64 a0_14, .int .i64 a0_15, .int .i64 a0_16, .slice A0_17 l0_17.length c0_17, .slice A0_18 l0_18.length c0_18, .slice A0_19 l0_19.length c0_19], .agg #[.int .i64 a1_0, .int .u64 a1_1, .bool a1_2, .int .u64 a1_3, .int .i64 a1_4, .bool a1_5, .int .u32 a1_6, .int .i64 a1_7, .int .i64 a1_8, .int .i64 a1_9, .int .i64 a1_10, .int .i64 a1_11, .int .i64 a1_12, .int .i64 a1_13, .int .i64 a1_14, .int .i64 a1_15, .int .i64 a1_16, .slice A1_17 l1_17.length c1_17, .slice A1_18 l1_18.length c1_18, .slice A1_19 l1_19.length c1_19]] w fun e w' => e = .returned (.bool r) ∧ Below w.heap.size w w' := by
  have hu33 := Tryd.underlying33
  have hu27 := Tryd.underlying27
  have hu31 := Tryd.underlying31
  have HR0_17 := Aside0.mk hr0_17
  have HC0_17 := Aside0.mk hc0_17
  clear hr0_17 hc0_17
  have HR0_18 := Aside0.mk hr0_18
  have HC0_18 := Aside0.mk hc0_18
  clear hr0_18 hc0_18
  have HR0_19 := Aside0.mk hr0_19
  have HC0_19 := Aside0.mk hc0_19
  clear hr0_19 hc0_19
  have HR1_17 := Aside0.mk hr1_17
  have HC1_17 := Aside0.mk hc1_17
  clear hr1_17 hc1_17
  have HR1_18 := Aside0.mk hr1_18
  have HC1_18 := Aside0.mk hc1_18
  clear hr1_18 hc1_18
  have HR1_19 := Aside0.mk hr1_19
  have HC1_19 := Aside0.mk hc1_19
  clear hr1_19 hc1_19
  have HB := Aside0.mk (Below.refl w.heap.size w)
  have H : (if a0_0 = a1_0 then (if a0_1 = a1_1 then (if (a0_2 != a1_2) = true then (gazetteerref21_Same.j0 k true a0_0 a0_1 a0_2 a0_3 a0_4 a0_5 a0_6 a0_7 a0_8 a0_9 a0_10 a0_11 a0_12 a0_13 a0_14 a0_15 a0_16 l0_17 l0_18 l0_19 a1_0 a1_1 a1_2 a1_3 a1_4 a1_5 a1_6 a1_7 a1_8 a1_9 a1_10 a1_11 a1_12 a1_13 a1_14 a1_15 a1_16 l1_17 l1_18 l1_19) else (if a0_3 = a1_3 then (if (!(a0_4 == a1_4) || (!(a0_5 == a1_5) || (!(a0_6 == a1_6) || ((!(a0_7 == a1_7) || (!(a0_8 == a1_8) || (!(a0_9 == a1_9) || (!(a0_10 == a1_10))))) || (!(a0_11 == a1_11)))))) = true then (gazetteerref21_Same.j0 k true a0_0 a0_1 a0_2 a0_3 a0_4 a0_5 a0_6 a0_7 a0_8 a0_9 a0_10 a0_11 a0_12 a0_13 a0_14 a0_15 a0_16 l0_17 l0_18 l0_19 a1_0 a1_1 a1_2 a1_3 a1_4 a1_5 a1_6 a1_7 a1_8 a1_9 a1_10 a1_11 a1_12 a1_13 a1_14 a1_15 a1_16 l1_17 l1_18 l1_19) else (if a0_12 = a1_12 then ((gazetteerref13_Same.f k a0_13 a0_14 a0_15 a0_16 l0_17 l0_18 a1_13 a1_14 a1_15 a1_16 l1_17 l1_18).bind fun t142 => (if t142 = true then (gazetteerref21_Same.j0 k ((l0_19.length : Int) != (l1_19.length : Int)) a0_0 a0_1 a0_2 a0_3 a0_4 a0_5 a0_6 a0_7 a0_8 a0_9 a0_10 a0_11 a0_12 a0_13 a0_14 a0_15 a0_16 l0_17 l0_18 l0_19 a1_0 a1_1 a1_2 a1_3 a1_4 a1_5 a1_6 a1_7 a1_8 a1_9 a1_10 a1_11 a1_12 a1_13 a1_14 a1_15 a1_16 l1_17 l1_18 l1_19) else (gazetteerref21_Same.j0 k true a0_0 a0_1 a0_2 a0_3 a0_4 a0_5 a0_6 a0_7 a0_8 a0_9 a0_10 a0_11 a0_12 a0_13 a0_14 a0_15 a0_16 l0_17 l0_18 l0_19 a1_0 a1_1 a1_2 a1_3 a1_4 a1_5 a1_6 a1_7 a1_8 a1_9 a1_10 a1_11 a1_12 a1_13 a1_14 a1_15 a1_16 l1_17 l1_18 l1_19))) else (gazetteerref21_Same.j0 k true a0_0 a0_1 a0_2 a0_3 a0_4 a0_5 a0_6 a0_7 a0_8 a0_9 a0_10 a0_11 a0_12 a0_13 a0_14 a0_15 a0_16 l0_17 l0_18 l0_19 a1_0 a1_1 a1_2 a1_3 a1_4 a1_5 a1_6 a1_7 a1_8 a1_9 a1_10 a1_11 a1_12 a1_13 a1_14 a1_15 a1_16 l1_17 l1_18 l1_19))) else (gazetteerref21_Same.j0 k true a0_0 a0_1 a0_2 a0_3 a0_4 a0_5 a0_6 a0_7 a0_8 a0_9 a0_10 a0_11 a0_12 a0_13 a0_14 a0_15 a0_16 l0_17 l0_18 l0_19 a1_0 a1_1 a1_2 a1_3 a1_4 a1_5 a1_6 a1_7 a1_8 a1_9 a1_10 a1_11 a1_12 a1_13 a1_14 a1_15 a1_16 l1_17 l1_18 l1_19))) else (gazetteerref21_Same.j0 k true a0_0 a0_1 a0_2 a0_3 a0_4 a0_5 a0_6 a0_7 a0_8 a0_9 a0_10 a0_11 a0_12 a0_13 a0_14 a0_15 a0_16 l0_17 l0_18 l0_19 a1_0 a1_1 a1_2 a1_3 a1_4 a1_5 a1_6 a1_7 a1_8 a1_9 a1_10 a1_11 a1_12 a1_13 a1_14 a1_15 a1_16 l1_17 l1_18 l1_19)) else (gazetteerref21_Same.j0 k true a0_0 a0_1 a0_2 a0_3 a0_4 a0_5 a0_6 a0_7 a0_8 a0_9 a0_10 a0_11 a0_12 a0_13 a0_14 a0_15 a0_16 l0_17 l0_18 l0_19 a1_0 a1_1 a1_2 a1_3 a1_4 a1_5 a1_6 a1_7 a1_8 a1_9 a1_10 a1_11 a1_12 a1_13 a1_14 a1_15 a1_16 l1_17 l1_18 l1_19)) = some r := h
  clear h
  have HC3 := Aside0.mk H
  clear H
  go_enter Tryd.func15, Tryd.ntmps15
  go_upto_region 1 with (first | ((with_reducible refine gate_dst (N := 2) rfl ?_); (try (refine gate_guard (by rfl) ?_; dsimp only)); refine box_event ?hg (N := 2) ?hd (cs := #[.int .i64 a0_0, .int .u64 a0_1, .bool a0_2, .int .u64 a0_3, .int .i64 a0_4, .bool a0_5, .int .u32 a0_6, .int .i64 a0_7, .int .i64 a0_8, .int .i64 a0_9, .int .i64 a0_10, .int .i64 a0_11, .int .i64 a0_12, .int .i64 a0_13, .int .i64 a0_14, .int .i64 a0_15, .int .i64 a0_16, .slice A0_17 l0_17.length c0_17, .slice A0_18 l0_18.length c0_18, .slice A0_19 l0_19.length c0_19]) (t := 33) ?hr ?_; (case hd => rfl); (case hg => rfl); (case hr => first | (go_simp; done) | (go_simp; rfl)); intro gb140 hg w4 hbox hb; have n0_ := Aside0.mk (below_step (by repeat (first | (with_reducible first | exact HB.out | apply below_alloc | apply pw_below_drewN | apply below_drew1) | exact HB.out)) hb); have n1_ := Aside0.mk (hbox); have n2_ := Aside0.mk ((by rw [hg]; exact (below_size (by repeat (first | (with_reducible first | exact HB.out | apply below_alloc | apply pw_below_drewN | apply below_drew1) | exact HB.out))) : w.heap.size ≤ gb140)); have n3_ := Aside0.mk ((by rw [hg]; exact (below_size (by repeat (first | (with_reducible first | exact HB.out | apply below_alloc | apply pw_below_drewN | apply below_drew1) | exact HB.out))) : w.heap.size ≤ gb140)); clear HB; have HB := n0_; have BK140 := n1_; have GW140 := n2_; have GE140 := n3_; clear n0_ n1_ n2_ n3_; clear hb hbox hg) | ((with_reducible refine gate_dst (N := 3) rfl ?_); (try (refine gate_guard (by rfl) ?_; dsimp only)); refine box_event ?hg (N := 3) ?hd (cs := #[.int .i64 a1_0, .int .u64 a1_1, .bool a1_2, .int .u64 a1_3, .int .i64 a1_4, .bool a1_5, .int .u32 a1_6, .int .i64 a1_7, .int .i64 a1_8, .int .i64 a1_9, .int .i64 a1_10, .int .i64 a1_11, .int .i64 a1_12, .int .i64 a1_13, .int .i64 a1_14, .int .i64 a1_15, .int .i64 a1_16, .slice A1_17 l1_17.length c1_17, .slice A1_18 l1_18.length c1_18, .slice A1_19 l1_19.length c1_19]) (t := 33) ?hr ?_; (case hd => rfl); (case hg => rfl); (case hr => first | (go_simp; done) | (go_simp; rfl)); intro gb141 hg w5 hbox hb; have n0_ := Aside0.mk (blk_below (g := gb140) (o := .cells #[.int .i64 a0_0, .int .u64 a0_1, .bool a0_2, .int .u64 a0_3, .int .i64 a0_4, .bool a0_5, .int .u32 a0_6, .int .i64 a0_7, .int .i64 a0_8, .int .i64 a0_9, .int .i64 a0_10, .int .i64 a0_11, .int .i64 a0_12, .int .i64 a0_13, .int .i64 a0_14, .int .i64 a0_15, .int .i64 a0_16, .slice A0_17 l0_17.length c0_17, .slice A0_18 l0_18.length c0_18, .slice A0_19 l0_19.length c0_19] 33 (0, 0)) (by (with_reducible repeat (first | refine blk_drewN ?_ _ | refine blk_drew ?_ | refine blk_alloc ?_ _)); exact BK140.out) hb); have n1_ := Aside0.mk (below_step (by repeat (first | (with_reducible first | exact HB.out | apply below_alloc | apply pw_below_drewN | apply below_drew1 | refine below_set ?_ GE140.out) | exact HB.out)) hb); have n2_ := Aside0.mk (hbox); have n3_ := Aside0.mk ((by rw [hg]; exact (below_size (by repeat (first | (with_reducible first | exact HB.out | apply below_alloc | apply pw_below_drewN | apply below_drew1 | refine below_set ?_ GE140.out) | exact HB.out))) : w.heap.size ≤ gb141)); have n4_ := Aside0.mk ((by rw [hg]; exact (below_size (by repeat (first | (with_reducible first | exact HB.out | apply below_alloc | apply pw_below_drewN | apply below_drew1 | refine below_set ?_ GE140.out) | exact HB.out))) : w.heap.size ≤ gb141)); have n5_ := Aside0.mk ((by rw [hg]; exact Nat.ne_of_lt (blk_lt (g := gb140) (o := .cells #[.int .i64 a0_0, .int .u64 a0_1, .bool a0_2, .int .u64 a0_3, .int .i64 a0_4, .bool a0_5, .int .u32 a0_6, .int .i64 a0_7, .int .i64 a0_8, .int .i64 a0_9, .int .i64 a0_10, .int .i64 a0_11, .int .i64 a0_12, .int .i64 a0_13, .int .i64 a0_14, .int .i64 a0_15, .int .i64 a0_16, .slice A0_17 l0_17.length c0_17, .slice A0_18 l0_18.length c0_18, .slice A0_19 l0_19.length c0_19] 33 (0, 0)) (by (with_reducible repeat (first | refine blk_drewN ?_ _ | refine blk_drew ?_ | refine blk_alloc ?_ _)); exact BK140.out)) : gb140 ≠ gb141)); have n6_ := Aside0.mk ((by rw [hg]; exact Nat.ne_of_gt (blk_lt (g := gb140) (o := .cells #[.int .i64 a0_0, .int .u64 a0_1, .bool a0_2, .int .u64 a0_3, .int .i64 a0_4, .bool a0_5, .int .u32 a0_6, .int .i64 a0_7, .int .i64 a0_8, .int .i64 a0_9, .int .i64 a0_10, .int .i64 a0_11, .int .i64 a0_12, .int .i64 a0_13, .int .i64 a0_14, .int .i64 a0_15, .int .i64 a0_16, .slice A0_17 l0_17.length c0_17, .slice A0_18 l0_18.length c0_18, .slice A0_19 l0_19.length c0_19] 33 (0, 0)) (by (with_reducible repeat (first | refine blk_drewN ?_ _ | refine blk_drew ?_ | refine blk_alloc ?_ _)); exact BK140.out)) : gb141 ≠ gb140)); clear BK140; clear HB; have BK140 := n0_; have HB := n1_; have BK141 := n2_; have GW141 := n3_; have GE141 := n4_; have NB140_141 := n5_; have NB141_140 := n6_; clear n0_ n1_ n2_ n3_ n4_ n5_ n6_; clear hb hbox hg))
  repeat (go_quiet (first | ((with_reducible refine gate_dst (N := 2) rfl ?_); (try (refine gate_guard (by rfl) ?_; dsimp only)); refine box_event ?hg (N := 2) ?hd (cs := #[.int .i64 a0_0, .int .u64 a0_1, .bool a0_2, .int .u64 a0_3, .int .i64 a0_4, .bool a0_5, .int .u32 a0_6, .int .i64 a0_7, .int .i64 a0_8, .int .i64 a0_9, .int .i64 a0_10, .int .i64 a0_11, .int .i64 a0_12, .int .i64 a0_13, .int .i64 a0_14, .int .i64 a0_15, .int .i64 a0_16, .slice A0_17 l0_17.length c0_17, .slice A0_18 l0_18.length c0_18, .slice A0_19 l0_19.length c0_19]) (t := 33) ?hr ?_; (case hd => rfl); (case hg => rfl); (case hr => first | (go_simp; done) | (go_simp; rfl)); intro gb140 hg w4 hbox hb; have n0_ := Aside0.mk (below_step (by repeat (first | (with_reducible first | exact HB.out | apply below_alloc | apply pw_below_drewN | apply below_drew1) | exact HB.out)) hb); have n1_ := Aside0.mk (hbox); have n2_ := Aside0.mk ((by rw [hg]; exact (below_size (by repeat (first | (with_reducible first | exact HB.out | apply below_alloc | apply pw_below_drewN | apply below_drew1) | exact HB.out))) : w.heap.size ≤ gb140)); have n3_ := Aside0.mk ((by rw [hg]; exact (below_size (by repeat (first | (with_reducible first | exact HB.out | apply below_alloc | apply pw_below_drewN | apply below_drew1) | exact HB.out))) : w.heap.size ≤ gb140)); clear HB; have HB := n0_; have BK140 := n1_; have GW140 := n2_; have GE140 := n3_; clear n0_ n1_ n2_ n3_; clear hb hbox hg) | ((with_reducible refine gate_dst (N := 3) rfl ?_); (try (refine gate_guard (by rfl) ?_; dsimp only)); refine box_event ?hg (N := 3) ?hd (cs := #[.int .i64 a1_0, .int .u64 a1_1, .bool a1_2, .int .u64 a1_3, .int .i64 a1_4, .bool a1_5, .int .u32 a1_6, .int .i64 a1_7, .int .i64 a1_8, .int .i64 a1_9, .int .i64 a1_10, .int .i64 a1_11, .int .i64 a1_12, .int .i64 a1_13, .int .i64 a1_14, .int .i64 a1_15, .int .i64 a1_16, .slice A1_17 l1_17.length c1_17, .slice A1_18 l1_18.length c1_18, .slice A1_19 l1_19.length c1_19]) (t := 33) ?hr ?_; (case hd => rfl); (case hg => rfl); (case hr => first | (go_simp; done) | (go_simp; rfl)); intro gb141 hg w5 hbox hb; have n0_ := Aside0.mk (blk_below (g := gb140) (o := .cells #[.int .i64 a0_0, .int .u64 a0_1, .bool a0_2, .int .u64 a0_3, .int .i64 a0_4, .bool a0_5, .int .u32 a0_6, .int .i64 a0_7, .int .i64 a0_8, .int .i64 a0_9, .int .i64 a0_10, .int .i64 a0_11, .int .i64 a0_12, .int .i64 a0_13, .int .i64 a0_14, .int .i64 a0_15, .int .i64 a0_16, .slice A0_17 l0_17.length c0_17, .slice A0_18 l0_18.length c0_18, .slice A0_19 l0_19.length c0_19] 33 (0, 0)) (by (with_reducible repeat (first | refine blk_drewN ?_ _ | refine blk_drew ?_ | refine blk_alloc ?_ _)); exact BK140.out) hb); have n1_ := Aside0.mk (below_step (by repeat (first | (with_reducible first | exact HB.out | apply below_alloc | apply pw_below_drewN | apply below_drew1 | refine below_set ?_ GE140.out) | exact HB.out)) hb); have n2_ := Aside0.mk (hbox); have n3_ := Aside0.mk ((by rw [hg]; exact (below_size (by repeat (first | (with_reducible first | exact HB.out | apply below_alloc | apply pw_below_drewN | apply below_drew1 | refine below_set ?_ GE140.out) | exact HB.out))) : w.heap.size ≤ gb141)); have n4_ := Aside0.mk ((by rw [hg]; exact (below_size (by repeat (first | (with_reducible first | exact HB.out | apply below_alloc | apply pw_below_drewN | apply below_drew1 | refine below_set ?_ GE140.out) | exact HB.out))) : w.heap.size ≤ gb141)); have n5_ := Aside0.mk ((by rw [hg]; exact Nat.ne_of_lt (blk_lt (g := gb140) (o := .cells #[.int .i64 a0_0, .int .u64 a0_1, .bool a0_2, .int .u64 a0_3, .int .i64 a0_4, .bool a0_5, .int .u32 a0_6, .int .i64 a0_7, .int .i64 a0_8, .int .i64 a0_9, .int .i64 a0_10, .int .i64 a0_11, .int .i64 a0_12, .int .i64 a0_13, .int .i64 a0_14, .int .i64 a0_15, .int .i64 a0_16, .slice A0_17 l0_17.length c0_17, .slice A0_18 l0_18.length c0_18, .slice A0_19 l0_19.length c0_19] 33 (0, 0)) (by (with_reducible repeat (first | refine blk_drewN ?_ _ | refine blk_drew ?_ | refine blk_alloc ?_ _)); exact BK140.out)) : gb140 ≠ gb141)); have n6_ := Aside0.mk ((by rw [hg]; exact Nat.ne_of_gt (blk_lt (g := gb140) (o := .cells #[.int .i64 a0_0, .int .u64 a0_1, .bool a0_2, .int .u64 a0_3, .int .i64 a0_4, .bool a0_5, .int .u32 a0_6, .int .i64 a0_7, .int .i64 a0_8, .int .i64 a0_9, .int .i64 a0_10, .int .i64 a0_11, .int .i64 a0_12, .int .i64 a0_13, .int .i64 a0_14, .int .i64 a0_15, .int .i64 a0_16, .slice A0_17 l0_17.length c0_17, .slice A0_18 l0_18.length c0_18, .slice A0_19 l0_19.length c0_19] 33 (0, 0)) (by (with_reducible repeat (first | refine blk_drewN ?_ _ | refine blk_drew ?_ | refine blk_alloc ?_ _)); exact BK140.out)) : gb141 ≠ gb140)); clear BK140; clear HB; have BK140 := n0_; have HB := n1_; have BK141 := n2_; have GW141 := n3_; have GE141 := n4_; have NB140_141 := n5_; have NB141_140 := n6_; clear n0_ n1_ n2_ n3_ n4_ n5_ n6_; clear hb hbox hg)); go_upto_region 1 with (first | ((with_reducible refine gate_dst (N := 2) rfl ?_); (try (refine gate_guard (by rfl) ?_; dsimp only)); refine box_event ?hg (N := 2) ?hd (cs := #[.int .i64 a0_0, .int .u64 a0_1, .bool a0_2, .int .u64 a0_3, .int .i64 a0_4, .bool a0_5, .int .u32 a0_6, .int .i64 a0_7, .int .i64 a0_8, .int .i64 a0_9, .int .i64 a0_10, .int .i64 a0_11, .int .i64 a0_12, .int .i64 a0_13, .int .i64 a0_14, .int .i64 a0_15, .int .i64 a0_16, .slice A0_17 l0_17.length c0_17, .slice A0_18 l0_18.length c0_18, .slice A0_19 l0_19.length c0_19]) (t := 33) ?hr ?_; (case hd => rfl); (case hg => rfl); (case hr => first | (go_simp; done) | (go_simp; rfl)); intro gb140 hg w4 hbox hb; have n0_ := Aside0.mk (below_step (by repeat (first | (with_reducible first | exact HB.out | apply below_alloc | apply pw_below_drewN | apply below_drew1) | exact HB.out)) hb); have n1_ := Aside0.mk (hbox); have n2_ := Aside0.mk ((by rw [hg]; exact (below_size (by repeat (first | (with_reducible first | exact HB.out | apply below_alloc | apply pw_below_drewN | apply below_drew1) | exact HB.out))) : w.heap.size ≤ gb140)); have n3_ := Aside0.mk ((by rw [hg]; exact (below_size (by repeat (first | (with_reducible first | exact HB.out | apply below_alloc | apply pw_below_drewN | apply below_drew1) | exact HB.out))) : w.heap.size ≤ gb140)); clear HB; have HB := n0_; have BK140 := n1_; have GW140 := n2_; have GE140 := n3_; clear n0_ n1_ n2_ n3_; clear hb hbox hg) | ((with_reducible refine gate_dst (N := 3) rfl ?_); (try (refine gate_guard (by rfl) ?_; dsimp only)); refine box_event ?hg (N := 3) ?hd (cs := #[.int .i64 a1_0, .int .u64 a1_1, .bool a1_2, .int .u64 a1_3, .int .i64 a1_4, .bool a1_5, .int .u32 a1_6, .int .i64 a1_7, .int .i64 a1_8, .int .i64 a1_9, .int .i64 a1_10, .int .i64 a1_11, .int .i64 a1_12, .int .i64 a1_13, .int .i64 a1_14, .int .i64 a1_15, .int .i64 a1_16, .slice A1_17 l1_17.length c1_17, .slice A1_18 l1_18.length c1_18, .slice A1_19 l1_19.length c1_19]) (t := 33) ?hr ?_; (case hd => rfl); (case hg => rfl); (case hr => first | (go_simp; done) | (go_simp; rfl)); intro gb141 hg w5 hbox hb; have n0_ := Aside0.mk (blk_below (g := gb140) (o := .cells #[.int .i64 a0_0, .int .u64 a0_1, .bool a0_2, .int .u64 a0_3, .int .i64 a0_4, .bool a0_5, .int .u32 a0_6, .int .i64 a0_7, .int .i64 a0_8, .int .i64 a0_9, .int .i64 a0_10, .int .i64 a0_11, .int .i64 a0_12, .int .i64 a0_13, .int .i64 a0_14, .int .i64 a0_15, .int .i64 a0_16, .slice A0_17 l0_17.length c0_17, .slice A0_18 l0_18.length c0_18, .slice A0_19 l0_19.length c0_19] 33 (0, 0)) (by (with_reducible repeat (first | refine blk_drewN ?_ _ | refine blk_drew ?_ | refine blk_alloc ?_ _)); exact BK140.out) hb); have n1_ := Aside0.mk (below_step (by repeat (first | (with_reducible first | exact HB.out | apply below_alloc | apply pw_below_drewN | apply below_drew1 | refine below_set ?_ GE140.out) | exact HB.out)) hb); have n2_ := Aside0.mk (hbox); have n3_ := Aside0.mk ((by rw [hg]; exact (below_size (by repeat (first | (with_reducible first | exact HB.out | apply below_alloc | apply pw_below_drewN | apply below_drew1 | refine below_set ?_ GE140.out) | exact HB.out))) : w.heap.size ≤ gb141)); have n4_ := Aside0.mk ((by rw [hg]; exact (below_size (by repeat (first | (with_reducible first | exact HB.out | apply below_alloc | apply pw_below_drewN | apply below_drew1 | refine below_set ?_ GE140.out) | exact HB.out))) : w.heap.size ≤ gb141)); have n5_ := Aside0.mk ((by rw [hg]; exact Nat.ne_of_lt (blk_lt (g := gb140) (o := .cells #[.int .i64 a0_0, .int .u64 a0_1, .bool a0_2, .int .u64 a0_3, .int .i64 a0_4, .bool a0_5, .int .u32 a0_6, .int .i64 a0_7, .int .i64 a0_8, .int .i64 a0_9, .int .i64 a0_10, .int .i64 a0_11, .int .i64 a0_12, .int .i64 a0_13, .int .i64 a0_14, .int .i64 a0_15, .int .i64 a0_16, .slice A0_17 l0_17.length c0_17, .slice A0_18 l0_18.length c0_18, .slice A0_19 l0_19.length c0_19] 33 (0, 0)) (by (with_reducible repeat (first | refine blk_drewN ?_ _ | refine blk_drew ?_ | refine blk_alloc ?_ _)); exact BK140.out)) : gb140 ≠ gb141)); have n6_ := Aside0.mk ((by rw [hg]; exact Nat.ne_of_gt (blk_lt (g := gb140) (o := .cells #[.int .i64 a0_0, .int .u64 a0_1, .bool a0_2, .int .u64 a0_3, .int .i64 a0_4, .bool a0_5, .int .u32 a0_6, .int .i64 a0_7, .int .i64 a0_8, .int .i64 a0_9, .int .i64 a0_10, .int .i64 a0_11, .int .i64 a0_12, .int .i64 a0_13, .int .i64 a0_14, .int .i64 a0_15, .int .i64 a0_16, .slice A0_17 l0_17.length c0_17, .slice A0_18 l0_18.length c0_18, .slice A0_19 l0_19.length c0_19] 33 (0, 0)) (by (with_reducible repeat (first | refine blk_drewN ?_ _ | refine blk_drew ?_ | refine blk_alloc ?_ _)); exact BK140.out)) : gb141 ≠ gb140)); clear BK140; clear HB; have BK140 := n0_; have HB := n1_; have BK141 := n2_; have GW141 := n3_; have GE141 := n4_; have NB140_141 := n5_; have NB141_140 := n6_; clear n0_ n1_ n2_ n3_ n4_ n5_ n6_; clear hb hbox hg)))
  (try simp only [Act.put, List.setIfInBounds_toArray, List.set_cons_zero, List.set_cons_succ])
  go_cut [62] (fun v62 wc => ∃ (kq : Nat) (x62_2 : Bool), v62 = .bool x62_2 ∧ Aside0 (gazetteerref21_Same.j0 kq x62_2 a0_0 a0_1 a0_2 a0_3 a0_4 a0_5 a0_6 a0_7 a0_8 a0_9 a0_10 a0_11 a0_12 a0_13 a0_14 a0_15 a0_16 l0_17 l0_18 l0_19 a1_0 a1_1 a1_2 a1_3 a1_4 a1_5 a1_6 a1_7 a1_8 a1_9 a1_10 a1_11 a1_12 a1_13 a1_14 a1_15 a1_16 l1_17 l1_18 l1_19 = some r) ∧ Aside0 (kq ≤ k) ∧ Aside0 (wc.heap[gb140]? = some (.cells #[.int .i64 a0_0, .int .u64 a0_1, .bool a0_2, .int .u64 a0_3, .int .i64 a0_4, .bool a0_5, .int .u32 a0_6, .int .i64 a0_7, .int .i64 a0_8, .int .i64 a0_9, .int .i64 a0_10, .int .i64 a0_11, .int .i64 a0_12, .int .i64 a0_13, .int .i64 a0_14, .int .i64 a0_15, .int .i64 a0_16, (.slice A0_17 l0_17.length c0_17), (.slice A0_18 l0_18.length c0_18), (.slice A0_19 l0_19.length c0_19)] 33 (0, 0))) ∧ Aside0 (wc.heap[gb141]? = some (.cells #[.int .i64 a1_0, .int .u64 a1_1, .bool a1_2, .int .u64 a1_3, .int .i64 a1_4, .bool a1_5, .int .u32 a1_6, .int .i64 a1_7, .int .i64 a1_8, .int .i64 a1_9, .int .i64 a1_10, .int .i64 a1_11, .int .i64 a1_12, .int .i64 a1_13, .int .i64 a1_14, .int .i64 a1_15, .int .i64 a1_16, (.slice A1_17 l1_17.length c1_17), (.slice A1_18 l1_18.length c1_18), (.slice A1_19 l1_19.length c1_19)] 33 (0, 0))) ∧ Aside0 (Below w.heap.size w wc))
  case first =>
    have H := HC3.out
    clear HC3
    by_cases c6 : a0_0 = a1_0
    · rw [if_pos c6] at H
      have c6b0 : (a0_0 == a1_0) = true := beq_iff_eq.mpr c6
      have c6b1 : (a0_0 != a1_0) = false := bne_eq_false_iff_eq.mpr c6
      clear c6
      (first | rw [c6b0] | (simp only [i64_w, i32_w]; rw [c6b0]) | skip)
      by_cases c7 : a0_1 = a1_1
      · rw [if_pos c7] at H
        have c7b0 : (a0_1 == a1_1) = true := beq_iff_eq.mpr c7
        have c7b1 : (a0_1 != a1_1) = false := bne_eq_false_iff_eq.mpr c7
        clear c7
        by_cases c8 : (a0_2 != a1_2) = true
        · rw [if_pos c8] at H
          have c8b0 : (a0_2 != a1_2) = true := c8
          (try (have c8b1 : decide (a0_2 = a1_2) = false := by simpa using c8))
          (try (have c8b2 : (a0_2 == a1_2) = false := by simpa using c8))
          (try (have c8b3 : ¬ (a0_2 = a1_2) := by simpa using c8))
          clear c8
          have H' := Aside0.mk H
          clear H
          have hnb9 := NB140_141.out
          have hnc9 := NB141_140.out
          have hcz10_0 : w5.cell? ⟨gb140, 0, none⟩ = some (.int .i64 a0_0) := (blk_cell BK140.out 0).trans rfl
          have hcz10_1 : w5.cell? ⟨gb140, 1, none⟩ = some (.int .u64 a0_1) := (blk_cell BK140.out 1).trans rfl
          have hcz10_2 : w5.cell? ⟨gb140, 2, none⟩ = some (.bool a0_2) := (blk_cell BK140.out 2).trans rfl
          have hcz10_3 : w5.cell? ⟨gb140, 3, none⟩ = some (.int .u64 a0_3) := (blk_cell BK140.out 3).trans rfl
          have hcz10_4 : w5.cell? ⟨gb140, 4, none⟩ = some (.int .i64 a0_4) := (blk_cell BK140.out 4).trans rfl
          have hcz10_5 : w5.cell? ⟨gb140, 5, none⟩ = some (.bool a0_5) := (blk_cell BK140.out 5).trans rfl
          have hcz10_6 : w5.cell? ⟨gb140, 6, none⟩ = some (.int .u32 a0_6) := (blk_cell BK140.out 6).trans rfl
          have hcz10_7 : w5.cell? ⟨gb140, 7, none⟩ = some (.int .i64 a0_7) := (blk_cell BK140.out 7).trans rfl
          have hcz10_8 : w5.cell? ⟨gb140, 8, none⟩ = some (.int .i64 a0_8) := (blk_cell BK140.out 8).trans rfl
          have hcz10_9 : w5.cell? ⟨gb140, 9, none⟩ = some (.int .i64 a0_9) := (blk_cell BK140.out 9).trans rfl
          have hcz10_10 : w5.cell? ⟨gb140, 10, none⟩ = some (.int .i64 a0_10) := (blk_cell BK140.out 10).trans rfl
          have hcz10_11 : w5.cell? ⟨gb140, 11, none⟩ = some (.int .i64 a0_11) := (blk_cell BK140.out 11).trans rfl
          have hcz10_12 : w5.cell? ⟨gb140, 12, none⟩ = some (.int .i64 a0_12) := (blk_cell BK140.out 12).trans rfl
          have hcz10_13 : w5.cell? ⟨gb140, 13, none⟩ = some (.int .i64 a0_13) := (blk_cell BK140.out 13).trans rfl
          have hcz10_14 : w5.cell? ⟨gb140, 14, none⟩ = some (.int .i64 a0_14) := (blk_cell BK140.out 14).trans rfl
          have hcz10_15 : w5.cell? ⟨gb140, 15, none⟩ = some (.int .i64 a0_15) := (blk_cell BK140.out 15).trans rfl
          have hcz10_16 : w5.cell? ⟨gb140, 16, none⟩ = some (.int .i64 a0_16) := (blk_cell BK140.out 16).trans rfl
          have hcz10_17 : w5.cell? ⟨gb140, 17, none⟩ = some (.slice A0_17 l0_17.length c0_17) := (blk_cell BK140.out 17).trans rfl
          have hcz10_18 : w5.cell? ⟨gb140, 18, none⟩ = some (.slice A0_18 l0_18.length c0_18) := (blk_cell BK140.out 18).trans rfl
          have hcz10_19 : w5.cell? ⟨gb140, 19, none⟩ = some (.slice A0_19 l0_19.length c0_19) := (blk_cell BK140.out 19).trans rfl
          have hfz10_0 := blk_frozen BK140.out 0
          have hfz10_1 := blk_frozen BK140.out 1
          have hfz10_2 := blk_frozen BK140.out 2
          have hfz10_3 := blk_frozen BK140.out 3
          have hfz10_4 := blk_frozen BK140.out 4
          have hfz10_5 := blk_frozen BK140.out 5
          have hfz10_6 := blk_frozen BK140.out 6
          have hfz10_7 := blk_frozen BK140.out 7
          have hfz10_8 := blk_frozen BK140.out 8
          have hfz10_9 := blk_frozen BK140.out 9
          have hfz10_10 := blk_frozen BK140.out 10
          have hfz10_11 := blk_frozen BK140.out 11
          have hfz10_12 := blk_frozen BK140.out 12
          have hfz10_13 := blk_frozen BK140.out 13
          have hfz10_14 := blk_frozen BK140.out 14
          have hfz10_15 := blk_frozen BK140.out 15
          have hfz10_16 := blk_frozen BK140.out 16
          have hfz10_17 := blk_frozen BK140.out 17
          have hfz10_18 := blk_frozen BK140.out 18
          have hfz10_19 := blk_frozen BK140.out 19
          have hcz11_0 : w5.cell? ⟨gb141, 0, none⟩ = some (.int .i64 a1_0) := (blk_cell BK141.out 0).trans rfl
          have hcz11_1 : w5.cell? ⟨gb141, 1, none⟩ = some (.int .u64 a1_1) := (blk_cell BK141.out 1).trans rfl
          have hcz11_2 : w5.cell? ⟨gb141, 2, none⟩ = some (.bool a1_2) := (blk_cell BK141.out 2).trans rfl
          have hcz11_3 : w5.cell? ⟨gb141, 3, none⟩ = some (.int .u64 a1_3) := (blk_cell BK141.out 3).trans rfl
          have hcz11_4 : w5.cell? ⟨gb141, 4, none⟩ = some (.int .i64 a1_4) := (blk_cell BK141.out 4).trans rfl
          have hcz11_5 : w5.cell? ⟨gb141, 5, none⟩ = some (.bool a1_5) := (blk_cell BK141.out 5).trans rfl
          have hcz11_6 : w5.cell? ⟨gb141, 6, none⟩ = some (.int .u32 a1_6) := (blk_cell BK141.out 6).trans rfl
          have hcz11_7 : w5.cell? ⟨gb141, 7, none⟩ = some (.int .i64 a1_7) := (blk_cell BK141.out 7).trans rfl
          have hcz11_8 : w5.cell? ⟨gb141, 8, none⟩ = some (.int .i64 a1_8) := (blk_cell BK141.out 8).trans rfl
          have hcz11_9 : w5.cell? ⟨gb141, 9, none⟩ = some (.int .i64 a1_9) := (blk_cell BK141.out 9).trans rfl
          have hcz11_10 : w5.cell? ⟨gb141, 10, none⟩ = some (.int .i64 a1_10) := (blk_cell BK141.out 10).trans rfl
          have hcz11_11 : w5.cell? ⟨gb141, 11, none⟩ = some (.int .i64 a1_11) := (blk_cell BK141.out 11).trans rfl
          have hcz11_12 : w5.cell? ⟨gb141, 12, none⟩ = some (.int .i64 a1_12) := (blk_cell BK141.out 12).trans rfl
          have hcz11_13 : w5.cell? ⟨gb141, 13, none⟩ = some (.int .i64 a1_13) := (blk_cell BK141.out 13).trans rfl
          have hcz11_14 : w5.cell? ⟨gb141, 14, none⟩ = some (.int .i64 a1_14) := (blk_cell BK141.out 14).trans rfl
          have hcz11_15 : w5.cell? ⟨gb141, 15, none⟩ = some (.int .i64 a1_15) := (blk_cell BK141.out 15).trans rfl
          have hcz11_16 : w5.cell? ⟨gb141, 16, none⟩ = some (.int .i64 a1_16) := (blk_cell BK141.out 16).trans rfl
          have hcz11_17 : w5.cell? ⟨gb141, 17, none⟩ = some (.slice A1_17 l1_17.length c1_17) := (blk_cell BK141.out 17).trans rfl
          have hcz11_18 : w5.cell? ⟨gb141, 18, none⟩ = some (.slice A1_18 l1_18.length c1_18) := (blk_cell BK141.out 18).trans rfl
          have hcz11_19 : w5.cell? ⟨gb141, 19, none⟩ = some (.slice A1_19 l1_19.length c1_19) := (blk_cell BK141.out 19).trans rfl
          have hfz11_0 := blk_frozen BK141.out 0
          have hfz11_1 := blk_frozen BK141.out 1
          have hfz11_2 := blk_frozen BK141.out 2
          have hfz11_3 := blk_frozen BK141.out 3
          have hfz11_4 := blk_frozen BK141.out 4
          have hfz11_5 := blk_frozen BK141.out 5
          have hfz11_6 := blk_frozen BK141.out 6
          have hfz11_7 := blk_frozen BK141.out 7
          have hfz11_8 := blk_frozen BK141.out 8
          have hfz11_9 := blk_frozen BK141.out 9
          have hfz11_10 := blk_frozen BK141.out 10
          have hfz11_11 := blk_frozen BK141.out 11
          have hfz11_12 := blk_frozen BK141.out 12
          have hfz11_13 := blk_frozen BK141.out 13
          have hfz11_14 := blk_frozen BK141.out 14
          have hfz11_15 := blk_frozen BK141.out 15
          have hfz11_16 := blk_frozen BK141.out 16
          have hfz11_17 := blk_frozen BK141.out 17
          have hfz11_18 := blk_frozen BK141.out 18
          have hfz11_19 := blk_frozen BK141.out 19
          go_wp2
          repeat (go_quiet (fail); try go_wp2)
          go_meet
          case rel => exact ⟨_, (true), (by first | rfl | (simp; done) | (simp [*]; done)), H', ⟨by first | omega | exact Nat.le_refl _⟩, ⟨by (with_reducible repeat (first | refine blk_drewN ?_ _ | refine blk_drew ?_ | refine blk_alloc ?_ _)); exact BK140.out⟩, ⟨by (with_reducible repeat (first | refine blk_drewN ?_ _ | refine blk_drew ?_ | refine blk_alloc ?_ _)); exact BK141.out⟩, ⟨by repeat (first | (with_reducible first | exact HB.out | apply below_alloc | apply pw_below_drewN | apply below_drew1 | refine below_set ?_ GE140.out | refine below_set ?_ GE141.out) | exact HB.out)⟩⟩
        · rw [if_neg c8] at H
          have c8b0 : (a0_2 != a1_2) = false := by simpa using c8
          (try (have c8b1 : decide (a0_2 = a1_2) = true := by simpa using c8))
          (try (have c8b2 : (a0_2 == a1_2) = true := by simpa using c8))
          clear c8
          by_cases c12 : a0_3 = a1_3
          · rw [if_pos c12] at H
            have c12b0 : (a0_3 == a1_3) = true := beq_iff_eq.mpr c12
            have c12b1 : (a0_3 != a1_3) = false := bne_eq_false_iff_eq.mpr c12
            clear c12
            by_cases c13 : (!(a0_4 == a1_4) || (!(a0_5 == a1_5) || (!(a0_6 == a1_6) || ((!(a0_7 == a1_7) || (!(a0_8 == a1_8) || (!(a0_9 == a1_9) || (!(a0_10 == a1_10))))) || (!(a0_11 == a1_11)))))) = true
            · rw [if_pos c13] at H
              have c13b0 : (!(a0_4 == a1_4) || (!(a0_5 == a1_5) || (!(a0_6 == a1_6) || ((!(a0_7 == a1_7) || (!(a0_8 == a1_8) || (!(a0_9 == a1_9) || (!(a0_10 == a1_10))))) || (!(a0_11 == a1_11)))))) = true := c13
              clear c13
              have H' := Aside0.mk H
              clear H
              have hnb14 := NB140_141.out
              have hnc14 := NB141_140.out
              have hcz15_0 : w5.cell? ⟨gb140, 0, none⟩ = some (.int .i64 a0_0) := (blk_cell BK140.out 0).trans rfl
              have hcz15_1 : w5.cell? ⟨gb140, 1, none⟩ = some (.int .u64 a0_1) := (blk_cell BK140.out 1).trans rfl
              have hcz15_2 : w5.cell? ⟨gb140, 2, none⟩ = some (.bool a0_2) := (blk_cell BK140.out 2).trans rfl
              have hcz15_3 : w5.cell? ⟨gb140, 3, none⟩ = some (.int .u64 a0_3) := (blk_cell BK140.out 3).trans rfl
              have hcz15_4 : w5.cell? ⟨gb140, 4, none⟩ = some (.int .i64 a0_4) := (blk_cell BK140.out 4).trans rfl
              have hcz15_5 : w5.cell? ⟨gb140, 5, none⟩ = some (.bool a0_5) := (blk_cell BK140.out 5).trans rfl
              have hcz15_6 : w5.cell? ⟨gb140, 6, none⟩ = some (.int .u32 a0_6) := (blk_cell BK140.out 6).trans rfl
              have hcz15_7 : w5.cell? ⟨gb140, 7, none⟩ = some (.int .i64 a0_7) := (blk_cell BK140.out 7).trans rfl
              have hcz15_8 : w5.cell? ⟨gb140, 8, none⟩ = some (.int .i64 a0_8) := (blk_cell BK140.out 8).trans rfl
              have hcz15_9 : w5.cell? ⟨gb140, 9, none⟩ = some (.int .i64 a0_9) := (blk_cell BK140.out 9).trans rfl
              have hcz15_10 : w5.cell? ⟨gb140, 10, none⟩ = some (.int .i64 a0_10) := (blk_cell BK140.out 10).trans rfl
              have hcz15_11 : w5.cell? ⟨gb140, 11, none⟩ = some (.int .i64 a0_11) := (blk_cell BK140.out 11).trans rfl
              have hcz15_12 : w5.cell? ⟨gb140, 12, none⟩ = some (.int .i64 a0_12) := (blk_cell BK140.out 12).trans rfl
              have hcz15_13 : w5.cell? ⟨gb140, 13, none⟩ = some (.int .i64 a0_13) := (blk_cell BK140.out 13).trans rfl
              have hcz15_14 : w5.cell? ⟨gb140, 14, none⟩ = some (.int .i64 a0_14) := (blk_cell BK140.out 14).trans rfl
              have hcz15_15 : w5.cell? ⟨gb140, 15, none⟩ = some (.int .i64 a0_15) := (blk_cell BK140.out 15).trans rfl
              have hcz15_16 : w5.cell? ⟨gb140, 16, none⟩ = some (.int .i64 a0_16) := (blk_cell BK140.out 16).trans rfl
              have hcz15_17 : w5.cell? ⟨gb140, 17, none⟩ = some (.slice A0_17 l0_17.length c0_17) := (blk_cell BK140.out 17).trans rfl
              have hcz15_18 : w5.cell? ⟨gb140, 18, none⟩ = some (.slice A0_18 l0_18.length c0_18) := (blk_cell BK140.out 18).trans rfl
              have hcz15_19 : w5.cell? ⟨gb140, 19, none⟩ = some (.slice A0_19 l0_19.length c0_19) := (blk_cell BK140.out 19).trans rfl
              have hfz15_0 := blk_frozen BK140.out 0
              have hfz15_1 := blk_frozen BK140.out 1
              have hfz15_2 := blk_frozen BK140.out 2
              have hfz15_3 := blk_frozen BK140.out 3
              have hfz15_4 := blk_frozen BK140.out 4
              have hfz15_5 := blk_frozen BK140.out 5
              have hfz15_6 := blk_frozen BK140.out 6
              have hfz15_7 := blk_frozen BK140.out 7
              have hfz15_8 := blk_frozen BK140.out 8
              have hfz15_9 := blk_frozen BK140.out 9
              have hfz15_10 := blk_frozen BK140.out 10
              have hfz15_11 := blk_frozen BK140.out 11
              have hfz15_12 := blk_frozen BK140.out 12
              have hfz15_13 := blk_frozen BK140.out 13
              have hfz15_14 := blk_frozen BK140.out 14
              have hfz15_15 := blk_frozen BK140.out 15
              have hfz15_16 := blk_frozen BK140.out 16
              have hfz15_17 := blk_frozen BK140.out 17
              have hfz15_18 := blk_frozen BK140.out 18
              have hfz15_19 := blk_frozen BK140.out 19
              have hcz16_0 : w5.cell? ⟨gb141, 0, none⟩ = some (.int .i64 a1_0) := (blk_cell BK141.out 0).trans rfl
              have hcz16_1 : w5.cell? ⟨gb141, 1, none⟩ = some (.int .u64 a1_1) := (blk_cell BK141.out 1).trans rfl
              have hcz16_2 : w5.cell? ⟨gb141, 2, none⟩ = some (.bool a1_2) := (blk_cell BK141.out 2).trans rfl
              have hcz16_3 : w5.cell? ⟨gb141, 3, none⟩ = some (.int .u64 a1_3) := (blk_cell BK141.out 3).trans rfl
              have hcz16_4 : w5.cell? ⟨gb141, 4, none⟩ = some (.int .i64 a1_4) := (blk_cell BK141.out 4).trans rfl
              have hcz16_5 : w5.cell? ⟨gb141, 5, none⟩ = some (.bool a1_5) := (blk_cell BK141.out 5).trans rfl
              have hcz16_6 : w5.cell? ⟨gb141, 6, none⟩ = some (.int .u32 a1_6) := (blk_cell BK141.out 6).trans rfl
              have hcz16_7 : w5.cell? ⟨gb141, 7, none⟩ = some (.int .i64 a1_7) := (blk_cell BK141.out 7).trans rfl
              have hcz16_8 : w5.cell? ⟨gb141, 8, none⟩ = some (.int .i64 a1_8) := (blk_cell BK141.out 8).trans rfl
              have hcz16_9 : w5.cell? ⟨gb141, 9, none⟩ = some (.int .i64 a1_9) := (blk_cell BK141.out 9).trans rfl
              have hcz16_10 : w5.cell? ⟨gb141, 10, none⟩ = some (.int .i64 a1_10) := (blk_cell BK141.out 10).trans rfl
              have hcz16_11 : w5.cell? ⟨gb141, 11, none⟩ = some (.int .i64 a1_11) := (blk_cell BK141.out 11).trans rfl
              have hcz16_12 : w5.cell? ⟨gb141, 12, none⟩ = some (.int .i64 a1_12) := (blk_cell BK141.out 12).trans rfl
              have hcz16_13 : w5.cell? ⟨gb141, 13, none⟩ = some (.int .i64 a1_13) := (blk_cell BK141.out 13).trans rfl
              have hcz16_14 : w5.cell? ⟨gb141, 14, none⟩ = some (.int .i64 a1_14) := (blk_cell BK141.out 14).trans rfl
              have hcz16_15 : w5.cell? ⟨gb141, 15, none⟩ = some (.int .i64 a1_15) := (blk_cell BK141.out 15).trans rfl
              have hcz16_16 : w5.cell? ⟨gb141, 16, none⟩ = some (.int .i64 a1_16) := (blk_cell BK141.out 16).trans rfl
              have hcz16_17 : w5.cell? ⟨gb141, 17, none⟩ = some (.slice A1_17 l1_17.length c1_17) := (blk_cell BK141.out 17).trans rfl
              have hcz16_18 : w5.cell? ⟨gb141, 18, none⟩ = some (.slice A1_18 l1_18.length c1_18) := (blk_cell BK141.out 18).trans rfl
              have hcz16_19 : w5.cell? ⟨gb141, 19, none⟩ = some (.slice A1_19 l1_19.length c1_19) := (blk_cell BK141.out 19).trans rfl
              have hfz16_0 := blk_frozen BK141.out 0
              have hfz16_1 := blk_frozen BK141.out 1
              have hfz16_2 := blk_frozen BK141.out 2
              have hfz16_3 := blk_frozen BK141.out 3
              have hfz16_4 := blk_frozen BK141.out 4
              have hfz16_5 := blk_frozen BK141.out 5
              have hfz16_6 := blk_frozen BK141.out 6
              have hfz16_7 := blk_frozen BK141.out 7
              have hfz16_8 := blk_frozen BK141.out 8
              have hfz16_9 := blk_frozen BK141.out 9
              have hfz16_10 := blk_frozen BK141.out 10
              have hfz16_11 := blk_frozen BK141.out 11
              have hfz16_12 := blk_frozen BK141.out 12
              have hfz16_13 := blk_frozen BK141.out 13
              have hfz16_14 := blk_frozen BK141.out 14
              have hfz16_15 := blk_frozen BK141.out 15
              have hfz16_16 := blk_frozen BK141.out 16
              have hfz16_17 := blk_frozen BK141.out 17
              have hfz16_18 := blk_frozen BK141.out 18
              have hfz16_19 := blk_frozen BK141.out 19
              go_wp2
              repeat (go_quiet (fail); try go_wp2)
              go_meet
              case rel => exact ⟨_, (true), (by first | rfl | (simp; done) | (simp [*]; done)), H', ⟨by first | omega | exact Nat.le_refl _⟩, ⟨by (with_reducible repeat (first | refine blk_drewN ?_ _ | refine blk_drew ?_ | refine blk_alloc ?_ _)); exact BK140.out⟩, ⟨by (with_reducible repeat (first | refine blk_drewN ?_ _ | refine blk_drew ?_ | refine blk_alloc ?_ _)); exact BK141.out⟩, ⟨by repeat (first | (with_reducible first | exact HB.out | apply below_alloc | apply pw_below_drewN | apply below_drew1 | refine below_set ?_ GE140.out | refine below_set ?_ GE141.out) | exact HB.out)⟩⟩
            · rw [if_neg c13] at H
              have c13b0 : (!(a0_4 == a1_4) || (!(a0_5 == a1_5) || (!(a0_6 == a1_6) || ((!(a0_7 == a1_7) || (!(a0_8 == a1_8) || (!(a0_9 == a1_9) || (!(a0_10 == a1_10))))) || (!(a0_11 == a1_11)))))) = false := by simpa using c13
              clear c13
              by_cases c17 : a0_12 = a1_12
              · rw [if_pos c17] at H
                have c17b0 : (a0_12 == a1_12) = true := beq_iff_eq.mpr c17
                have c17b1 : (a0_12 != a1_12) = false := bne_eq_false_iff_eq.mpr c17
                clear c17
                replace H := Option.bind_eq_some_iff.mp H
                obtain ⟨t142, A180, H⟩ := H
                replace H : (if t142 = true then (gazetteerref21_Same.j0 k ((l0_19.length : Int) != (l1_19.length : Int)) a0_0 a0_1 a0_2 a0_3 a0_4 a0_5 a0_6 a0_7 a0_8 a0_9 a0_10 a0_11 a0_12 a0_13 a0_14 a0_15 a0_16 l0_17 l0_18 l0_19 a1_0 a1_1 a1_2 a1_3 a1_4 a1_5 a1_6 a1_7 a1_8 a1_9 a1_10 a1_11 a1_12 a1_13 a1_14 a1_15 a1_16 l1_17 l1_18 l1_19) else (gazetteerref21_Same.j0 k true a0_0 a0_1 a0_2 a0_3 a0_4 a0_5 a0_6 a0_7 a0_8 a0_9 a0_10 a0_11 a0_12 a0_13 a0_14 a0_15 a0_16 l0_17 l0_18 l0_19 a1_0 a1_1 a1_2 a1_3 a1_4 a1_5 a1_6 a1_7 a1_8 a1_9 a1_10 a1_11 a1_12 a1_13 a1_14 a1_15 a1_16 l1_17 l1_18 l1_19)) = some r := H
                have A18 := Aside0.mk A180
                clear A180
                by_cases c19 : t142 = true
                · subst c19
                  have H1 : (gazetteerref21_Same.j0 k ((l0_19.length : Int) != (l1_19.length : Int)) a0_0 a0_1 a0_2 a0_3 a0_4 a0_5 a0_6 a0_7 a0_8 a0_9 a0_10 a0_11 a0_12 a0_13 a0_14 a0_15 a0_16 l0_17 l0_18 l0_19 a1_0 a1_1 a1_2 a1_3 a1_4 a1_5 a1_6 a1_7 a1_8 a1_9 a1_10 a1_11 a1_12 a1_13 a1_14 a1_15 a1_16 l1_17 l1_18 l1_19) = some r := by rw [if_pos rfl] at H; exact H
                  clear H
                  have H := H1
                  clear H1
                  have H' := Aside0.mk H
                  clear H
                  have hnb20 := NB140_141.out
                  have hnc20 := NB141_140.out
                  have hcz21_0 : w5.cell? ⟨gb140, 0, none⟩ = some (.int .i64 a0_0) := (blk_cell BK140.out 0).trans rfl
                  have hcz21_1 : w5.cell? ⟨gb140, 1, none⟩ = some (.int .u64 a0_1) := (blk_cell BK140.out 1).trans rfl
                  have hcz21_2 : w5.cell? ⟨gb140, 2, none⟩ = some (.bool a0_2) := (blk_cell BK140.out 2).trans rfl
                  have hcz21_3 : w5.cell? ⟨gb140, 3, none⟩ = some (.int .u64 a0_3) := (blk_cell BK140.out 3).trans rfl
                  have hcz21_4 : w5.cell? ⟨gb140, 4, none⟩ = some (.int .i64 a0_4) := (blk_cell BK140.out 4).trans rfl
                  have hcz21_5 : w5.cell? ⟨gb140, 5, none⟩ = some (.bool a0_5) := (blk_cell BK140.out 5).trans rfl
                  have hcz21_6 : w5.cell? ⟨gb140, 6, none⟩ = some (.int .u32 a0_6) := (blk_cell BK140.out 6).trans rfl
                  have hcz21_7 : w5.cell? ⟨gb140, 7, none⟩ = some (.int .i64 a0_7) := (blk_cell BK140.out 7).trans rfl
                  have hcz21_8 : w5.cell? ⟨gb140, 8, none⟩ = some (.int .i64 a0_8) := (blk_cell BK140.out 8).trans rfl
                  have hcz21_9 : w5.cell? ⟨gb140, 9, none⟩ = some (.int .i64 a0_9) := (blk_cell BK140.out 9).trans rfl
                  have hcz21_10 : w5.cell? ⟨gb140, 10, none⟩ = some (.int .i64 a0_10) := (blk_cell BK140.out 10).trans rfl
                  have hcz21_11 : w5.cell? ⟨gb140, 11, none⟩ = some (.int .i64 a0_11) := (blk_cell BK140.out 11).trans rfl
                  have hcz21_12 : w5.cell? ⟨gb140, 12, none⟩ = some (.int .i64 a0_12) := (blk_cell BK140.out 12).trans rfl
                  have hcz21_13 : w5.cell? ⟨gb140, 13, none⟩ = some (.int .i64 a0_13) := (blk_cell BK140.out 13).trans rfl
                  have hcz21_14 : w5.cell? ⟨gb140, 14, none⟩ = some (.int .i64 a0_14) := (blk_cell BK140.out 14).trans rfl
                  have hcz21_15 : w5.cell? ⟨gb140, 15, none⟩ = some (.int .i64 a0_15) := (blk_cell BK140.out 15).trans rfl
                  have hcz21_16 : w5.cell? ⟨gb140, 16, none⟩ = some (.int .i64 a0_16) := (blk_cell BK140.out 16).trans rfl
                  have hcz21_17 : w5.cell? ⟨gb140, 17, none⟩ = some (.slice A0_17 l0_17.length c0_17) := (blk_cell BK140.out 17).trans rfl
                  have hcz21_18 : w5.cell? ⟨gb140, 18, none⟩ = some (.slice A0_18 l0_18.length c0_18) := (blk_cell BK140.out 18).trans rfl
                  have hcz21_19 : w5.cell? ⟨gb140, 19, none⟩ = some (.slice A0_19 l0_19.length c0_19) := (blk_cell BK140.out 19).trans rfl
                  have hfz21_0 := blk_frozen BK140.out 0
                  have hfz21_1 := blk_frozen BK140.out 1
                  have hfz21_2 := blk_frozen BK140.out 2
                  have hfz21_3 := blk_frozen BK140.out 3
                  have hfz21_4 := blk_frozen BK140.out 4
                  have hfz21_5 := blk_frozen BK140.out 5
                  have hfz21_6 := blk_frozen BK140.out 6
                  have hfz21_7 := blk_frozen BK140.out 7
                  have hfz21_8 := blk_frozen BK140.out 8
                  have hfz21_9 := blk_frozen BK140.out 9
                  have hfz21_10 := blk_frozen BK140.out 10
                  have hfz21_11 := blk_frozen BK140.out 11
                  have hfz21_12 := blk_frozen BK140.out 12
                  have hfz21_13 := blk_frozen BK140.out 13
                  have hfz21_14 := blk_frozen BK140.out 14
                  have hfz21_15 := blk_frozen BK140.out 15
                  have hfz21_16 := blk_frozen BK140.out 16
                  have hfz21_17 := blk_frozen BK140.out 17
                  have hfz21_18 := blk_frozen BK140.out 18
                  have hfz21_19 := blk_frozen BK140.out 19
                  have hcz22_0 : w5.cell? ⟨gb141, 0, none⟩ = some (.int .i64 a1_0) := (blk_cell BK141.out 0).trans rfl
                  have hcz22_1 : w5.cell? ⟨gb141, 1, none⟩ = some (.int .u64 a1_1) := (blk_cell BK141.out 1).trans rfl
                  have hcz22_2 : w5.cell? ⟨gb141, 2, none⟩ = some (.bool a1_2) := (blk_cell BK141.out 2).trans rfl
                  have hcz22_3 : w5.cell? ⟨gb141, 3, none⟩ = some (.int .u64 a1_3) := (blk_cell BK141.out 3).trans rfl
                  have hcz22_4 : w5.cell? ⟨gb141, 4, none⟩ = some (.int .i64 a1_4) := (blk_cell BK141.out 4).trans rfl
                  have hcz22_5 : w5.cell? ⟨gb141, 5, none⟩ = some (.bool a1_5) := (blk_cell BK141.out 5).trans rfl
                  have hcz22_6 : w5.cell? ⟨gb141, 6, none⟩ = some (.int .u32 a1_6) := (blk_cell BK141.out 6).trans rfl
                  have hcz22_7 : w5.cell? ⟨gb141, 7, none⟩ = some (.int .i64 a1_7) := (blk_cell BK141.out 7).trans rfl
                  have hcz22_8 : w5.cell? ⟨gb141, 8, none⟩ = some (.int .i64 a1_8) := (blk_cell BK141.out 8).trans rfl
                  have hcz22_9 : w5.cell? ⟨gb141, 9, none⟩ = some (.int .i64 a1_9) := (blk_cell BK141.out 9).trans rfl
                  have hcz22_10 : w5.cell? ⟨gb141, 10, none⟩ = some (.int .i64 a1_10) := (blk_cell BK141.out 10).trans rfl
                  have hcz22_11 : w5.cell? ⟨gb141, 11, none⟩ = some (.int .i64 a1_11) := (blk_cell BK141.out 11).trans rfl
                  have hcz22_12 : w5.cell? ⟨gb141, 12, none⟩ = some (.int .i64 a1_12) := (blk_cell BK141.out 12).trans rfl
                  have hcz22_13 : w5.cell? ⟨gb141, 13, none⟩ = some (.int .i64 a1_13) := (blk_cell BK141.out 13).trans rfl
                  have hcz22_14 : w5.cell? ⟨gb141, 14, none⟩ = some (.int .i64 a1_14) := (blk_cell BK141.out 14).trans rfl
                  have hcz22_15 : w5.cell? ⟨gb141, 15, none⟩ = some (.int .i64 a1_15) := (blk_cell BK141.out 15).trans rfl
                  have hcz22_16 : w5.cell? ⟨gb141, 16, none⟩ = some (.int .i64 a1_16) := (blk_cell BK141.out 16).trans rfl
                  have hcz22_17 : w5.cell? ⟨gb141, 17, none⟩ = some (.slice A1_17 l1_17.length c1_17) := (blk_cell BK141.out 17).trans rfl
                  have hcz22_18 : w5.cell? ⟨gb141, 18, none⟩ = some (.slice A1_18 l1_18.length c1_18) := (blk_cell BK141.out 18).trans rfl
                  have hcz22_19 : w5.cell? ⟨gb141, 19, none⟩ = some (.slice A1_19 l1_19.length c1_19) := (blk_cell BK141.out 19).trans rfl
                  have hfz22_0 := blk_frozen BK141.out 0
                  have hfz22_1 := blk_frozen BK141.out 1
                  have hfz22_2 := blk_frozen BK141.out 2
                  have hfz22_3 := blk_frozen BK141.out 3
                  have hfz22_4 := blk_frozen BK141.out 4
                  have hfz22_5 := blk_frozen BK141.out 5
                  have hfz22_6 := blk_frozen BK141.out 6
                  have hfz22_7 := blk_frozen BK141.out 7
                  have hfz22_8 := blk_frozen BK141.out 8
                  have hfz22_9 := blk_frozen BK141.out 9
                  have hfz22_10 := blk_frozen BK141.out 10
                  have hfz22_11 := blk_frozen BK141.out 11
                  have hfz22_12 := blk_frozen BK141.out 12
                  have hfz22_13 := blk_frozen BK141.out 13
                  have hfz22_14 := blk_frozen BK141.out 14
                  have hfz22_15 := blk_frozen BK141.out 15
                  have hfz22_16 := blk_frozen BK141.out 16
                  have hfz22_17 := blk_frozen BK141.out 17
                  have hfz22_18 := blk_frozen BK141.out 18
                  have hfz22_19 := blk_frozen BK141.out 19
                  go_wp2_with (first | (go_at_call 37; (with_reducible refine (gazetteerref13_Same.calls k a0_13 a0_14 a0_15 a0_16 _ _ l0_17 _ _ l0_18 a1_13 a1_14 a1_15 a1_16 _ _ l1_17 _ _ l1_18 true _ ?side1 ?side2 ?side3 ?side4 ?side5 ?side6 ?side7 ?side8 A18.out).mono ?_); (case side1 => repeat (first | exact (Kd.C_below HR0_17.out HB.out) | (with_reducible refine Kd.C_alloc ?_ _) | (with_reducible refine Kd.C_drewN ?_ _) | (with_reducible refine Kd.C_drew ?_))); (case side2 => exact HC0_17.out); (case side3 => repeat (first | exact (Kd.C_below HR0_18.out HB.out) | (with_reducible refine Kd.C_alloc ?_ _) | (with_reducible refine Kd.C_drewN ?_ _) | (with_reducible refine Kd.C_drew ?_))); (case side4 => exact HC0_18.out); (case side5 => repeat (first | exact (Kd.C_below HR1_17.out HB.out) | (with_reducible refine Kd.C_alloc ?_ _) | (with_reducible refine Kd.C_drewN ?_ _) | (with_reducible refine Kd.C_drew ?_))); (case side6 => exact HC1_17.out); (case side7 => repeat (first | exact (Kd.C_below HR1_18.out HB.out) | (with_reducible refine Kd.C_alloc ?_ _) | (with_reducible refine Kd.C_drewN ?_ _) | (with_reducible refine Kd.C_drew ?_))); (case side8 => exact HC1_18.out); rintro e w23 ⟨rfl, hb⟩; have n0_ := Aside0.mk (blk_below (g := gb140) (o := .cells #[.int .i64 a0_0, .int .u64 a0_1, .bool a0_2, .int .u64 a0_3, .int .i64 a0_4, .bool a0_5, .int .u32 a0_6, .int .i64 a0_7, .int .i64 a0_8, .int .i64 a0_9, .int .i64 a0_10, .int .i64 a0_11, .int .i64 a0_12, .int .i64 a0_13, .int .i64 a0_14, .int .i64 a0_15, .int .i64 a0_16, .slice A0_17 l0_17.length c0_17, .slice A0_18 l0_18.length c0_18, .slice A0_19 l0_19.length c0_19] 33 (0, 0)) (by (with_reducible repeat (first | refine blk_drewN ?_ _ | refine blk_drew ?_ | refine blk_alloc ?_ _)); exact BK140.out) hb); have n1_ := Aside0.mk (blk_below (g := gb141) (o := .cells #[.int .i64 a1_0, .int .u64 a1_1, .bool a1_2, .int .u64 a1_3, .int .i64 a1_4, .bool a1_5, .int .u32 a1_6, .int .i64 a1_7, .int .i64 a1_8, .int .i64 a1_9, .int .i64 a1_10, .int .i64 a1_11, .int .i64 a1_12, .int .i64 a1_13, .int .i64 a1_14, .int .i64 a1_15, .int .i64 a1_16, .slice A1_17 l1_17.length c1_17, .slice A1_18 l1_18.length c1_18, .slice A1_19 l1_19.length c1_19] 33 (0, 0)) (by (with_reducible repeat (first | refine blk_drewN ?_ _ | refine blk_drew ?_ | refine blk_alloc ?_ _)); exact BK141.out) hb); have n2_ := Aside0.mk (below_step (by repeat (first | (with_reducible first | exact HB.out | apply below_alloc | apply pw_below_drewN | apply below_drew1 | refine below_set ?_ GE140.out | refine below_set ?_ GE141.out) | exact HB.out)) hb); clear BK140; clear BK141; clear HB; have BK140 := n0_; have BK141 := n1_; have HB := n2_; clear n0_ n1_ n2_; (try clear hb); (try clear hb2); (try clear hk); (try clear hi); have hcz24_0 : w23.cell? ⟨gb140, 0, none⟩ = some (.int .i64 a0_0) := (blk_cell BK140.out 0).trans rfl; have hcz24_1 : w23.cell? ⟨gb140, 1, none⟩ = some (.int .u64 a0_1) := (blk_cell BK140.out 1).trans rfl; have hcz24_2 : w23.cell? ⟨gb140, 2, none⟩ = some (.bool a0_2) := (blk_cell BK140.out 2).trans rfl; have hcz24_3 : w23.cell? ⟨gb140, 3, none⟩ = some (.int .u64 a0_3) := (blk_cell BK140.out 3).trans rfl; have hcz24_4 : w23.cell? ⟨gb140, 4, none⟩ = some (.int .i64 a0_4) := (blk_cell BK140.out 4).trans rfl; have hcz24_5 : w23.cell? ⟨gb140, 5, none⟩ = some (.bool a0_5) := (blk_cell BK140.out 5).trans rfl; have hcz24_6 : w23.cell? ⟨gb140, 6, none⟩ = some (.int .u32 a0_6) := (blk_cell BK140.out 6).trans rfl; have hcz24_7 : w23.cell? ⟨gb140, 7, none⟩ = some (.int .i64 a0_7) := (blk_cell BK140.out 7).trans rfl; have hcz24_8 : w23.cell? ⟨gb140, 8, none⟩ = some (.int .i64 a0_8) := (blk_cell BK140.out 8).trans rfl; have hcz24_9 : w23.cell? ⟨gb140, 9, none⟩ = some (.int .i64 a0_9) := (blk_cell BK140.out 9).trans rfl; have hcz24_10 : w23.cell? ⟨gb140, 10, none⟩ = some (.int .i64 a0_10) := (blk_cell BK140.out 10).trans rfl; have hcz24_11 : w23.cell? ⟨gb140, 11, none⟩ = some (.int .i64 a0_11) := (blk_cell BK140.out 11).trans rfl; have hcz24_12 : w23.cell? ⟨gb140, 12, none⟩ = some (.int .i64 a0_12) := (blk_cell BK140.out 12).trans rfl; have hcz24_13 : w23.cell? ⟨gb140, 13, none⟩ = some (.int .i64 a0_13) := (blk_cell BK140.out 13).trans rfl; have hcz24_14 : w23.cell? ⟨gb140, 14, none⟩ = some (.int .i64 a0_14) := (blk_cell BK140.out 14).trans rfl; have hcz24_15 : w23.cell? ⟨gb140, 15, none⟩ = some (.int .i64 a0_15) := (blk_cell BK140.out 15).trans rfl; have hcz24_16 : w23.cell? ⟨gb140, 16, none⟩ = some (.int .i64 a0_16) := (blk_cell BK140.out 16).trans rfl; have hcz24_17 : w23.cell? ⟨gb140, 17, none⟩ = some (.slice A0_17 l0_17.length c0_17) := (blk_cell BK140.out 17).trans rfl; have hcz24_18 : w23.cell? ⟨gb140, 18, none⟩ = some (.slice A0_18 l0_18.length c0_18) := (blk_cell BK140.out 18).trans rfl; have hcz24_19 : w23.cell? ⟨gb140, 19, none⟩ = some (.slice A0_19 l0_19.length c0_19) := (blk_cell BK140.out 19).trans rfl; have hfz24_0 := blk_frozen BK140.out 0; have hfz24_1 := blk_frozen BK140.out 1; have hfz24_2 := blk_frozen BK140.out 2; have hfz24_3 := blk_frozen BK140.out 3; have hfz24_4 := blk_frozen BK140.out 4; have hfz24_5 := blk_frozen BK140.out 5; have hfz24_6 := blk_frozen BK140.out 6; have hfz24_7 := blk_frozen BK140.out 7; have hfz24_8 := blk_frozen BK140.out 8; have hfz24_9 := blk_frozen BK140.out 9; have hfz24_10 := blk_frozen BK140.out 10; have hfz24_11 := blk_frozen BK140.out 11; have hfz24_12 := blk_frozen BK140.out 12; have hfz24_13 := blk_frozen BK140.out 13; have hfz24_14 := blk_frozen BK140.out 14; have hfz24_15 := blk_frozen BK140.out 15; have hfz24_16 := blk_frozen BK140.out 16; have hfz24_17 := blk_frozen BK140.out 17; have hfz24_18 := blk_frozen BK140.out 18; have hfz24_19 := blk_frozen BK140.out 19; have hcz25_0 : w23.cell? ⟨gb141, 0, none⟩ = some (.int .i64 a1_0) := (blk_cell BK141.out 0).trans rfl; have hcz25_1 : w23.cell? ⟨gb141, 1, none⟩ = some (.int .u64 a1_1) := (blk_cell BK141.out 1).trans rfl; have hcz25_2 : w23.cell? ⟨gb141, 2, none⟩ = some (.bool a1_2) := (blk_cell BK141.out 2).trans rfl; have hcz25_3 : w23.cell? ⟨gb141, 3, none⟩ = some (.int .u64 a1_3) := (blk_cell BK141.out 3).trans rfl; have hcz25_4 : w23.cell? ⟨gb141, 4, none⟩ = some (.int .i64 a1_4) := (blk_cell BK141.out 4).trans rfl; have hcz25_5 : w23.cell? ⟨gb141, 5, none⟩ = some (.bool a1_5) := (blk_cell BK141.out 5).trans rfl; have hcz25_6 : w23.cell? ⟨gb141, 6, none⟩ = some (.int .u32 a1_6) := (blk_cell BK141.out 6).trans rfl; have hcz25_7 : w23.cell? ⟨gb141, 7, none⟩ = some (.int .i64 a1_7) := (blk_cell BK141.out 7).trans rfl; have hcz25_8 : w23.cell? ⟨gb141, 8, none⟩ = some (.int .i64 a1_8) := (blk_cell BK141.out 8).trans rfl; have hcz25_9 : w23.cell? ⟨gb141, 9, none⟩ = some (.int .i64 a1_9) := (blk_cell BK141.out 9).trans rfl; have hcz25_10 : w23.cell? ⟨gb141, 10, none⟩ = some (.int .i64 a1_10) := (blk_cell BK141.out 10).trans rfl; have hcz25_11 : w23.cell? ⟨gb141, 11, none⟩ = some (.int .i64 a1_11) := (blk_cell BK141.out 11).trans rfl; have hcz25_12 : w23.cell? ⟨gb141, 12, none⟩ = some (.int .i64 a1_12) := (blk_cell BK141.out 12).trans rfl; have hcz25_13 : w23.cell? ⟨gb141, 13, none⟩ = some (.int .i64 a1_13) := (blk_cell BK141.out 13).trans rfl; have hcz25_14 : w23.cell? ⟨gb141, 14, none⟩ = some (.int .i64 a1_14) := (blk_cell BK141.out 14).trans rfl; have hcz25_15 : w23.cell? ⟨gb141, 15, none⟩ = some (.int .i64 a1_15) := (blk_cell BK141.out 15).trans rfl; have hcz25_16 : w23.cell? ⟨gb141, 16, none⟩ = some (.int .i64 a1_16) := (blk_cell BK141.out 16).trans rfl; have hcz25_17 : w23.cell? ⟨gb141, 17, none⟩ = some (.slice A1_17 l1_17.length c1_17) := (blk_cell BK141.out 17).trans rfl; have hcz25_18 : w23.cell? ⟨gb141, 18, none⟩ = some (.slice A1_18 l1_18.length c1_18) := (blk_cell BK141.out 18).trans rfl; have hcz25_19 : w23.cell? ⟨gb141, 19, none⟩ = some (.slice A1_19 l1_19.length c1_19) := (blk_cell BK141.out 19).trans rfl; have hfz25_0 := blk_frozen BK141.out 0; have hfz25_1 := blk_frozen BK141.out 1; have hfz25_2 := blk_frozen BK141.out 2; have hfz25_3 := blk_frozen BK141.out 3; have hfz25_4 := blk_frozen BK141.out 4; have hfz25_5 := blk_frozen BK141.out 5; have hfz25_6 := blk_frozen BK141.out 6; have hfz25_7 := blk_frozen BK141.out 7; have hfz25_8 := blk_frozen BK141.out 8; have hfz25_9 := blk_frozen BK141.out 9; have hfz25_10 := blk_frozen BK141.out 10; have hfz25_11 := blk_frozen BK141.out 11; have hfz25_12 := blk_frozen BK141.out 12; have hfz25_13 := blk_frozen BK141.out 13; have hfz25_14 := blk_frozen BK141.out 14; have hfz25_15 := blk_frozen BK141.out 15; have hfz25_16 := blk_frozen BK141.out 16; have hfz25_17 := blk_frozen BK141.out 17; have hfz25_18 := blk_frozen BK141.out 18; have hfz25_19 := blk_frozen BK141.out 19))
                  repeat (go_quiet (first | (go_at_call 37; (with_reducible refine (gazetteerref13_Same.calls k a0_13 a0_14 a0_15 a0_16 _ _ l0_17 _ _ l0_18 a1_13 a1_14 a1_15 a1_16 _ _ l1_17 _ _ l1_18 true _ ?side1 ?side2 ?side3 ?side4 ?side5 ?side6 ?side7 ?side8 A18.out).mono ?_); (case side1 => repeat (first | exact (Kd.C_below HR0_17.out HB.out) | (with_reducible refine Kd.C_alloc ?_ _) | (with_reducible refine Kd.C_drewN ?_ _) | (with_reducible refine Kd.C_drew ?_))); (case side2 => exact HC0_17.out); (case side3 => repeat (first | exact (Kd.C_below HR0_18.out HB.out) | (with_reducible refine Kd.C_alloc ?_ _) | (with_reducible refine Kd.C_drewN ?_ _) | (with_reducible refine Kd.C_drew ?_))); (case side4 => exact HC0_18.out); (case side5 => repeat (first | exact (Kd.C_below HR1_17.out HB.out) | (with_reducible refine Kd.C_alloc ?_ _) | (with_reducible refine Kd.C_drewN ?_ _) | (with_reducible refine Kd.C_drew ?_))); (case side6 => exact HC1_17.out); (case side7 => repeat (first | exact (Kd.C_below HR1_18.out HB.out) | (with_reducible refine Kd.C_alloc ?_ _) | (with_reducible refine Kd.C_drewN ?_ _) | (with_reducible refine Kd.C_drew ?_))); (case side8 => exact HC1_18.out); rintro e w23 ⟨rfl, hb⟩; have n0_ := Aside0.mk (blk_below (g := gb140) (o := .cells #[.int .i64 a0_0, .int .u64 a0_1, .bool a0_2, .int .u64 a0_3, .int .i64 a0_4, .bool a0_5, .int .u32 a0_6, .int .i64 a0_7, .int .i64 a0_8, .int .i64 a0_9, .int .i64 a0_10, .int .i64 a0_11, .int .i64 a0_12, .int .i64 a0_13, .int .i64 a0_14, .int .i64 a0_15, .int .i64 a0_16, .slice A0_17 l0_17.length c0_17, .slice A0_18 l0_18.length c0_18, .slice A0_19 l0_19.length c0_19] 33 (0, 0)) (by (with_reducible repeat (first | refine blk_drewN ?_ _ | refine blk_drew ?_ | refine blk_alloc ?_ _)); exact BK140.out) hb); have n1_ := Aside0.mk (blk_below (g := gb141) (o := .cells #[.int .i64 a1_0, .int .u64 a1_1, .bool a1_2, .int .u64 a1_3, .int .i64 a1_4, .bool a1_5, .int .u32 a1_6, .int .i64 a1_7, .int .i64 a1_8, .int .i64 a1_9, .int .i64 a1_10, .int .i64 a1_11, .int .i64 a1_12, .int .i64 a1_13, .int .i64 a1_14, .int .i64 a1_15, .int .i64 a1_16, .slice A1_17 l1_17.length c1_17, .slice A1_18 l1_18.length c1_18, .slice A1_19 l1_19.length c1_19] 33 (0, 0)) (by (with_reducible repeat (first | refine blk_drewN ?_ _ | refine blk_drew ?_ | refine blk_alloc ?_ _)); exact BK141.out) hb); have n2_ := Aside0.mk (below_step (by repeat (first | (with_reducible first | exact HB.out | apply below_alloc | apply pw_below_drewN | apply below_drew1 | refine below_set ?_ GE140.out | refine below_set ?_ GE141.out) | exact HB.out)) hb); clear BK140; clear BK141; clear HB; have BK140 := n0_; have BK141 := n1_; have HB := n2_; clear n0_ n1_ n2_; (try clear hb); (try clear hb2); (try clear hk); (try clear hi); have hcz24_0 : w23.cell? ⟨gb140, 0, none⟩ = some (.int .i64 a0_0) := (blk_cell BK140.out 0).trans rfl; have hcz24_1 : w23.cell? ⟨gb140, 1, none⟩ = some (.int .u64 a0_1) := (blk_cell BK140.out 1).trans rfl; have hcz24_2 : w23.cell? ⟨gb140, 2, none⟩ = some (.bool a0_2) := (blk_cell BK140.out 2).trans rfl; have hcz24_3 : w23.cell? ⟨gb140, 3, none⟩ = some (.int .u64 a0_3) := (blk_cell BK140.out 3).trans rfl; have hcz24_4 : w23.cell? ⟨gb140, 4, none⟩ = some (.int .i64 a0_4) := (blk_cell BK140.out 4).trans rfl; have hcz24_5 : w23.cell? ⟨gb140, 5, none⟩ = some (.bool a0_5) := (blk_cell BK140.out 5).trans rfl; have hcz24_6 : w23.cell? ⟨gb140, 6, none⟩ = some (.int .u32 a0_6) := (blk_cell BK140.out 6).trans rfl; have hcz24_7 : w23.cell? ⟨gb140, 7, none⟩ = some (.int .i64 a0_7) := (blk_cell BK140.out 7).trans rfl; have hcz24_8 : w23.cell? ⟨gb140, 8, none⟩ = some (.int .i64 a0_8) := (blk_cell BK140.out 8).trans rfl; have hcz24_9 : w23.cell? ⟨gb140, 9, none⟩ = some (.int .i64 a0_9) := (blk_cell BK140.out 9).trans rfl; have hcz24_10 : w23.cell? ⟨gb140, 10, none⟩ = some (.int .i64 a0_10) := (blk_cell BK140.out 10).trans rfl; have hcz24_11 : w23.cell? ⟨gb140, 11, none⟩ = some (.int .i64 a0_11) := (blk_cell BK140.out 11).trans rfl; have hcz24_12 : w23.cell? ⟨gb140, 12, none⟩ = some (.int .i64 a0_12) := (blk_cell BK140.out 12).trans rfl; have hcz24_13 : w23.cell? ⟨gb140, 13, none⟩ = some (.int .i64 a0_13) := (blk_cell BK140.out 13).trans rfl; have hcz24_14 : w23.cell? ⟨gb140, 14, none⟩ = some (.int .i64 a0_14) := (blk_cell BK140.out 14).trans rfl; have hcz24_15 : w23.cell? ⟨gb140, 15, none⟩ = some (.int .i64 a0_15) := (blk_cell BK140.out 15).trans rfl; have hcz24_16 : w23.cell? ⟨gb140, 16, none⟩ = some (.int .i64 a0_16) := (blk_cell BK140.out 16).trans rfl; have hcz24_17 : w23.cell? ⟨gb140, 17, none⟩ = some (.slice A0_17 l0_17.length c0_17) := (blk_cell BK140.out 17).trans rfl; have hcz24_18 : w23.cell? ⟨gb140, 18, none⟩ = some (.slice A0_18 l0_18.length c0_18) := (blk_cell BK140.out 18).trans rfl; have hcz24_19 : w23.cell? ⟨gb140, 19, none⟩ = some (.slice A0_19 l0_19.length c0_19) := (blk_cell BK140.out 19).trans rfl; have hfz24_0 := blk_frozen BK140.out 0; have hfz24_1 := blk_frozen BK140.out 1; have hfz24_2 := blk_frozen BK140.out 2; have hfz24_3 := blk_frozen BK140.out 3; have hfz24_4 := blk_frozen BK140.out 4; have hfz24_5 := blk_frozen BK140.out 5; have hfz24_6 := blk_frozen BK140.out 6; have hfz24_7 := blk_frozen BK140.out 7; have hfz24_8 := blk_frozen BK140.out 8; have hfz24_9 := blk_frozen BK140.out 9; have hfz24_10 := blk_frozen BK140.out 10; have hfz24_11 := blk_frozen BK140.out 11; have hfz24_12 := blk_frozen BK140.out 12; have hfz24_13 := blk_frozen BK140.out 13; have hfz24_14 := blk_frozen BK140.out 14; have hfz24_15 := blk_frozen BK140.out 15; have hfz24_16 := blk_frozen BK140.out 16; have hfz24_17 := blk_frozen BK140.out 17; have hfz24_18 := blk_frozen BK140.out 18; have hfz24_19 := blk_frozen BK140.out 19; have hcz25_0 : w23.cell? ⟨gb141, 0, none⟩ = some (.int .i64 a1_0) := (blk_cell BK141.out 0).trans rfl; have hcz25_1 : w23.cell? ⟨gb141, 1, none⟩ = some (.int .u64 a1_1) := (blk_cell BK141.out 1).trans rfl; have hcz25_2 : w23.cell? ⟨gb141, 2, none⟩ = some (.bool a1_2) := (blk_cell BK141.out 2).trans rfl; have hcz25_3 : w23.cell? ⟨gb141, 3, none⟩ = some (.int .u64 a1_3) := (blk_cell BK141.out 3).trans rfl; have hcz25_4 : w23.cell? ⟨gb141, 4, none⟩ = some (.int .i64 a1_4) := (blk_cell BK141.out 4).trans rfl; have hcz25_5 : w23.cell? ⟨gb141, 5, none⟩ = some (.bool a1_5) := (blk_cell BK141.out 5).trans rfl; have hcz25_6 : w23.cell? ⟨gb141, 6, none⟩ = some (.int .u32 a1_6) := (blk_cell BK141.out 6).trans rfl; have hcz25_7 : w23.cell? ⟨gb141, 7, none⟩ = some (.int .i64 a1_7) := (blk_cell BK141.out 7).trans rfl; have hcz25_8 : w23.cell? ⟨gb141, 8, none⟩ = some (.int .i64 a1_8) := (blk_cell BK141.out 8).trans rfl; have hcz25_9 : w23.cell? ⟨gb141, 9, none⟩ = some (.int .i64 a1_9) := (blk_cell BK141.out 9).trans rfl; have hcz25_10 : w23.cell? ⟨gb141, 10, none⟩ = some (.int .i64 a1_10) := (blk_cell BK141.out 10).trans rfl; have hcz25_11 : w23.cell? ⟨gb141, 11, none⟩ = some (.int .i64 a1_11) := (blk_cell BK141.out 11).trans rfl; have hcz25_12 : w23.cell? ⟨gb141, 12, none⟩ = some (.int .i64 a1_12) := (blk_cell BK141.out 12).trans rfl; have hcz25_13 : w23.cell? ⟨gb141, 13, none⟩ = some (.int .i64 a1_13) := (blk_cell BK141.out 13).trans rfl; have hcz25_14 : w23.cell? ⟨gb141, 14, none⟩ = some (.int .i64 a1_14) := (blk_cell BK141.out 14).trans rfl; have hcz25_15 : w23.cell? ⟨gb141, 15, none⟩ = some (.int .i64 a1_15) := (blk_cell BK141.out 15).trans rfl; have hcz25_16 : w23.cell? ⟨gb141, 16, none⟩ = some (.int .i64 a1_16) := (blk_cell BK141.out 16).trans rfl; have hcz25_17 : w23.cell? ⟨gb141, 17, none⟩ = some (.slice A1_17 l1_17.length c1_17) := (blk_cell BK141.out 17).trans rfl; have hcz25_18 : w23.cell? ⟨gb141, 18, none⟩ = some (.slice A1_18 l1_18.length c1_18) := (blk_cell BK141.out 18).trans rfl; have hcz25_19 : w23.cell? ⟨gb141, 19, none⟩ = some (.slice A1_19 l1_19.length c1_19) := (blk_cell BK141.out 19).trans rfl; have hfz25_0 := blk_frozen BK141.out 0; have hfz25_1 := blk_frozen BK141.out 1; have hfz25_2 := blk_frozen BK141.out 2; have hfz25_3 := blk_frozen BK141.out 3; have hfz25_4 := blk_frozen BK141.out 4; have hfz25_5 := blk_frozen BK141.out 5; have hfz25_6 := blk_frozen BK141.out 6; have hfz25_7 := blk_frozen BK141.out 7; have hfz25_8 := blk_frozen BK141.out 8; have hfz25_9 := blk_frozen BK141.out 9; have hfz25_10 := blk_frozen BK141.out 10; have hfz25_11 := blk_frozen BK141.out 11; have hfz25_12 := blk_frozen BK141.out 12; have hfz25_13 := blk_frozen BK141.out 13; have hfz25_14 := blk_frozen BK141.out 14; have hfz25_15 := blk_frozen BK141.out 15; have hfz25_16 := blk_frozen BK141.out 16; have hfz25_17 := blk_frozen BK141.out 17; have hfz25_18 := blk_frozen BK141.out 18; have hfz25_19 := blk_frozen BK141.out 19)); try go_wp2_with (first | (go_at_call 37; (with_reducible refine (gazetteerref13_Same.calls k a0_13 a0_14 a0_15 a0_16 _ _ l0_17 _ _ l0_18 a1_13 a1_14 a1_15 a1_16 _ _ l1_17 _ _ l1_18 true _ ?side1 ?side2 ?side3 ?side4 ?side5 ?side6 ?side7 ?side8 A18.out).mono ?_); (case side1 => repeat (first | exact (Kd.C_below HR0_17.out HB.out) | (with_reducible refine Kd.C_alloc ?_ _) | (with_reducible refine Kd.C_drewN ?_ _) | (with_reducible refine Kd.C_drew ?_))); (case side2 => exact HC0_17.out); (case side3 => repeat (first | exact (Kd.C_below HR0_18.out HB.out) | (with_reducible refine Kd.C_alloc ?_ _) | (with_reducible refine Kd.C_drewN ?_ _) | (with_reducible refine Kd.C_drew ?_))); (case side4 => exact HC0_18.out); (case side5 => repeat (first | exact (Kd.C_below HR1_17.out HB.out) | (with_reducible refine Kd.C_alloc ?_ _) | (with_reducible refine Kd.C_drewN ?_ _) | (with_reducible refine Kd.C_drew ?_))); (case side6 => exact HC1_17.out); (case side7 => repeat (first | exact (Kd.C_below HR1_18.out HB.out) | (with_reducible refine Kd.C_alloc ?_ _) | (with_reducible refine Kd.C_drewN ?_ _) | (with_reducible refine Kd.C_drew ?_))); (case side8 => exact HC1_18.out); rintro e w23 ⟨rfl, hb⟩; have n0_ := Aside0.mk (blk_below (g := gb140) (o := .cells #[.int .i64 a0_0, .int .u64 a0_1, .bool a0_2, .int .u64 a0_3, .int .i64 a0_4, .bool a0_5, .int .u32 a0_6, .int .i64 a0_7, .int .i64 a0_8, .int .i64 a0_9, .int .i64 a0_10, .int .i64 a0_11, .int .i64 a0_12, .int .i64 a0_13, .int .i64 a0_14, .int .i64 a0_15, .int .i64 a0_16, .slice A0_17 l0_17.length c0_17, .slice A0_18 l0_18.length c0_18, .slice A0_19 l0_19.length c0_19] 33 (0, 0)) (by (with_reducible repeat (first | refine blk_drewN ?_ _ | refine blk_drew ?_ | refine blk_alloc ?_ _)); exact BK140.out) hb); have n1_ := Aside0.mk (blk_below (g := gb141) (o := .cells #[.int .i64 a1_0, .int .u64 a1_1, .bool a1_2, .int .u64 a1_3, .int .i64 a1_4, .bool a1_5, .int .u32 a1_6, .int .i64 a1_7, .int .i64 a1_8, .int .i64 a1_9, .int .i64 a1_10, .int .i64 a1_11, .int .i64 a1_12, .int .i64 a1_13, .int .i64 a1_14, .int .i64 a1_15, .int .i64 a1_16, .slice A1_17 l1_17.length c1_17, .slice A1_18 l1_18.length c1_18, .slice A1_19 l1_19.length c1_19] 33 (0, 0)) (by (with_reducible repeat (first | refine blk_drewN ?_ _ | refine blk_drew ?_ | refine blk_alloc ?_ _)); exact BK141.out) hb); have n2_ := Aside0.mk (below_step (by repeat (first | (with_reducible first | exact HB.out | apply below_alloc | apply pw_below_drewN | apply below_drew1 | refine below_set ?_ GE140.out | refine below_set ?_ GE141.out) | exact HB.out)) hb); clear BK140; clear BK141; clear HB; have BK140 := n0_; have BK141 := n1_; have HB := n2_; clear n0_ n1_ n2_; (try clear hb); (try clear hb2); (try clear hk); (try clear hi); have hcz24_0 : w23.cell? ⟨gb140, 0, none⟩ = some (.int .i64 a0_0) := (blk_cell BK140.out 0).trans rfl; have hcz24_1 : w23.cell? ⟨gb140, 1, none⟩ = some (.int .u64 a0_1) := (blk_cell BK140.out 1).trans rfl; have hcz24_2 : w23.cell? ⟨gb140, 2, none⟩ = some (.bool a0_2) := (blk_cell BK140.out 2).trans rfl; have hcz24_3 : w23.cell? ⟨gb140, 3, none⟩ = some (.int .u64 a0_3) := (blk_cell BK140.out 3).trans rfl; have hcz24_4 : w23.cell? ⟨gb140, 4, none⟩ = some (.int .i64 a0_4) := (blk_cell BK140.out 4).trans rfl; have hcz24_5 : w23.cell? ⟨gb140, 5, none⟩ = some (.bool a0_5) := (blk_cell BK140.out 5).trans rfl; have hcz24_6 : w23.cell? ⟨gb140, 6, none⟩ = some (.int .u32 a0_6) := (blk_cell BK140.out 6).trans rfl; have hcz24_7 : w23.cell? ⟨gb140, 7, none⟩ = some (.int .i64 a0_7) := (blk_cell BK140.out 7).trans rfl; have hcz24_8 : w23.cell? ⟨gb140, 8, none⟩ = some (.int .i64 a0_8) := (blk_cell BK140.out 8).trans rfl; have hcz24_9 : w23.cell? ⟨gb140, 9, none⟩ = some (.int .i64 a0_9) := (blk_cell BK140.out 9).trans rfl; have hcz24_10 : w23.cell? ⟨gb140, 10, none⟩ = some (.int .i64 a0_10) := (blk_cell BK140.out 10).trans rfl; have hcz24_11 : w23.cell? ⟨gb140, 11, none⟩ = some (.int .i64 a0_11) := (blk_cell BK140.out 11).trans rfl; have hcz24_12 : w23.cell? ⟨gb140, 12, none⟩ = some (.int .i64 a0_12) := (blk_cell BK140.out 12).trans rfl; have hcz24_13 : w23.cell? ⟨gb140, 13, none⟩ = some (.int .i64 a0_13) := (blk_cell BK140.out 13).trans rfl; have hcz24_14 : w23.cell? ⟨gb140, 14, none⟩ = some (.int .i64 a0_14) := (blk_cell BK140.out 14).trans rfl; have hcz24_15 : w23.cell? ⟨gb140, 15, none⟩ = some (.int .i64 a0_15) := (blk_cell BK140.out 15).trans rfl; have hcz24_16 : w23.cell? ⟨gb140, 16, none⟩ = some (.int .i64 a0_16) := (blk_cell BK140.out 16).trans rfl; have hcz24_17 : w23.cell? ⟨gb140, 17, none⟩ = some (.slice A0_17 l0_17.length c0_17) := (blk_cell BK140.out 17).trans rfl; have hcz24_18 : w23.cell? ⟨gb140, 18, none⟩ = some (.slice A0_18 l0_18.length c0_18) := (blk_cell BK140.out 18).trans rfl; have hcz24_19 : w23.cell? ⟨gb140, 19, none⟩ = some (.slice A0_19 l0_19.length c0_19) := (blk_cell BK140.out 19).trans rfl; have hfz24_0 := blk_frozen BK140.out 0; have hfz24_1 := blk_frozen BK140.out 1; have hfz24_2 := blk_frozen BK140.out 2; have hfz24_3 := blk_frozen BK140.out 3; have hfz24_4 := blk_frozen BK140.out 4; have hfz24_5 := blk_frozen BK140.out 5; have hfz24_6 := blk_frozen BK140.out 6; have hfz24_7 := blk_frozen BK140.out 7; have hfz24_8 := blk_frozen BK140.out 8; have hfz24_9 := blk_frozen BK140.out 9; have hfz24_10 := blk_frozen BK140.out 10; have hfz24_11 := blk_frozen BK140.out 11; have hfz24_12 := blk_frozen BK140.out 12; have hfz24_13 := blk_frozen BK140.out 13; have hfz24_14 := blk_frozen BK140.out 14; have hfz24_15 := blk_frozen BK140.out 15; have hfz24_16 := blk_frozen BK140.out 16; have hfz24_17 := blk_frozen BK140.out 17; have hfz24_18 := blk_frozen BK140.out 18; have hfz24_19 := blk_frozen BK140.out 19; have hcz25_0 : w23.cell? ⟨gb141, 0, none⟩ = some (.int .i64 a1_0) := (blk_cell BK141.out 0).trans rfl; have hcz25_1 : w23.cell? ⟨gb141, 1, none⟩ = some (.int .u64 a1_1) := (blk_cell BK141.out 1).trans rfl; have hcz25_2 : w23.cell? ⟨gb141, 2, none⟩ = some (.bool a1_2) := (blk_cell BK141.out 2).trans rfl; have hcz25_3 : w23.cell? ⟨gb141, 3, none⟩ = some (.int .u64 a1_3) := (blk_cell BK141.out 3).trans rfl; have hcz25_4 : w23.cell? ⟨gb141, 4, none⟩ = some (.int .i64 a1_4) := (blk_cell BK141.out 4).trans rfl; have hcz25_5 : w23.cell? ⟨gb141, 5, none⟩ = some (.bool a1_5) := (blk_cell BK141.out 5).trans rfl; have hcz25_6 : w23.cell? ⟨gb141, 6, none⟩ = some (.int .u32 a1_6) := (blk_cell BK141.out 6).trans rfl; have hcz25_7 : w23.cell? ⟨gb141, 7, none⟩ = some (.int .i64 a1_7) := (blk_cell BK141.out 7).trans rfl; have hcz25_8 : w23.cell? ⟨gb141, 8, none⟩ = some (.int .i64 a1_8) := (blk_cell BK141.out 8).trans rfl; have hcz25_9 : w23.cell? ⟨gb141, 9, none⟩ = some (.int .i64 a1_9) := (blk_cell BK141.out 9).trans rfl; have hcz25_10 : w23.cell? ⟨gb141, 10, none⟩ = some (.int .i64 a1_10) := (blk_cell BK141.out 10).trans rfl; have hcz25_11 : w23.cell? ⟨gb141, 11, none⟩ = some (.int .i64 a1_11) := (blk_cell BK141.out 11).trans rfl; have hcz25_12 : w23.cell? ⟨gb141, 12, none⟩ = some (.int .i64 a1_12) := (blk_cell BK141.out 12).trans rfl; have hcz25_13 : w23.cell? ⟨gb141, 13, none⟩ = some (.int .i64 a1_13) := (blk_cell BK141.out 13).trans rfl; have hcz25_14 : w23.cell? ⟨gb141, 14, none⟩ = some (.int .i64 a1_14) := (blk_cell BK141.out 14).trans rfl; have hcz25_15 : w23.cell? ⟨gb141, 15, none⟩ = some (.int .i64 a1_15) := (blk_cell BK141.out 15).trans rfl; have hcz25_16 : w23.cell? ⟨gb141, 16, none⟩ = some (.int .i64 a1_16) := (blk_cell BK141.out 16).trans rfl; have hcz25_17 : w23.cell? ⟨gb141, 17, none⟩ = some (.slice A1_17 l1_17.length c1_17) := (blk_cell BK141.out 17).trans rfl; have hcz25_18 : w23.cell? ⟨gb141, 18, none⟩ = some (.slice A1_18 l1_18.length c1_18) := (blk_cell BK141.out 18).trans rfl; have hcz25_19 : w23.cell? ⟨gb141, 19, none⟩ = some (.slice A1_19 l1_19.length c1_19) := (blk_cell BK141.out 19).trans rfl; have hfz25_0 := blk_frozen BK141.out 0; have hfz25_1 := blk_frozen BK141.out 1; have hfz25_2 := blk_frozen BK141.out 2; have hfz25_3 := blk_frozen BK141.out 3; have hfz25_4 := blk_frozen BK141.out 4; have hfz25_5 := blk_frozen BK141.out 5; have hfz25_6 := blk_frozen BK141.out 6; have hfz25_7 := blk_frozen BK141.out 7; have hfz25_8 := blk_frozen BK141.out 8; have hfz25_9 := blk_frozen BK141.out 9; have hfz25_10 := blk_frozen BK141.out 10; have hfz25_11 := blk_frozen BK141.out 11; have hfz25_12 := blk_frozen BK141.out 12; have hfz25_13 := blk_frozen BK141.out 13; have hfz25_14 := blk_frozen BK141.out 14; have hfz25_15 := blk_frozen BK141.out 15; have hfz25_16 := blk_frozen BK141.out 16; have hfz25_17 := blk_frozen BK141.out 17; have hfz25_18 := blk_frozen BK141.out 18; have hfz25_19 := blk_frozen BK141.out 19)))
                  go_meet
                  case rel => exact ⟨_, (((l0_19.length : Int) != (l1_19.length : Int))), (by first | rfl | (simp; done) | (simp [*]; done)), H', ⟨by first | omega | exact Nat.le_refl _⟩, ⟨by (with_reducible repeat (first | refine blk_drewN ?_ _ | refine blk_drew ?_ | refine blk_alloc ?_ _)); exact BK140.out⟩, ⟨by (with_reducible repeat (first | refine blk_drewN ?_ _ | refine blk_drew ?_ | refine blk_alloc ?_ _)); exact BK141.out⟩, ⟨by repeat (first | (with_reducible first | exact HB.out | apply below_alloc | apply pw_below_drewN | apply below_drew1 | refine below_set ?_ GE140.out | refine below_set ?_ GE141.out) | exact HB.out)⟩⟩
                · replace c19 := Bool.eq_false_iff.mpr c19
                  subst c19
                  have H1 : (gazetteerref21_Same.j0 k true a0_0 a0_1 a0_2 a0_3 a0_4 a0_5 a0_6 a0_7 a0_8 a0_9 a0_10 a0_11 a0_12 a0_13 a0_14 a0_15 a0_16 l0_17 l0_18 l0_19 a1_0 a1_1 a1_2 a1_3 a1_4 a1_5 a1_6 a1_7 a1_8 a1_9 a1_10 a1_11 a1_12 a1_13 a1_14 a1_15 a1_16 l1_17 l1_18 l1_19) = some r := by rw [if_neg (show ¬ (false = true) by decide)] at H; exact H
                  clear H
                  have H := H1
                  clear H1
                  have H' := Aside0.mk H
                  clear H
                  have hnb26 := NB140_141.out
                  have hnc26 := NB141_140.out
                  have hcz27_0 : w5.cell? ⟨gb140, 0, none⟩ = some (.int .i64 a0_0) := (blk_cell BK140.out 0).trans rfl
                  have hcz27_1 : w5.cell? ⟨gb140, 1, none⟩ = some (.int .u64 a0_1) := (blk_cell BK140.out 1).trans rfl
                  have hcz27_2 : w5.cell? ⟨gb140, 2, none⟩ = some (.bool a0_2) := (blk_cell BK140.out 2).trans rfl
                  have hcz27_3 : w5.cell? ⟨gb140, 3, none⟩ = some (.int .u64 a0_3) := (blk_cell BK140.out 3).trans rfl
                  have hcz27_4 : w5.cell? ⟨gb140, 4, none⟩ = some (.int .i64 a0_4) := (blk_cell BK140.out 4).trans rfl
                  have hcz27_5 : w5.cell? ⟨gb140, 5, none⟩ = some (.bool a0_5) := (blk_cell BK140.out 5).trans rfl
                  have hcz27_6 : w5.cell? ⟨gb140, 6, none⟩ = some (.int .u32 a0_6) := (blk_cell BK140.out 6).trans rfl
                  have hcz27_7 : w5.cell? ⟨gb140, 7, none⟩ = some (.int .i64 a0_7) := (blk_cell BK140.out 7).trans rfl
                  have hcz27_8 : w5.cell? ⟨gb140, 8, none⟩ = some (.int .i64 a0_8) := (blk_cell BK140.out 8).trans rfl
                  have hcz27_9 : w5.cell? ⟨gb140, 9, none⟩ = some (.int .i64 a0_9) := (blk_cell BK140.out 9).trans rfl
                  have hcz27_10 : w5.cell? ⟨gb140, 10, none⟩ = some (.int .i64 a0_10) := (blk_cell BK140.out 10).trans rfl
                  have hcz27_11 : w5.cell? ⟨gb140, 11, none⟩ = some (.int .i64 a0_11) := (blk_cell BK140.out 11).trans rfl
                  have hcz27_12 : w5.cell? ⟨gb140, 12, none⟩ = some (.int .i64 a0_12) := (blk_cell BK140.out 12).trans rfl
                  have hcz27_13 : w5.cell? ⟨gb140, 13, none⟩ = some (.int .i64 a0_13) := (blk_cell BK140.out 13).trans rfl
                  have hcz27_14 : w5.cell? ⟨gb140, 14, none⟩ = some (.int .i64 a0_14) := (blk_cell BK140.out 14).trans rfl
                  have hcz27_15 : w5.cell? ⟨gb140, 15, none⟩ = some (.int .i64 a0_15) := (blk_cell BK140.out 15).trans rfl
                  have hcz27_16 : w5.cell? ⟨gb140, 16, none⟩ = some (.int .i64 a0_16) := (blk_cell BK140.out 16).trans rfl
                  have hcz27_17 : w5.cell? ⟨gb140, 17, none⟩ = some (.slice A0_17 l0_17.length c0_17) := (blk_cell BK140.out 17).trans rfl
                  have hcz27_18 : w5.cell? ⟨gb140, 18, none⟩ = some (.slice A0_18 l0_18.length c0_18) := (blk_cell BK140.out 18).trans rfl
                  have hcz27_19 : w5.cell? ⟨gb140, 19, none⟩ = some (.slice A0_19 l0_19.length c0_19) := (blk_cell BK140.out 19).trans rfl
                  have hfz27_0 := blk_frozen BK140.out 0
                  have hfz27_1 := blk_frozen BK140.out 1
                  have hfz27_2 := blk_frozen BK140.out 2
                  have hfz27_3 := blk_frozen BK140.out 3
                  have hfz27_4 := blk_frozen BK140.out 4
                  have hfz27_5 := blk_frozen BK140.out 5
                  have hfz27_6 := blk_frozen BK140.out 6
                  have hfz27_7 := blk_frozen BK140.out 7
                  have hfz27_8 := blk_frozen BK140.out 8
                  have hfz27_9 := blk_frozen BK140.out 9
                  have hfz27_10 := blk_frozen BK140.out 10
                  have hfz27_11 := blk_frozen BK140.out 11
                  have hfz27_12 := blk_frozen BK140.out 12
                  have hfz27_13 := blk_frozen BK140.out 13
                  have hfz27_14 := blk_frozen BK140.out 14
                  have hfz27_15 := blk_frozen BK140.out 15
                  have hfz27_16 := blk_frozen BK140.out 16
                  have hfz27_17 := blk_frozen BK140.out 17
                  have hfz27_18 := blk_frozen BK140.out 18
                  have hfz27_19 := blk_frozen BK140.out 19
                  have hcz28_0 : w5.cell? ⟨gb141, 0, none⟩ = some (.int .i64 a1_0) := (blk_cell BK141.out 0).trans rfl
                  have hcz28_1 : w5.cell? ⟨gb141, 1, none⟩ = some (.int .u64 a1_1) := (blk_cell BK141.out 1).trans rfl
                  have hcz28_2 : w5.cell? ⟨gb141, 2, none⟩ = some (.bool a1_2) := (blk_cell BK141.out 2).trans rfl
                  have hcz28_3 : w5.cell? ⟨gb141, 3, none⟩ = some (.int .u64 a1_3) := (blk_cell BK141.out 3).trans rfl
                  have hcz28_4 : w5.cell? ⟨gb141, 4, none⟩ = some (.int .i64 a1_4) := (blk_cell BK141.out 4).trans rfl
                  have hcz28_5 : w5.cell? ⟨gb141, 5, none⟩ = some (.bool a1_5) := (blk_cell BK141.out 5).trans rfl
                  have hcz28_6 : w5.cell? ⟨gb141, 6, none⟩ = some (.int .u32 a1_6) := (blk_cell BK141.out 6).trans rfl
                  have hcz28_7 : w5.cell? ⟨gb141, 7, none⟩ = some (.int .i64 a1_7) := (blk_cell BK141.out 7).trans rfl
                  have hcz28_8 : w5.cell? ⟨gb141, 8, none⟩ = some (.int .i64 a1_8) := (blk_cell BK141.out 8).trans rfl
                  have hcz28_9 : w5.cell? ⟨gb141, 9, none⟩ = some (.int .i64 a1_9) := (blk_cell BK141.out 9).trans rfl
                  have hcz28_10 : w5.cell? ⟨gb141, 10, none⟩ = some (.int .i64 a1_10) := (blk_cell BK141.out 10).trans rfl
                  have hcz28_11 : w5.cell? ⟨gb141, 11, none⟩ = some (.int .i64 a1_11) := (blk_cell BK141.out 11).trans rfl
                  have hcz28_12 : w5.cell? ⟨gb141, 12, none⟩ = some (.int .i64 a1_12) := (blk_cell BK141.out 12).trans rfl
                  have hcz28_13 : w5.cell? ⟨gb141, 13, none⟩ = some (.int .i64 a1_13) := (blk_cell BK141.out 13).trans rfl
                  have hcz28_14 : w5.cell? ⟨gb141, 14, none⟩ = some (.int .i64 a1_14) := (blk_cell BK141.out 14).trans rfl
                  have hcz28_15 : w5.cell? ⟨gb141, 15, none⟩ = some (.int .i64 a1_15) := (blk_cell BK141.out 15).trans rfl
                  have hcz28_16 : w5.cell? ⟨gb141, 16, none⟩ = some (.int .i64 a1_16) := (blk_cell BK141.out 16).trans rfl
                  have hcz28_17 : w5.cell? ⟨gb141, 17, none⟩ = some (.slice A1_17 l1_17.length c1_17) := (blk_cell BK141.out 17).trans rfl
                  have hcz28_18 : w5.cell? ⟨gb141, 18, none⟩ = some (.slice A1_18 l1_18.length c1_18) := (blk_cell BK141.out 18).trans rfl
                  have hcz28_19 : w5.cell? ⟨gb141, 19, none⟩ = some (.slice A1_19 l1_19.length c1_19) := (blk_cell BK141.out 19).trans rfl
                  have hfz28_0 := blk_frozen BK141.out 0
                  have hfz28_1 := blk_frozen BK141.out 1
                  have hfz28_2 := blk_frozen BK141.out 2
                  have hfz28_3 := blk_frozen BK141.out 3
                  have hfz28_4 := blk_frozen BK141.out 4
                  have hfz28_5 := blk_frozen BK141.out 5
                  have hfz28_6 := blk_frozen BK141.out 6
                  have hfz28_7 := blk_frozen BK141.out 7
                  have hfz28_8 := blk_frozen BK141.out 8
                  have hfz28_9 := blk_frozen BK141.out 9
                  have hfz28_10 := blk_frozen BK141.out 10
                  have hfz28_11 := blk_frozen BK141.out 11
                  have hfz28_12 := blk_frozen BK141.out 12
                  have hfz28_13 := blk_frozen BK141.out 13
                  have hfz28_14 := blk_frozen BK141.out 14
                  have hfz28_15 := blk_frozen BK141.out 15
                  have hfz28_16 := blk_frozen BK141.out 16
                  have hfz28_17 := blk_frozen BK141.out 17
                  have hfz28_18 := blk_frozen BK141.out 18
                  have hfz28_19 := blk_frozen BK141.out 19
                  go_wp2_with (first | (go_at_call 37; (with_reducible refine (gazetteerref13_Same.calls k a0_13 a0_14 a0_15 a0_16 _ _ l0_17 _ _ l0_18 a1_13 a1_14 a1_15 a1_16 _ _ l1_17 _ _ l1_18 false _ ?side1 ?side2 ?side3 ?side4 ?side5 ?side6 ?side7 ?side8 A18.out).mono ?_); (case side1 => repeat (first | exact (Kd.C_below HR0_17.out HB.out) | (with_reducible refine Kd.C_alloc ?_ _) | (with_reducible refine Kd.C_drewN ?_ _) | (with_reducible refine Kd.C_drew ?_))); (case side2 => exact HC0_17.out); (case side3 => repeat (first | exact (Kd.C_below HR0_18.out HB.out) | (with_reducible refine Kd.C_alloc ?_ _) | (with_reducible refine Kd.C_drewN ?_ _) | (with_reducible refine Kd.C_drew ?_))); (case side4 => exact HC0_18.out); (case side5 => repeat (first | exact (Kd.C_below HR1_17.out HB.out) | (with_reducible refine Kd.C_alloc ?_ _) | (with_reducible refine Kd.C_drewN ?_ _) | (with_reducible refine Kd.C_drew ?_))); (case side6 => exact HC1_17.out); (case side7 => repeat (first | exact (Kd.C_below HR1_18.out HB.out) | (with_reducible refine Kd.C_alloc ?_ _) | (with_reducible refine Kd.C_drewN ?_ _) | (with_reducible refine Kd.C_drew ?_))); (case side8 => exact HC1_18.out); rintro e w29 ⟨rfl, hb⟩; have n0_ := Aside0.mk (blk_below (g := gb140) (o := .cells #[.int .i64 a0_0, .int .u64 a0_1, .bool a0_2, .int .u64 a0_3, .int .i64 a0_4, .bool a0_5, .int .u32 a0_6, .int .i64 a0_7, .int .i64 a0_8, .int .i64 a0_9, .int .i64 a0_10, .int .i64 a0_11, .int .i64 a0_12, .int .i64 a0_13, .int .i64 a0_14, .int .i64 a0_15, .int .i64 a0_16, .slice A0_17 l0_17.length c0_17, .slice A0_18 l0_18.length c0_18, .slice A0_19 l0_19.length c0_19] 33 (0, 0)) (by (with_reducible repeat (first | refine blk_drewN ?_ _ | refine blk_drew ?_ | refine blk_alloc ?_ _)); exact BK140.out) hb); have n1_ := Aside0.mk (blk_below (g := gb141) (o := .cells #[.int .i64 a1_0, .int .u64 a1_1, .bool a1_2, .int .u64 a1_3, .int .i64 a1_4, .bool a1_5, .int .u32 a1_6, .int .i64 a1_7, .int .i64 a1_8, .int .i64 a1_9, .int .i64 a1_10, .int .i64 a1_11, .int .i64 a1_12, .int .i64 a1_13, .int .i64 a1_14, .int .i64 a1_15, .int .i64 a1_16, .slice A1_17 l1_17.length c1_17, .slice A1_18 l1_18.length c1_18, .slice A1_19 l1_19.length c1_19] 33 (0, 0)) (by (with_reducible repeat (first | refine blk_drewN ?_ _ | refine blk_drew ?_ | refine blk_alloc ?_ _)); exact BK141.out) hb); have n2_ := Aside0.mk (below_step (by repeat (first | (with_reducible first | exact HB.out | apply below_alloc | apply pw_below_drewN | apply below_drew1 | refine below_set ?_ GE140.out | refine below_set ?_ GE141.out) | exact HB.out)) hb); clear BK140; clear BK141; clear HB; have BK140 := n0_; have BK141 := n1_; have HB := n2_; clear n0_ n1_ n2_; (try clear hb); (try clear hb2); (try clear hk); (try clear hi)))
                  repeat (go_quiet (first | (go_at_call 37; (with_reducible refine (gazetteerref13_Same.calls k a0_13 a0_14 a0_15 a0_16 _ _ l0_17 _ _ l0_18 a1_13 a1_14 a1_15 a1_16 _ _ l1_17 _ _ l1_18 false _ ?side1 ?side2 ?side3 ?side4 ?side5 ?side6 ?side7 ?side8 A18.out).mono ?_); (case side1 => repeat (first | exact (Kd.C_below HR0_17.out HB.out) | (with_reducible refine Kd.C_alloc ?_ _) | (with_reducible refine Kd.C_drewN ?_ _) | (with_reducible refine Kd.C_drew ?_))); (case side2 => exact HC0_17.out); (case side3 => repeat (first | exact (Kd.C_below HR0_18.out HB.out) | (with_reducible refine Kd.C_alloc ?_ _) | (with_reducible refine Kd.C_drewN ?_ _) | (with_reducible refine Kd.C_drew ?_))); (case side4 => exact HC0_18.out); (case side5 => repeat (first | exact (Kd.C_below HR1_17.out HB.out) | (with_reducible refine Kd.C_alloc ?_ _) | (with_reducible refine Kd.C_drewN ?_ _) | (with_reducible refine Kd.C_drew ?_))); (case side6 => exact HC1_17.out); (case side7 => repeat (first | exact (Kd.C_below HR1_18.out HB.out) | (with_reducible refine Kd.C_alloc ?_ _) | (with_reducible refine Kd.C_drewN ?_ _) | (with_reducible refine Kd.C_drew ?_))); (case side8 => exact HC1_18.out); rintro e w29 ⟨rfl, hb⟩; have n0_ := Aside0.mk (blk_below (g := gb140) (o := .cells #[.int .i64 a0_0, .int .u64 a0_1, .bool a0_2, .int .u64 a0_3, .int .i64 a0_4, .bool a0_5, .int .u32 a0_6, .int .i64 a0_7, .int .i64 a0_8, .int .i64 a0_9, .int .i64 a0_10, .int .i64 a0_11, .int .i64 a0_12, .int .i64 a0_13, .int .i64 a0_14, .int .i64 a0_15, .int .i64 a0_16, .slice A0_17 l0_17.length c0_17, .slice A0_18 l0_18.length c0_18, .slice A0_19 l0_19.length c0_19] 33 (0, 0)) (by (with_reducible repeat (first | refine blk_drewN ?_ _ | refine blk_drew ?_ | refine blk_alloc ?_ _)); exact BK140.out) hb); have n1_ := Aside0.mk (blk_below (g := gb141) (o := .cells #[.int .i64 a1_0, .int .u64 a1_1, .bool a1_2, .int .u64 a1_3, .int .i64 a1_4, .bool a1_5, .int .u32 a1_6, .int .i64 a1_7, .int .i64 a1_8, .int .i64 a1_9, .int .i64 a1_10, .int .i64 a1_11, .int .i64 a1_12, .int .i64 a1_13, .int .i64 a1_14, .int .i64 a1_15, .int .i64 a1_16, .slice A1_17 l1_17.length c1_17, .slice A1_18 l1_18.length c1_18, .slice A1_19 l1_19.length c1_19] 33 (0, 0)) (by (with_reducible repeat (first | refine blk_drewN ?_ _ | refine blk_drew ?_ | refine blk_alloc ?_ _)); exact BK141.out) hb); have n2_ := Aside0.mk (below_step (by repeat (first | (with_reducible first | exact HB.out | apply below_alloc | apply pw_below_drewN | apply below_drew1 | refine below_set ?_ GE140.out | refine below_set ?_ GE141.out) | exact HB.out)) hb); clear BK140; clear BK141; clear HB; have BK140 := n0_; have BK141 := n1_; have HB := n2_; clear n0_ n1_ n2_; (try clear hb); (try clear hb2); (try clear hk); (try clear hi))); try go_wp2_with (first | (go_at_call 37; (with_reducible refine (gazetteerref13_Same.calls k a0_13 a0_14 a0_15 a0_16 _ _ l0_17 _ _ l0_18 a1_13 a1_14 a1_15 a1_16 _ _ l1_17 _ _ l1_18 false _ ?side1 ?side2 ?side3 ?side4 ?side5 ?side6 ?side7 ?side8 A18.out).mono ?_); (case side1 => repeat (first | exact (Kd.C_below HR0_17.out HB.out) | (with_reducible refine Kd.C_alloc ?_ _) | (with_reducible refine Kd.C_drewN ?_ _) | (with_reducible refine Kd.C_drew ?_))); (case side2 => exact HC0_17.out); (case side3 => repeat (first | exact (Kd.C_below HR0_18.out HB.out) | (with_reducible refine Kd.C_alloc ?_ _) | (with_reducible refine Kd.C_drewN ?_ _) | (with_reducible refine Kd.C_drew ?_))); (case side4 => exact HC0_18.out); (case side5 => repeat (first | exact (Kd.C_below HR1_17.out HB.out) | (with_reducible refine Kd.C_alloc ?_ _) | (with_reducible refine Kd.C_drewN ?_ _) | (with_reducible refine Kd.C_drew ?_))); (case side6 => exact HC1_17.out); (case side7 => repeat (first | exact (Kd.C_below HR1_18.out HB.out) | (with_reducible refine Kd.C_alloc ?_ _) | (with_reducible refine Kd.C_drewN ?_ _) | (with_reducible refine Kd.C_drew ?_))); (case side8 => exact HC1_18.out); rintro e w29 ⟨rfl, hb⟩; have n0_ := Aside0.mk (blk_below (g := gb140) (o := .cells #[.int .i64 a0_0, .int .u64 a0_1, .bool a0_2, .int .u64 a0_3, .int .i64 a0_4, .bool a0_5, .int .u32 a0_6, .int .i64 a0_7, .int .i64 a0_8, .int .i64 a0_9, .int .i64 a0_10, .int .i64 a0_11, .int .i64 a0_12, .int .i64 a0_13, .int .i64 a0_14, .int .i64 a0_15, .int .i64 a0_16, .slice A0_17 l0_17.length c0_17, .slice A0_18 l0_18.length c0_18, .slice A0_19 l0_19.length c0_19] 33 (0, 0)) (by (with_reducible repeat (first | refine blk_drewN ?_ _ | refine blk_drew ?_ | refine blk_alloc ?_ _)); exact BK140.out) hb); have n1_ := Aside0.mk (blk_below (g := gb141) (o := .cells #[.int .i64 a1_0, .int .u64 a1_1, .bool a1_2, .int .u64 a1_3, .int .i64 a1_4, .bool a1_5, .int .u32 a1_6, .int .i64 a1_7, .int .i64 a1_8, .int .i64 a1_9, .int .i64 a1_10, .int .i64 a1_11, .int .i64 a1_12, .int .i64 a1_13, .int .i64 a1_14, .int .i64 a1_15, .int .i64 a1_16, .slice A1_17 l1_17.length c1_17, .slice A1_18 l1_18.length c1_18, .slice A1_19 l1_19.length c1_19] 33 (0, 0)) (by (with_reducible repeat (first | refine blk_drewN ?_ _ | refine blk_drew ?_ | refine blk_alloc ?_ _)); exact BK141.out) hb); have n2_ := Aside0.mk (below_step (by repeat (first | (with_reducible first | exact HB.out | apply below_alloc | apply pw_below_drewN | apply below_drew1 | refine below_set ?_ GE140.out | refine below_set ?_ GE141.out) | exact HB.out)) hb); clear BK140; clear BK141; clear HB; have BK140 := n0_; have BK141 := n1_; have HB := n2_; clear n0_ n1_ n2_; (try clear hb); (try clear hb2); (try clear hk); (try clear hi))))
                  go_meet
                  case rel => exact ⟨_, (true), (by first | rfl | (simp; done) | (simp [*]; done)), H', ⟨by first | omega | exact Nat.le_refl _⟩, ⟨by (with_reducible repeat (first | refine blk_drewN ?_ _ | refine blk_drew ?_ | refine blk_alloc ?_ _)); exact BK140.out⟩, ⟨by (with_reducible repeat (first | refine blk_drewN ?_ _ | refine blk_drew ?_ | refine blk_alloc ?_ _)); exact BK141.out⟩, ⟨by repeat (first | (with_reducible first | exact HB.out | apply below_alloc | apply pw_below_drewN | apply below_drew1 | refine below_set ?_ GE140.out | refine below_set ?_ GE141.out) | exact HB.out)⟩⟩
              · rw [if_neg c17] at H
                have c17b0 : (a0_12 == a1_12) = false := beq_eq_false_iff_ne.mpr c17
                have c17b1 : (a0_12 != a1_12) = true := bne_iff_ne.mpr c17
                have H' := Aside0.mk H
                clear H
                have hnb30 := NB140_141.out
                have hnc30 := NB141_140.out
                have hcz31_0 : w5.cell? ⟨gb140, 0, none⟩ = some (.int .i64 a0_0) := (blk_cell BK140.out 0).trans rfl
                have hcz31_1 : w5.cell? ⟨gb140, 1, none⟩ = some (.int .u64 a0_1) := (blk_cell BK140.out 1).trans rfl
                have hcz31_2 : w5.cell? ⟨gb140, 2, none⟩ = some (.bool a0_2) := (blk_cell BK140.out 2).trans rfl
                have hcz31_3 : w5.cell? ⟨gb140, 3, none⟩ = some (.int .u64 a0_3) := (blk_cell BK140.out 3).trans rfl
                have hcz31_4 : w5.cell? ⟨gb140, 4, none⟩ = some (.int .i64 a0_4) := (blk_cell BK140.out 4).trans rfl
                have hcz31_5 : w5.cell? ⟨gb140, 5, none⟩ = some (.bool a0_5) := (blk_cell BK140.out 5).trans rfl
                have hcz31_6 : w5.cell? ⟨gb140, 6, none⟩ = some (.int .u32 a0_6) := (blk_cell BK140.out 6).trans rfl
                have hcz31_7 : w5.cell? ⟨gb140, 7, none⟩ = some (.int .i64 a0_7) := (blk_cell BK140.out 7).trans rfl
                have hcz31_8 : w5.cell? ⟨gb140, 8, none⟩ = some (.int .i64 a0_8) := (blk_cell BK140.out 8).trans rfl
                have hcz31_9 : w5.cell? ⟨gb140, 9, none⟩ = some (.int .i64 a0_9) := (blk_cell BK140.out 9).trans rfl
                have hcz31_10 : w5.cell? ⟨gb140, 10, none⟩ = some (.int .i64 a0_10) := (blk_cell BK140.out 10).trans rfl
                have hcz31_11 : w5.cell? ⟨gb140, 11, none⟩ = some (.int .i64 a0_11) := (blk_cell BK140.out 11).trans rfl
                have hcz31_12 : w5.cell? ⟨gb140, 12, none⟩ = some (.int .i64 a0_12) := (blk_cell BK140.out 12).trans rfl
                have hcz31_13 : w5.cell? ⟨gb140, 13, none⟩ = some (.int .i64 a0_13) := (blk_cell BK140.out 13).trans rfl
                have hcz31_14 : w5.cell? ⟨gb140, 14, none⟩ = some (.int .i64 a0_14) := (blk_cell BK140.out 14).trans rfl
                have hcz31_15 : w5.cell? ⟨gb140, 15, none⟩ = some (.int .i64 a0_15) := (blk_cell BK140.out 15).trans rfl
                have hcz31_16 : w5.cell? ⟨gb140, 16, none⟩ = some (.int .i64 a0_16) := (blk_cell BK140.out 16).trans rfl
                have hcz31_17 : w5.cell? ⟨gb140, 17, none⟩ = some (.slice A0_17 l0_17.length c0_17) := (blk_cell BK140.out 17).trans rfl
                have hcz31_18 : w5.cell? ⟨gb140, 18, none⟩ = some (.slice A0_18 l0_18.length c0_18) := (blk_cell BK140.out 18).trans rfl
                have hcz31_19 : w5.cell? ⟨gb140, 19, none⟩ = some (.slice A0_19 l0_19.length c0_19) := (blk_cell BK140.out 19).trans rfl
                have hfz31_0 := blk_frozen BK140.out 0
                have hfz31_1 := blk_frozen BK140.out 1
                have hfz31_2 := blk_frozen BK140.out 2
                have hfz31_3 := blk_frozen BK140.out 3
                have hfz31_4 := blk_frozen BK140.out 4
                have hfz31_5 := blk_frozen BK140.out 5
                have hfz31_6 := blk_frozen BK140.out 6
                have hfz31_7 := blk_frozen BK140.out 7
                have hfz31_8 := blk_frozen BK140.out 8
                have hfz31_9 := blk_frozen BK140.out 9
                have hfz31_10 := blk_frozen BK140.out 10
                have hfz31_11 := blk_frozen BK140.out 11
                have hfz31_12 := blk_frozen BK140.out 12
                have hfz31_13 := blk_frozen BK140.out 13
                have hfz31_14 := blk_frozen BK140.out 14
                have hfz31_15 := blk_frozen BK140.out 15
                have hfz31_16 := blk_frozen BK140.out 16
                have hfz31_17 := blk_frozen BK140.out 17
                have hfz31_18 := blk_frozen BK140.out 18
                have hfz31_19 := blk_frozen BK140.out 19
                have hcz32_0 : w5.cell? ⟨gb141, 0, none⟩ = some (.int .i64 a1_0) := (blk_cell BK141.out 0).trans rfl
                have hcz32_1 : w5.cell? ⟨gb141, 1, none⟩ = some (.int .u64 a1_1) := (blk_cell BK141.out 1).trans rfl
                have hcz32_2 : w5.cell? ⟨gb141, 2, none⟩ = some (.bool a1_2) := (blk_cell BK141.out 2).trans rfl
                have hcz32_3 : w5.cell? ⟨gb141, 3, none⟩ = some (.int .u64 a1_3) := (blk_cell BK141.out 3).trans rfl
                have hcz32_4 : w5.cell? ⟨gb141, 4, none⟩ = some (.int .i64 a1_4) := (blk_cell BK141.out 4).trans rfl
                have hcz32_5 : w5.cell? ⟨gb141, 5, none⟩ = some (.bool a1_5) := (blk_cell BK141.out 5).trans rfl
                have hcz32_6 : w5.cell? ⟨gb141, 6, none⟩ = some (.int .u32 a1_6) := (blk_cell BK141.out 6).trans rfl
                have hcz32_7 : w5.cell? ⟨gb141, 7, none⟩ = some (.int .i64 a1_7) := (blk_cell BK141.out 7).trans rfl
                have hcz32_8 : w5.cell? ⟨gb141, 8, none⟩ = some (.int .i64 a1_8) := (blk_cell BK141.out 8).trans rfl
                have hcz32_9 : w5.cell? ⟨gb141, 9, none⟩ = some (.int .i64 a1_9) := (blk_cell BK141.out 9).trans rfl
                have hcz32_10 : w5.cell? ⟨gb141, 10, none⟩ = some (.int .i64 a1_10) := (blk_cell BK141.out 10).trans rfl
                have hcz32_11 : w5.cell? ⟨gb141, 11, none⟩ = some (.int .i64 a1_11) := (blk_cell BK141.out 11).trans rfl
                have hcz32_12 : w5.cell? ⟨gb141, 12, none⟩ = some (.int .i64 a1_12) := (blk_cell BK141.out 12).trans rfl
                have hcz32_13 : w5.cell? ⟨gb141, 13, none⟩ = some (.int .i64 a1_13) := (blk_cell BK141.out 13).trans rfl
                have hcz32_14 : w5.cell? ⟨gb141, 14, none⟩ = some (.int .i64 a1_14) := (blk_cell BK141.out 14).trans rfl
                have hcz32_15 : w5.cell? ⟨gb141, 15, none⟩ = some (.int .i64 a1_15) := (blk_cell BK141.out 15).trans rfl
                have hcz32_16 : w5.cell? ⟨gb141, 16, none⟩ = some (.int .i64 a1_16) := (blk_cell BK141.out 16).trans rfl
                have hcz32_17 : w5.cell? ⟨gb141, 17, none⟩ = some (.slice A1_17 l1_17.length c1_17) := (blk_cell BK141.out 17).trans rfl
                have hcz32_18 : w5.cell? ⟨gb141, 18, none⟩ = some (.slice A1_18 l1_18.length c1_18) := (blk_cell BK141.out 18).trans rfl
                have hcz32_19 : w5.cell? ⟨gb141, 19, none⟩ = some (.slice A1_19 l1_19.length c1_19) := (blk_cell BK141.out 19).trans rfl
                have hfz32_0 := blk_frozen BK141.out 0
                have hfz32_1 := blk_frozen BK141.out 1
                have hfz32_2 := blk_frozen BK141.out 2
                have hfz32_3 := blk_frozen BK141.out 3
                have hfz32_4 := blk_frozen BK141.out 4
                have hfz32_5 := blk_frozen BK141.out 5
                have hfz32_6 := blk_frozen BK141.out 6
                have hfz32_7 := blk_frozen BK141.out 7
                have hfz32_8 := blk_frozen BK141.out 8
                have hfz32_9 := blk_frozen BK141.out 9
                have hfz32_10 := blk_frozen BK141.out 10
                have hfz32_11 := blk_frozen BK141.out 11
                have hfz32_12 := blk_frozen BK141.out 12
                have hfz32_13 := blk_frozen BK141.out 13
                have hfz32_14 := blk_frozen BK141.out 14
                have hfz32_15 := blk_frozen BK141.out 15
                have hfz32_16 := blk_frozen BK141.out 16
                have hfz32_17 := blk_frozen BK141.out 17
                have hfz32_18 := blk_frozen BK141.out 18
                have hfz32_19 := blk_frozen BK141.out 19
                go_wp2
                repeat (go_quiet (fail); try go_wp2)
                go_meet
                case rel => exact ⟨_, (true), (by first | rfl | (simp; done) | (simp [*]; done)), H', ⟨by first | omega | exact Nat.le_refl _⟩, ⟨by (with_reducible repeat (first | refine blk_drewN ?_ _ | refine blk_drew ?_ | refine blk_alloc ?_ _)); exact BK140.out⟩, ⟨by (with_reducible repeat (first | refine blk_drewN ?_ _ | refine blk_drew ?_ | refine blk_alloc ?_ _)); exact BK141.out⟩, ⟨by repeat (first | (with_reducible first | exact HB.out | apply below_alloc | apply pw_below_drewN | apply below_drew1 | refine below_set ?_ GE140.out | refine below_set ?_ GE141.out) | exact HB.out)⟩⟩
          · rw [if_neg c12] at H
            have c12b0 : (a0_3 == a1_3) = false := beq_eq_false_iff_ne.mpr c12
            have c12b1 : (a0_3 != a1_3) = true := bne_iff_ne.mpr c12
            have H' := Aside0.mk H
            clear H
            have hnb33 := NB140_141.out
            have hnc33 := NB141_140.out
            have hcz34_0 : w5.cell? ⟨gb140, 0, none⟩ = some (.int .i64 a0_0) := (blk_cell BK140.out 0).trans rfl
            have hcz34_1 : w5.cell? ⟨gb140, 1, none⟩ = some (.int .u64 a0_1) := (blk_cell BK140.out 1).trans rfl
            have hcz34_2 : w5.cell? ⟨gb140, 2, none⟩ = some (.bool a0_2) := (blk_cell BK140.out 2).trans rfl
            have hcz34_3 : w5.cell? ⟨gb140, 3, none⟩ = some (.int .u64 a0_3) := (blk_cell BK140.out 3).trans rfl
            have hcz34_4 : w5.cell? ⟨gb140, 4, none⟩ = some (.int .i64 a0_4) := (blk_cell BK140.out 4).trans rfl
            have hcz34_5 : w5.cell? ⟨gb140, 5, none⟩ = some (.bool a0_5) := (blk_cell BK140.out 5).trans rfl
            have hcz34_6 : w5.cell? ⟨gb140, 6, none⟩ = some (.int .u32 a0_6) := (blk_cell BK140.out 6).trans rfl
            have hcz34_7 : w5.cell? ⟨gb140, 7, none⟩ = some (.int .i64 a0_7) := (blk_cell BK140.out 7).trans rfl
            have hcz34_8 : w5.cell? ⟨gb140, 8, none⟩ = some (.int .i64 a0_8) := (blk_cell BK140.out 8).trans rfl
            have hcz34_9 : w5.cell? ⟨gb140, 9, none⟩ = some (.int .i64 a0_9) := (blk_cell BK140.out 9).trans rfl
            have hcz34_10 : w5.cell? ⟨gb140, 10, none⟩ = some (.int .i64 a0_10) := (blk_cell BK140.out 10).trans rfl
            have hcz34_11 : w5.cell? ⟨gb140, 11, none⟩ = some (.int .i64 a0_11) := (blk_cell BK140.out 11).trans rfl
            have hcz34_12 : w5.cell? ⟨gb140, 12, none⟩ = some (.int .i64 a0_12) := (blk_cell BK140.out 12).trans rfl
            have hcz34_13 : w5.cell? ⟨gb140, 13, none⟩ = some (.int .i64 a0_13) := (blk_cell BK140.out 13).trans rfl
            have hcz34_14 : w5.cell? ⟨gb140, 14, none⟩ = some (.int .i64 a0_14) := (blk_cell BK140.out 14).trans rfl
            have hcz34_15 : w5.cell? ⟨gb140, 15, none⟩ = some (.int .i64 a0_15) := (blk_cell BK140.out 15).trans rfl
            have hcz34_16 : w5.cell? ⟨gb140, 16, none⟩ = some (.int .i64 a0_16) := (blk_cell BK140.out 16).trans rfl
            have hcz34_17 : w5.cell? ⟨gb140, 17, none⟩ = some (.slice A0_17 l0_17.length c0_17) := (blk_cell BK140.out 17).trans rfl
            have hcz34_18 : w5.cell? ⟨gb140, 18, none⟩ = some (.slice A0_18 l0_18.length c0_18) := (blk_cell BK140.out 18).trans rfl
            have hcz34_19 : w5.cell? ⟨gb140, 19, none⟩ = some (.slice A0_19 l0_19.length c0_19) := (blk_cell BK140.out 19).trans rfl
            have hfz34_0 := blk_frozen BK140.out 0
            have hfz34_1 := blk_frozen BK140.out 1
            have hfz34_2 := blk_frozen BK140.out 2
            have hfz34_3 := blk_frozen BK140.out 3
            have hfz34_4 := blk_frozen BK140.out 4
            have hfz34_5 := blk_frozen BK140.out 5
            have hfz34_6 := blk_frozen BK140.out 6
            have hfz34_7 := blk_frozen BK140.out 7
            have hfz34_8 := blk_frozen BK140.out 8
            have hfz34_9 := blk_frozen BK140.out 9
            have hfz34_10 := blk_frozen BK140.out 10
            have hfz34_11 := blk_frozen BK140.out 11
            have hfz34_12 := blk_frozen BK140.out 12
            have hfz34_13 := blk_frozen BK140.out 13
            have hfz34_14 := blk_frozen BK140.out 14
            have hfz34_15 := blk_frozen BK140.out 15
            have hfz34_16 := blk_frozen BK140.out 16
            have hfz34_17 := blk_frozen BK140.out 17
            have hfz34_18 := blk_frozen BK140.out 18
            have hfz34_19 := blk_frozen BK140.out 19
            have hcz35_0 : w5.cell? ⟨gb141, 0, none⟩ = some (.int .i64 a1_0) := (blk_cell BK141.out 0).trans rfl
            have hcz35_1 : w5.cell? ⟨gb141, 1, none⟩ = some (.int .u64 a1_1) := (blk_cell BK141.out 1).trans rfl
            have hcz35_2 : w5.cell? ⟨gb141, 2, none⟩ = some (.bool a1_2) := (blk_cell BK141.out 2).trans rfl
            have hcz35_3 : w5.cell? ⟨gb141, 3, none⟩ = some (.int .u64 a1_3) := (blk_cell BK141.out 3).trans rfl
            have hcz35_4 : w5.cell? ⟨gb141, 4, none⟩ = some (.int .i64 a1_4) := (blk_cell BK141.out 4).trans rfl
            have hcz35_5 : w5.cell? ⟨gb141, 5, none⟩ = some (.bool a1_5) := (blk_cell BK141.out 5).trans rfl
            have hcz35_6 : w5.cell? ⟨gb141, 6, none⟩ = some (.int .u32 a1_6) := (blk_cell BK141.out 6).trans rfl
            have hcz35_7 : w5.cell? ⟨gb141, 7, none⟩ = some (.int .i64 a1_7) := (blk_cell BK141.out 7).trans rfl
            have hcz35_8 : w5.cell? ⟨gb141, 8, none⟩ = some (.int .i64 a1_8) := (blk_cell BK141.out 8).trans rfl
            have hcz35_9 : w5.cell? ⟨gb141, 9, none⟩ = some (.int .i64 a1_9) := (blk_cell BK141.out 9).trans rfl
            have hcz35_10 : w5.cell? ⟨gb141, 10, none⟩ = some (.int .i64 a1_10) := (blk_cell BK141.out 10).trans rfl
            have hcz35_11 : w5.cell? ⟨gb141, 11, none⟩ = some (.int .i64 a1_11) := (blk_cell BK141.out 11).trans rfl
            have hcz35_12 : w5.cell? ⟨gb141, 12, none⟩ = some (.int .i64 a1_12) := (blk_cell BK141.out 12).trans rfl
            have hcz35_13 : w5.cell? ⟨gb141, 13, none⟩ = some (.int .i64 a1_13) := (blk_cell BK141.out 13).trans rfl
            have hcz35_14 : w5.cell? ⟨gb141, 14, none⟩ = some (.int .i64 a1_14) := (blk_cell BK141.out 14).trans rfl
            have hcz35_15 : w5.cell? ⟨gb141, 15, none⟩ = some (.int .i64 a1_15) := (blk_cell BK141.out 15).trans rfl
            have hcz35_16 : w5.cell? ⟨gb141, 16, none⟩ = some (.int .i64 a1_16) := (blk_cell BK141.out 16).trans rfl
            have hcz35_17 : w5.cell? ⟨gb141, 17, none⟩ = some (.slice A1_17 l1_17.length c1_17) := (blk_cell BK141.out 17).trans rfl
            have hcz35_18 : w5.cell? ⟨gb141, 18, none⟩ = some (.slice A1_18 l1_18.length c1_18) := (blk_cell BK141.out 18).trans rfl
            have hcz35_19 : w5.cell? ⟨gb141, 19, none⟩ = some (.slice A1_19 l1_19.length c1_19) := (blk_cell BK141.out 19).trans rfl
            have hfz35_0 := blk_frozen BK141.out 0
            have hfz35_1 := blk_frozen BK141.out 1
            have hfz35_2 := blk_frozen BK141.out 2
            have hfz35_3 := blk_frozen BK141.out 3
            have hfz35_4 := blk_frozen BK141.out 4
            have hfz35_5 := blk_frozen BK141.out 5
            have hfz35_6 := blk_frozen BK141.out 6
            have hfz35_7 := blk_frozen BK141.out 7
            have hfz35_8 := blk_frozen BK141.out 8
            have hfz35_9 := blk_frozen BK141.out 9
            have hfz35_10 := blk_frozen BK141.out 10
            have hfz35_11 := blk_frozen BK141.out 11
            have hfz35_12 := blk_frozen BK141.out 12
            have hfz35_13 := blk_frozen BK141.out 13
            have hfz35_14 := blk_frozen BK141.out 14
            have hfz35_15 := blk_frozen BK141.out 15
            have hfz35_16 := blk_frozen BK141.out 16
            have hfz35_17 := blk_frozen BK141.out 17
            have hfz35_18 := blk_frozen BK141.out 18
            have hfz35_19 := blk_frozen BK141.out 19
            go_wp2
            repeat (go_quiet (fail); try go_wp2)
            go_meet
            case rel => exact ⟨_, (true), (by first | rfl | (simp; done) | (simp [*]; done)), H', ⟨by first | omega | exact Nat.le_refl _⟩, ⟨by (with_reducible repeat (first | refine blk_drewN ?_ _ | refine blk_drew ?_ | refine blk_alloc ?_ _)); exact BK140.out⟩, ⟨by (with_reducible repeat (first | refine blk_drewN ?_ _ | refine blk_drew ?_ | refine blk_alloc ?_ _)); exact BK141.out⟩, ⟨by repeat (first | (with_reducible first | exact HB.out | apply below_alloc | apply pw_below_drewN | apply below_drew1 | refine below_set ?_ GE140.out | refine below_set ?_ GE141.out) | exact HB.out)⟩⟩
      · rw [if_neg c7] at H
        have c7b0 : (a0_1 == a1_1) = false := beq_eq_false_iff_ne.mpr c7
        have c7b1 : (a0_1 != a1_1) = true := bne_iff_ne.mpr c7
        have H' := Aside0.mk H
        clear H
        have hnb36 := NB140_141.out
        have hnc36 := NB141_140.out
        have hcz37_0 : w5.cell? ⟨gb140, 0, none⟩ = some (.int .i64 a0_0) := (blk_cell BK140.out 0).trans rfl
        have hcz37_1 : w5.cell? ⟨gb140, 1, none⟩ = some (.int .u64 a0_1) := (blk_cell BK140.out 1).trans rfl
        have hcz37_2 : w5.cell? ⟨gb140, 2, none⟩ = some (.bool a0_2) := (blk_cell BK140.out 2).trans rfl
        have hcz37_3 : w5.cell? ⟨gb140, 3, none⟩ = some (.int .u64 a0_3) := (blk_cell BK140.out 3).trans rfl
        have hcz37_4 : w5.cell? ⟨gb140, 4, none⟩ = some (.int .i64 a0_4) := (blk_cell BK140.out 4).trans rfl
        have hcz37_5 : w5.cell? ⟨gb140, 5, none⟩ = some (.bool a0_5) := (blk_cell BK140.out 5).trans rfl
        have hcz37_6 : w5.cell? ⟨gb140, 6, none⟩ = some (.int .u32 a0_6) := (blk_cell BK140.out 6).trans rfl
        have hcz37_7 : w5.cell? ⟨gb140, 7, none⟩ = some (.int .i64 a0_7) := (blk_cell BK140.out 7).trans rfl
        have hcz37_8 : w5.cell? ⟨gb140, 8, none⟩ = some (.int .i64 a0_8) := (blk_cell BK140.out 8).trans rfl
        have hcz37_9 : w5.cell? ⟨gb140, 9, none⟩ = some (.int .i64 a0_9) := (blk_cell BK140.out 9).trans rfl
        have hcz37_10 : w5.cell? ⟨gb140, 10, none⟩ = some (.int .i64 a0_10) := (blk_cell BK140.out 10).trans rfl
        have hcz37_11 : w5.cell? ⟨gb140, 11, none⟩ = some (.int .i64 a0_11) := (blk_cell BK140.out 11).trans rfl
        have hcz37_12 : w5.cell? ⟨gb140, 12, none⟩ = some (.int .i64 a0_12) := (blk_cell BK140.out 12).trans rfl
        have hcz37_13 : w5.cell? ⟨gb140, 13, none⟩ = some (.int .i64 a0_13) := (blk_cell BK140.out 13).trans rfl
        have hcz37_14 : w5.cell? ⟨gb140, 14, none⟩ = some (.int .i64 a0_14) := (blk_cell BK140.out 14).trans rfl
        have hcz37_15 : w5.cell? ⟨gb140, 15, none⟩ = some (.int .i64 a0_15) := (blk_cell BK140.out 15).trans rfl
        have hcz37_16 : w5.cell? ⟨gb140, 16, none⟩ = some (.int .i64 a0_16) := (blk_cell BK140.out 16).trans rfl
        have hcz37_17 : w5.cell? ⟨gb140, 17, none⟩ = some (.slice A0_17 l0_17.length c0_17) := (blk_cell BK140.out 17).trans rfl
        have hcz37_18 : w5.cell? ⟨gb140, 18, none⟩ = some (.slice A0_18 l0_18.length c0_18) := (blk_cell BK140.out 18).trans rfl
        have hcz37_19 : w5.cell? ⟨gb140, 19, none⟩ = some (.slice A0_19 l0_19.length c0_19) := (blk_cell BK140.out 19).trans rfl
        have hfz37_0 := blk_frozen BK140.out 0
        have hfz37_1 := blk_frozen BK140.out 1
        have hfz37_2 := blk_frozen BK140.out 2
        have hfz37_3 := blk_frozen BK140.out 3
        have hfz37_4 := blk_frozen BK140.out 4
        have hfz37_5 := blk_frozen BK140.out 5
        have hfz37_6 := blk_frozen BK140.out 6
        have hfz37_7 := blk_frozen BK140.out 7
        have hfz37_8 := blk_frozen BK140.out 8
        have hfz37_9 := blk_frozen BK140.out 9
        have hfz37_10 := blk_frozen BK140.out 10
        have hfz37_11 := blk_frozen BK140.out 11
        have hfz37_12 := blk_frozen BK140.out 12
        have hfz37_13 := blk_frozen BK140.out 13
        have hfz37_14 := blk_frozen BK140.out 14
        have hfz37_15 := blk_frozen BK140.out 15
        have hfz37_16 := blk_frozen BK140.out 16
        have hfz37_17 := blk_frozen BK140.out 17
        have hfz37_18 := blk_frozen BK140.out 18
        have hfz37_19 := blk_frozen BK140.out 19
        have hcz38_0 : w5.cell? ⟨gb141, 0, none⟩ = some (.int .i64 a1_0) := (blk_cell BK141.out 0).trans rfl
        have hcz38_1 : w5.cell? ⟨gb141, 1, none⟩ = some (.int .u64 a1_1) := (blk_cell BK141.out 1).trans rfl
        have hcz38_2 : w5.cell? ⟨gb141, 2, none⟩ = some (.bool a1_2) := (blk_cell BK141.out 2).trans rfl
        have hcz38_3 : w5.cell? ⟨gb141, 3, none⟩ = some (.int .u64 a1_3) := (blk_cell BK141.out 3).trans rfl
        have hcz38_4 : w5.cell? ⟨gb141, 4, none⟩ = some (.int .i64 a1_4) := (blk_cell BK141.out 4).trans rfl
        have hcz38_5 : w5.cell? ⟨gb141, 5, none⟩ = some (.bool a1_5) := (blk_cell BK141.out 5).trans rfl
        have hcz38_6 : w5.cell? ⟨gb141, 6, none⟩ = some (.int .u32 a1_6) := (blk_cell BK141.out 6).trans rfl
        have hcz38_7 : w5.cell? ⟨gb141, 7, none⟩ = some (.int .i64 a1_7) := (blk_cell BK141.out 7).trans rfl
        have hcz38_8 : w5.cell? ⟨gb141, 8, none⟩ = some (.int .i64 a1_8) := (blk_cell BK141.out 8).trans rfl
        have hcz38_9 : w5.cell? ⟨gb141, 9, none⟩ = some (.int .i64 a1_9) := (blk_cell BK141.out 9).trans rfl
        have hcz38_10 : w5.cell? ⟨gb141, 10, none⟩ = some (.int .i64 a1_10) := (blk_cell BK141.out 10).trans rfl
        have hcz38_11 : w5.cell? ⟨gb141, 11, none⟩ = some (.int .i64 a1_11) := (blk_cell BK141.out 11).trans rfl
        have hcz38_12 : w5.cell? ⟨gb141, 12, none⟩ = some (.int .i64 a1_12) := (blk_cell BK141.out 12).trans rfl
        have hcz38_13 : w5.cell? ⟨gb141, 13, none⟩ = some (.int .i64 a1_13) := (blk_cell BK141.out 13).trans rfl
        have hcz38_14 : w5.cell? ⟨gb141, 14, none⟩ = some (.int .i64 a1_14) := (blk_cell BK141.out 14).trans rfl
        have hcz38_15 : w5.cell? ⟨gb141, 15, none⟩ = some (.int .i64 a1_15) := (blk_cell BK141.out 15).trans rfl
        have hcz38_16 : w5.cell? ⟨gb141, 16, none⟩ = some (.int .i64 a1_16) := (blk_cell BK141.out 16).trans rfl
        have hcz38_17 : w5.cell? ⟨gb141, 17, none⟩ = some (.slice A1_17 l1_17.length c1_17) := (blk_cell BK141.out 17).trans rfl
        have hcz38_18 : w5.cell? ⟨gb141, 18, none⟩ = some (.slice A1_18 l1_18.length c1_18) := (blk_cell BK141.out 18).trans rfl
        have hcz38_19 : w5.cell? ⟨gb141, 19, none⟩ = some (.slice A1_19 l1_19.length c1_19) := (blk_cell BK141.out 19).trans rfl
        have hfz38_0 := blk_frozen BK141.out 0
        have hfz38_1 := blk_frozen BK141.out 1
        have hfz38_2 := blk_frozen BK141.out 2
        have hfz38_3 := blk_frozen BK141.out 3
        have hfz38_4 := blk_frozen BK141.out 4
        have hfz38_5 := blk_frozen BK141.out 5
        have hfz38_6 := blk_frozen BK141.out 6
        have hfz38_7 := blk_frozen BK141.out 7
        have hfz38_8 := blk_frozen BK141.out 8
        have hfz38_9 := blk_frozen BK141.out 9
        have hfz38_10 := blk_frozen BK141.out 10
        have hfz38_11 := blk_frozen BK141.out 11
        have hfz38_12 := blk_frozen BK141.out 12
        have hfz38_13 := blk_frozen BK141.out 13
        have hfz38_14 := blk_frozen BK141.out 14
        have hfz38_15 := blk_frozen BK141.out 15
        have hfz38_16 := blk_frozen BK141.out 16
        have hfz38_17 := blk_frozen BK141.out 17
        have hfz38_18 := blk_frozen BK141.out 18
        have hfz38_19 := blk_frozen BK141.out 19
        go_wp2
        repeat (go_quiet (fail); try go_wp2)
        go_meet
        case rel => exact ⟨_, (true), (by first | rfl | (simp; done) | (simp [*]; done)), H', ⟨by first | omega | exact Nat.le_refl _⟩, ⟨by (with_reducible repeat (first | refine blk_drewN ?_ _ | refine blk_drew ?_ | refine blk_alloc ?_ _)); exact BK140.out⟩, ⟨by (with_reducible repeat (first | refine blk_drewN ?_ _ | refine blk_drew ?_ | refine blk_alloc ?_ _)); exact BK141.out⟩, ⟨by repeat (first | (with_reducible first | exact HB.out | apply below_alloc | apply pw_below_drewN | apply below_drew1 | refine below_set ?_ GE140.out | refine below_set ?_ GE141.out) | exact HB.out)⟩⟩
    · rw [if_neg c6] at H
      have c6b0 : (a0_0 == a1_0) = false := beq_eq_false_iff_ne.mpr c6
      have c6b1 : (a0_0 != a1_0) = true := bne_iff_ne.mpr c6
      (first | rw [c6b0] | (simp only [i64_w, i32_w]; rw [c6b0]) | skip)
      have H' := Aside0.mk H
      clear H
      have hnb39 := NB140_141.out
      have hnc39 := NB141_140.out
      have hcz40_0 : w5.cell? ⟨gb140, 0, none⟩ = some (.int .i64 a0_0) := (blk_cell BK140.out 0).trans rfl
      have hcz40_1 : w5.cell? ⟨gb140, 1, none⟩ = some (.int .u64 a0_1) := (blk_cell BK140.out 1).trans rfl
      have hcz40_2 : w5.cell? ⟨gb140, 2, none⟩ = some (.bool a0_2) := (blk_cell BK140.out 2).trans rfl
      have hcz40_3 : w5.cell? ⟨gb140, 3, none⟩ = some (.int .u64 a0_3) := (blk_cell BK140.out 3).trans rfl
      have hcz40_4 : w5.cell? ⟨gb140, 4, none⟩ = some (.int .i64 a0_4) := (blk_cell BK140.out 4).trans rfl
      have hcz40_5 : w5.cell? ⟨gb140, 5, none⟩ = some (.bool a0_5) := (blk_cell BK140.out 5).trans rfl
      have hcz40_6 : w5.cell? ⟨gb140, 6, none⟩ = some (.int .u32 a0_6) := (blk_cell BK140.out 6).trans rfl
      have hcz40_7 : w5.cell? ⟨gb140, 7, none⟩ = some (.int .i64 a0_7) := (blk_cell BK140.out 7).trans rfl
      have hcz40_8 : w5.cell? ⟨gb140, 8, none⟩ = some (.int .i64 a0_8) := (blk_cell BK140.out 8).trans rfl
      have hcz40_9 : w5.cell? ⟨gb140, 9, none⟩ = some (.int .i64 a0_9) := (blk_cell BK140.out 9).trans rfl
      have hcz40_10 : w5.cell? ⟨gb140, 10, none⟩ = some (.int .i64 a0_10) := (blk_cell BK140.out 10).trans rfl
      have hcz40_11 : w5.cell? ⟨gb140, 11, none⟩ = some (.int .i64 a0_11) := (blk_cell BK140.out 11).trans rfl
      have hcz40_12 : w5.cell? ⟨gb140, 12, none⟩ = some (.int .i64 a0_12) := (blk_cell BK140.out 12).trans rfl
      have hcz40_13 : w5.cell? ⟨gb140, 13, none⟩ = some (.int .i64 a0_13) := (blk_cell BK140.out 13).trans rfl
      have hcz40_14 : w5.cell? ⟨gb140, 14, none⟩ = some (.int .i64 a0_14) := (blk_cell BK140.out 14).trans rfl
      have hcz40_15 : w5.cell? ⟨gb140, 15, none⟩ = some (.int .i64 a0_15) := (blk_cell BK140.out 15).trans rfl
      have hcz40_16 : w5.cell? ⟨gb140, 16, none⟩ = some (.int .i64 a0_16) := (blk_cell BK140.out 16).trans rfl
      have hcz40_17 : w5.cell? ⟨gb140, 17, none⟩ = some (.slice A0_17 l0_17.length c0_17) := (blk_cell BK140.out 17).trans rfl
      have hcz40_18 : w5.cell? ⟨gb140, 18, none⟩ = some (.slice A0_18 l0_18.length c0_18) := (blk_cell BK140.out 18).trans rfl
      have hcz40_19 : w5.cell? ⟨gb140, 19, none⟩ = some (.slice A0_19 l0_19.length c0_19) := (blk_cell BK140.out 19).trans rfl
      have hfz40_0 := blk_frozen BK140.out 0
      have hfz40_1 := blk_frozen BK140.out 1
      have hfz40_2 := blk_frozen BK140.out 2
      have hfz40_3 := blk_frozen BK140.out 3
      have hfz40_4 := blk_frozen BK140.out 4
      have hfz40_5 := blk_frozen BK140.out 5
      have hfz40_6 := blk_frozen BK140.out 6
      have hfz40_7 := blk_frozen BK140.out 7
      have hfz40_8 := blk_frozen BK140.out 8
      have hfz40_9 := blk_frozen BK140.out 9
      have hfz40_10 := blk_frozen BK140.out 10
      have hfz40_11 := blk_frozen BK140.out 11
      have hfz40_12 := blk_frozen BK140.out 12
      have hfz40_13 := blk_frozen BK140.out 13
      have hfz40_14 := blk_frozen BK140.out 14
      have hfz40_15 := blk_frozen BK140.out 15
      have hfz40_16 := blk_frozen BK140.out 16
      have hfz40_17 := blk_frozen BK140.out 17
      have hfz40_18 := blk_frozen BK140.out 18
      have hfz40_19 := blk_frozen BK140.out 19
      have hcz41_0 : w5.cell? ⟨gb141, 0, none⟩ = some (.int .i64 a1_0) := (blk_cell BK141.out 0).trans rfl
      have hcz41_1 : w5.cell? ⟨gb141, 1, none⟩ = some (.int .u64 a1_1) := (blk_cell BK141.out 1).trans rfl
      have hcz41_2 : w5.cell? ⟨gb141, 2, none⟩ = some (.bool a1_2) := (blk_cell BK141.out 2).trans rfl
      have hcz41_3 : w5.cell? ⟨gb141, 3, none⟩ = some (.int .u64 a1_3) := (blk_cell BK141.out 3).trans rfl
      have hcz41_4 : w5.cell? ⟨gb141, 4, none⟩ = some (.int .i64 a1_4) := (blk_cell BK141.out 4).trans rfl
      have hcz41_5 : w5.cell? ⟨gb141, 5, none⟩ = some (.bool a1_5) := (blk_cell BK141.out 5).trans rfl
      have hcz41_6 : w5.cell? ⟨gb141, 6, none⟩ = some (.int .u32 a1_6) := (blk_cell BK141.out 6).trans rfl
      have hcz41_7 : w5.cell? ⟨gb141, 7, none⟩ = some (.int .i64 a1_7) := (blk_cell BK141.out 7).trans rfl
      have hcz41_8 : w5.cell? ⟨gb141, 8, none⟩ = some (.int .i64 a1_8) := (blk_cell BK141.out 8).trans rfl
      have hcz41_9 : w5.cell? ⟨gb141, 9, none⟩ = some (.int .i64 a1_9) := (blk_cell BK141.out 9).trans rfl
      have hcz41_10 : w5.cell? ⟨gb141, 10, none⟩ = some (.int .i64 a1_10) := (blk_cell BK141.out 10).trans rfl
      have hcz41_11 : w5.cell? ⟨gb141, 11, none⟩ = some (.int .i64 a1_11) := (blk_cell BK141.out 11).trans rfl
      have hcz41_12 : w5.cell? ⟨gb141, 12, none⟩ = some (.int .i64 a1_12) := (blk_cell BK141.out 12).trans rfl
      have hcz41_13 : w5.cell? ⟨gb141, 13, none⟩ = some (.int .i64 a1_13) := (blk_cell BK141.out 13).trans rfl
      have hcz41_14 : w5.cell? ⟨gb141, 14, none⟩ = some (.int .i64 a1_14) := (blk_cell BK141.out 14).trans rfl
      have hcz41_15 : w5.cell? ⟨gb141, 15, none⟩ = some (.int .i64 a1_15) := (blk_cell BK141.out 15).trans rfl
      have hcz41_16 : w5.cell? ⟨gb141, 16, none⟩ = some (.int .i64 a1_16) := (blk_cell BK141.out 16).trans rfl
      have hcz41_17 : w5.cell? ⟨gb141, 17, none⟩ = some (.slice A1_17 l1_17.length c1_17) := (blk_cell BK141.out 17).trans rfl
      have hcz41_18 : w5.cell? ⟨gb141, 18, none⟩ = some (.slice A1_18 l1_18.length c1_18) := (blk_cell BK141.out 18).trans rfl
      have hcz41_19 : w5.cell? ⟨gb141, 19, none⟩ = some (.slice A1_19 l1_19.length c1_19) := (blk_cell BK141.out 19).trans rfl
      have hfz41_0 := blk_frozen BK141.out 0
      have hfz41_1 := blk_frozen BK141.out 1
      have hfz41_2 := blk_frozen BK141.out 2
      have hfz41_3 := blk_frozen BK141.out 3
      have hfz41_4 := blk_frozen BK141.out 4
      have hfz41_5 := blk_frozen BK141.out 5
      have hfz41_6 := blk_frozen BK141.out 6
      have hfz41_7 := blk_frozen BK141.out 7
      have hfz41_8 := blk_frozen BK141.out 8
      have hfz41_9 := blk_frozen BK141.out 9
      have hfz41_10 := blk_frozen BK141.out 10
      have hfz41_11 := blk_frozen BK141.out 11
      have hfz41_12 := blk_frozen BK141.out 12
      have hfz41_13 := blk_frozen BK141.out 13
      have hfz41_14 := blk_frozen BK141.out 14
      have hfz41_15 := blk_frozen BK141.out 15
      have hfz41_16 := blk_frozen BK141.out 16
      have hfz41_17 := blk_frozen BK141.out 17
      have hfz41_18 := blk_frozen BK141.out 18
      have hfz41_19 := blk_frozen BK141.out 19
      go_wp2
      repeat (go_quiet (fail); try go_wp2)
      go_meet
      case rel => exact ⟨_, (true), (by first | rfl | (simp; done) | (simp [*]; done)), H', ⟨by first | omega | exact Nat.le_refl _⟩, ⟨by (with_reducible repeat (first | refine blk_drewN ?_ _ | refine blk_drew ?_ | refine blk_alloc ?_ _)); exact BK140.out⟩, ⟨by (with_reducible repeat (first | refine blk_drewN ?_ _ | refine blk_drew ?_ | refine blk_alloc ?_ _)); exact BK141.out⟩, ⟨by repeat (first | (with_reducible first | exact HB.out | apply below_alloc | apply pw_below_drewN | apply below_drew1 | refine below_set ?_ GE140.out | refine below_set ?_ GE141.out) | exact HB.out)⟩⟩
  case rest =>
    clear HC3
    try clear c1
    try clear c2
    try clear p2
    try clear c3
    try clear c6
    try clear c6b0
    try clear c6b1
    try clear c7
    try clear c7b0
    try clear c7b1
    try clear c12
    try clear c12b0
    try clear c12b1
    try clear c13
    try clear c13b0
    try clear c17
    try clear c17b0
    try clear c17b1
    try clear c19
    try clear c20
    try clear c26
    try clear c30
    try clear c33
    try clear c36
    try clear c39
    try clear hcz16_12
    try clear hcz16_13
    try clear hcz16_14
    try clear hcz16_15
    try clear hcz16_16
    try clear hcz16_17
    try clear hcz16_18
    try clear hcz16_19
    try clear hcz21_0
    try clear hcz21_1
    try clear hcz21_10
    try clear hcz21_11
    try clear hcz21_12
    try clear hcz21_13
    try clear hcz21_14
    try clear hcz21_15
    try clear hcz21_16
    try clear hcz21_17
    try clear hcz21_18
    try clear hcz21_19
    try clear hcz21_2
    try clear hcz21_3
    try clear hcz21_4
    try clear hcz21_5
    try clear hcz21_6
    try clear hcz21_7
    try clear hcz21_8
    try clear hcz21_9
    try clear hcz22_0
    try clear hcz22_1
    try clear hcz22_10
    try clear hcz22_11
    try clear hcz22_12
    try clear hcz22_13
    try clear hcz22_14
    try clear hcz22_15
    try clear hcz22_16
    try clear hcz22_17
    try clear hcz22_18
    try clear hcz22_19
    try clear hcz22_2
    try clear hcz22_3
    try clear hcz22_4
    try clear hcz22_5
    try clear hcz22_6
    try clear hcz22_7
    try clear hcz22_8
    try clear hcz22_9
    try clear hcz24_0
    try clear hcz24_1
    try clear hcz24_10
    try clear hcz24_11
    try clear hcz24_12
    try clear hcz24_13
    try clear hcz24_14
    try clear hcz24_15
    try clear hcz24_16
    try clear hcz24_17
    try clear hcz24_18
    try clear hcz24_19
    try clear hcz24_2
    try clear hcz24_3
    try clear hcz24_4
    try clear hcz24_5
    try clear hcz24_6
    try clear hcz24_7
    try clear hcz24_8
    try clear hcz24_9
    try clear hcz25_0
    try clear hcz25_1
    try clear hcz25_10
    try clear hcz25_11
    try clear hcz25_12
    try clear hcz25_13
    try clear hcz25_14
    try clear hcz25_15
    try clear hcz25_16
    try clear hcz25_17
    try clear hcz25_18
    try clear hcz25_19
    try clear hcz25_2
    try clear hcz25_3
    try clear hcz25_4
    try clear hcz25_5
    try clear hcz25_6
    try clear hcz25_7
    try clear hcz25_8
    try clear hcz25_9
    try clear hcz27_0
    try clear hcz27_1
    try clear hcz27_10
    try clear hcz27_11
    try clear hcz27_12
    try clear hcz27_13
    try clear hcz27_14
    try clear hcz27_15
    try clear hcz27_16
    try clear hcz27_17
    try clear hcz27_18
    try clear hcz27_19
    try clear hcz27_2
    try clear hcz27_3
    try clear hcz27_4
    try clear hcz27_5
    try clear hcz27_6
    try clear hcz27_7
    try clear hcz27_8
    try clear hcz27_9
    try clear hcz28_0
    try clear hcz28_1
    try clear hcz28_10
    try clear hcz28_11
    try clear hcz28_12
    try clear hcz28_13
    try clear hcz28_14
    try clear hcz28_15
    try clear hcz28_16
    try clear hcz28_17
    try clear hcz28_18
    try clear hcz28_19
    try clear hcz28_2
    try clear hcz28_3
    try clear hcz28_4
    try clear hcz28_5
    try clear hcz28_6
    try clear hcz28_7
    try clear hcz28_8
    try clear hcz28_9
    try clear hcz31_0
    try clear hcz31_1
    try clear hcz31_10
    try clear hcz31_11
    try clear hcz31_12
    try clear hcz31_13
    try clear hcz31_14
    try clear hcz31_15
    try clear hcz31_16
    try clear hcz31_17
    try clear hcz31_18
    try clear hcz31_19
    try clear hcz31_2
    try clear hcz31_3
    try clear hcz31_4
    try clear hcz31_5
    try clear hcz31_6
    try clear hcz31_7
    try clear hcz31_8
    try clear hcz31_9
    try clear hcz32_0
    try clear hcz32_1
    try clear hcz32_10
    try clear hcz32_11
    try clear hcz32_12
    try clear hcz32_13
    try clear hcz32_14
    try clear hcz32_15
    try clear hcz32_16
    try clear hcz32_17
    try clear hcz32_18
    try clear hcz32_19
    try clear hcz32_2
    try clear hcz32_3
    try clear hcz32_4
    try clear hcz32_5
    try clear hcz32_6
    try clear hcz32_7
    try clear hcz32_8
    try clear hcz32_9
    try clear hcz34_0
    try clear hcz34_1
    try clear hcz34_10
    try clear hcz34_11
    try clear hcz34_12
    try clear hcz34_13
    try clear hcz34_14
    try clear hcz34_15
    try clear hcz34_16
    try clear hcz34_17
    try clear hcz34_18
    try clear hcz34_19
    try clear hcz34_2
    try clear hcz34_3
    try clear hcz34_4
    try clear hcz34_5
    try clear hcz34_6
    try clear hcz34_7
    try clear hcz34_8
    try clear hcz34_9
    try clear hcz35_0
    try clear hcz35_1
    try clear hcz35_10
    try clear hcz35_11
    try clear hcz35_12
    try clear hcz35_13
    try clear hcz35_14
    try clear hcz35_15
    try clear hcz35_16
    try clear hcz35_17
    try clear hcz35_18
    try clear hcz35_19
    try clear hcz35_2
    try clear hcz35_3
    try clear hcz35_4
    try clear hcz35_5
    try clear hcz35_6
    try clear hcz35_7
    try clear hcz35_8
    try clear hcz35_9
    try clear hcz37_0
    try clear hcz37_1
    try clear hcz37_10
    try clear hcz37_11
    try clear hcz37_12
    try clear hcz37_13
    try clear hcz37_14
    try clear hcz37_15
    try clear hcz37_16
    try clear hcz37_17
    try clear hcz37_18
    try clear hcz37_19
    try clear hcz37_2
    try clear hcz37_3
    try clear hcz37_4
    try clear hcz37_5
    try clear hcz37_6
    try clear hcz37_7
    try clear hcz37_8
    try clear hcz37_9
    try clear hcz38_0
    try clear hcz38_1
    try clear hcz38_10
    try clear hcz38_11
    try clear hcz38_12
    try clear hcz38_13
    try clear hcz38_14
    try clear hcz38_15
    try clear hcz38_16
    try clear hcz38_17
    try clear hcz38_18
    try clear hcz38_19
    try clear hcz38_2
    try clear hcz38_3
    try clear hcz38_4
    try clear hcz38_5
    try clear hcz38_6
    try clear hcz38_7
    try clear hcz38_8
    try clear hcz38_9
    try clear hcz40_0
    try clear hcz40_1
    try clear hcz40_10
    try clear hcz40_11
    try clear hcz40_12
    try clear hcz40_13
    try clear hcz40_14
    try clear hcz40_15
    try clear hcz40_16
    try clear hcz40_17
    try clear hcz40_18
    try clear hcz40_19
    try clear hcz40_2
    try clear hcz40_3
    try clear hcz40_4
    try clear hcz40_5
    try clear hcz40_6
    try clear hcz40_7
    try clear hcz40_8
    try clear hcz40_9
    try clear hcz41_0
    try clear hcz41_1
    try clear hcz41_10
    try clear hcz41_11
    try clear hcz41_12
    try clear hcz41_13
    try clear hcz41_14
    try clear hcz41_15
    try clear hcz41_16
    try clear hcz41_17
    try clear hcz41_18
    try clear hcz41_19
    try clear hcz41_2
    try clear hcz41_3
    try clear hcz41_4
    try clear hcz41_5
    try clear hcz41_6
    try clear hcz41_7
    try clear hcz41_8
    try clear hcz41_9
    try clear hfz16_0
    try clear hfz16_1
    try clear hfz16_10
    try clear hfz16_11
    try clear hfz16_12
    try clear hfz16_13
    try clear hfz16_14
    try clear hfz16_15
    try clear hfz16_16
    try clear hfz16_17
    try clear hfz16_18
    try clear hfz16_19
    try clear hfz16_2
    try clear hfz16_3
    try clear hfz16_4
    try clear hfz16_5
    try clear hfz16_6
    try clear hfz16_7
    try clear hfz16_8
    try clear hfz16_9
    try clear hfz21_0
    try clear hfz21_1
    try clear hfz21_10
    try clear hfz21_11
    try clear hfz21_12
    try clear hfz21_13
    try clear hfz21_14
    try clear hfz21_15
    try clear hfz21_16
    try clear hfz21_17
    try clear hfz21_18
    try clear hfz21_19
    try clear hfz21_2
    try clear hfz21_3
    try clear hfz21_4
    try clear hfz21_5
    try clear hfz21_6
    try clear hfz21_7
    try clear hfz21_8
    try clear hfz21_9
    try clear hfz22_0
    try clear hfz22_1
    try clear hfz22_10
    try clear hfz22_11
    try clear hfz22_12
    try clear hfz22_13
    try clear hfz22_14
    try clear hfz22_15
    try clear hfz22_16
    try clear hfz22_17
    try clear hfz22_18
    try clear hfz22_19
    try clear hfz22_2
    try clear hfz22_3
    try clear hfz22_4
    try clear hfz22_5
    try clear hfz22_6
    try clear hfz22_7
    try clear hfz22_8
    try clear hfz22_9
    try clear hfz24_0
    try clear hfz24_1
    try clear hfz24_10
    try clear hfz24_11
    try clear hfz24_12
    try clear hfz24_13
    try clear hfz24_14
    try clear hfz24_15
    try clear hfz24_16
    try clear hfz24_17
    try clear hfz24_18
    try clear hfz24_19
    try clear hfz24_2
    try clear hfz24_3
    try clear hfz24_4
    try clear hfz24_5
    try clear hfz24_6
    try clear hfz24_7
    try clear hfz24_8
    try clear hfz24_9
    try clear hfz25_0
    try clear hfz25_1
    try clear hfz25_10
    try clear hfz25_11
    try clear hfz25_12
    try clear hfz25_13
    try clear hfz25_14
    try clear hfz25_15
    try clear hfz25_16
    try clear hfz25_17
    try clear hfz25_18
    try clear hfz25_19
    try clear hfz25_2
    try clear hfz25_3
    try clear hfz25_4
    try clear hfz25_5
    try clear hfz25_6
    try clear hfz25_7
    try clear hfz25_8
    try clear hfz25_9
    try clear hfz27_0
    try clear hfz27_1
    try clear hfz27_10
    try clear hfz27_11
    try clear hfz27_12
    try clear hfz27_13
    try clear hfz27_14
    try clear hfz27_15
    try clear hfz27_16
    try clear hfz27_17
    try clear hfz27_18
    try clear hfz27_19
    try clear hfz27_2
    try clear hfz27_3
    try clear hfz27_4
    try clear hfz27_5
    try clear hfz27_6
    try clear hfz27_7
    try clear hfz27_8
    try clear hfz27_9
    try clear hfz28_0
    try clear hfz28_1
    try clear hfz28_10
    try clear hfz28_11
    try clear hfz28_12
    try clear hfz28_13
    try clear hfz28_14
    try clear hfz28_15
    try clear hfz28_16
    try clear hfz28_17
    try clear hfz28_18
    try clear hfz28_19
    try clear hfz28_2
    try clear hfz28_3
    try clear hfz28_4
    try clear hfz28_5
    try clear hfz28_6
    try clear hfz28_7
    try clear hfz28_8
    try clear hfz28_9
    try clear hfz31_0
    try clear hfz31_1
    try clear hfz31_10
    try clear hfz31_11
    try clear hfz31_12
    try clear hfz31_13
    try clear hfz31_14
    try clear hfz31_15
    try clear hfz31_16
    try clear hfz31_17
    try clear hfz31_18
    try clear hfz31_19
    try clear hfz31_2
    try clear hfz31_3
    try clear hfz31_4
    try clear hfz31_5
    try clear hfz31_6
    try clear hfz31_7
    try clear hfz31_8
    try clear hfz31_9
    try clear hfz32_0
    try clear hfz32_1
    try clear hfz32_10
    try clear hfz32_11
    try clear hfz32_12
    try clear hfz32_13
    try clear hfz32_14
    try clear hfz32_15
    try clear hfz32_16
    try clear hfz32_17
    try clear hfz32_18
    try clear hfz32_19
    try clear hfz32_2
    try clear hfz32_3
    try clear hfz32_4
    try clear hfz32_5
    try clear hfz32_6
    try clear hfz32_7
    try clear hfz32_8
    try clear hfz32_9
    try clear hfz34_0
    try clear hfz34_1
    try clear hfz34_10
    try clear hfz34_11
    try clear hfz34_12
    try clear hfz34_13
    try clear hfz34_14
    try clear hfz34_15
    try clear hfz34_16
    try clear hfz34_17
    try clear hfz34_18
    try clear hfz34_19
    try clear hfz34_2
    try clear hfz34_3
    try clear hfz34_4
    try clear hfz34_5
    try clear hfz34_6
    try clear hfz34_7
    try clear hfz34_8
    try clear hfz34_9
    try clear hfz35_0
    try clear hfz35_1
    try clear hfz35_10
    try clear hfz35_11
    try clear hfz35_12
    try clear hfz35_13
    try clear hfz35_14
    try clear hfz35_15
    try clear hfz35_16
    try clear hfz35_17
    try clear hfz35_18
    try clear hfz35_19
    try clear hfz35_2
    try clear hfz35_3
    try clear hfz35_4
    try clear hfz35_5
    try clear hfz35_6
    try clear hfz35_7
    try clear hfz35_8
    try clear hfz35_9
    try clear hfz37_0
    try clear hfz37_1
    try clear hfz37_10
    try clear hfz37_11
    try clear hfz37_12
    try clear hfz37_13
    try clear hfz37_14
    try clear hfz37_15
    try clear hfz37_16
    try clear hfz37_17
    try clear hfz37_18
    try clear hfz37_19
    try clear hfz37_2
    try clear hfz37_3
    try clear hfz37_4
    try clear hfz37_5
    try clear hfz37_6
    try clear hfz37_7
    try clear hfz37_8
    try clear hfz37_9
    try clear hfz38_0
    try clear hfz38_1
    try clear hfz38_10
    try clear hfz38_11
    try clear hfz38_12
    try clear hfz38_13
    try clear hfz38_14
    try clear hfz38_15
    try clear hfz38_16
    try clear hfz38_17
    try clear hfz38_18
    try clear hfz38_19
    try clear hfz38_2
    try clear hfz38_3
    try clear hfz38_4
    try clear hfz38_5
    try clear hfz38_6
    try clear hfz38_7
    try clear hfz38_8
    try clear hfz38_9
    try clear hfz40_0
    try clear hfz40_1
    try clear hfz40_10
    try clear hfz40_11
    try clear hfz40_12
    try clear hfz40_13
    try clear hfz40_14
    try clear hfz40_15
    try clear hfz40_16
    try clear hfz40_17
    try clear hfz40_18
    try clear hfz40_19
    try clear hfz40_2
    try clear hfz40_3
    try clear hfz40_4
    try clear hfz40_5
    try clear hfz40_6
    try clear hfz40_7
    try clear hfz40_8
    try clear hfz40_9
    try clear hfz41_0
    try clear hfz41_1
    try clear hfz41_10
    try clear hfz41_11
    try clear hfz41_12
    try clear hfz41_13
    try clear hfz41_14
    try clear hfz41_15
    try clear hfz41_16
    try clear hfz41_17
    try clear hfz41_18
    try clear hfz41_19
    try clear hfz41_2
    try clear hfz41_3
    try clear hfz41_4
    try clear hfz41_5
    try clear hfz41_6
    try clear hfz41_7
    try clear hfz41_8
    try clear hfz41_9
    obtain ⟨kq, x62_2, rfl, HA, HJ2, BK140, BK141, HB⟩ := hcut
    cases kq with
    | zero => exact absurd HA.out (by simp [gazetteerref21_Same.j0])
    | succ kj2 =>
      have H := HA.out
      clear HA
      simp only [gazetteerref21_Same.j0] at H
      by_cases c42 : x62_2 = true
      · subst c42
        have H1 : (some false) = some r := by rw [if_pos rfl] at H; exact H
        clear H
        have H := H1
        clear H1
        obtain rfl := Option.some.inj H
        go_wp2
        repeat (go_quiet (fail); try go_wp2)
        go_ret
        exact ⟨by first | rfl | (simp [errW_none, errW_some] <;> rfl) | (simp [*, errW_none, errW_some] <;> rfl), by repeat (first | (with_reducible first | exact HB.out | apply below_alloc | apply pw_below_drewN | apply below_drew1 | refine below_set ?_ GE140.out | refine below_set ?_ GE141.out) | exact HB.out)⟩
      · replace c42 := Bool.eq_false_iff.mpr c42
        subst c42
        have H1 : (gazetteerref21_Same.l0 kj2 0 a0_0 a0_1 a0_2 a0_3 a0_4 a0_5 a0_6 a0_7 a0_8 a0_9 a0_10 a0_11 a0_12 a0_13 a0_14 a0_15 a0_16 l0_17 l0_18 l0_19 a1_0 a1_1 a1_2 a1_3 a1_4 a1_5 a1_6 a1_7 a1_8 a1_9 a1_10 a1_11 a1_12 a1_13 a1_14 a1_15 a1_16 l1_17 l1_18 l1_19) = some r := by rw [if_neg (show ¬ (false = true) by decide)] at H; exact H
        clear H
        have H := H1
        clear H1
        have H' := Aside0.mk H
        clear H
        go_wp2
        repeat (go_quiet (fail); try go_wp2)
        go_loopg [5] kj2 (fun kq v5 w' => ∃ (x5_2 : Int), v5 = .int .i64 x5_2 ∧ Aside0 (gazetteerref21_Same.l0 kq x5_2 a0_0 a0_1 a0_2 a0_3 a0_4 a0_5 a0_6 a0_7 a0_8 a0_9 a0_10 a0_11 a0_12 a0_13 a0_14 a0_15 a0_16 l0_17 l0_18 l0_19 a1_0 a1_1 a1_2 a1_3 a1_4 a1_5 a1_6 a1_7 a1_8 a1_9 a1_10 a1_11 a1_12 a1_13 a1_14 a1_15 a1_16 l1_17 l1_18 l1_19 = some r) ∧ Aside0 (kq ≤ kj2) ∧ Aside0 (w'.heap[gb140]? = some (.cells #[.int .i64 a0_0, .int .u64 a0_1, .bool a0_2, .int .u64 a0_3, .int .i64 a0_4, .bool a0_5, .int .u32 a0_6, .int .i64 a0_7, .int .i64 a0_8, .int .i64 a0_9, .int .i64 a0_10, .int .i64 a0_11, .int .i64 a0_12, .int .i64 a0_13, .int .i64 a0_14, .int .i64 a0_15, .int .i64 a0_16, (.slice A0_17 l0_17.length c0_17), (.slice A0_18 l0_18.length c0_18), (.slice A0_19 l0_19.length c0_19)] 33 (0, 0))) ∧ Aside0 (w'.heap[gb141]? = some (.cells #[.int .i64 a1_0, .int .u64 a1_1, .bool a1_2, .int .u64 a1_3, .int .i64 a1_4, .bool a1_5, .int .u32 a1_6, .int .i64 a1_7, .int .i64 a1_8, .int .i64 a1_9, .int .i64 a1_10, .int .i64 a1_11, .int .i64 a1_12, .int .i64 a1_13, .int .i64 a1_14, .int .i64 a1_15, .int .i64 a1_16, (.slice A1_17 l1_17.length c1_17), (.slice A1_18 l1_18.length c1_18), (.slice A1_19 l1_19.length c1_19)] 33 (0, 0))) ∧ Aside0 (Below w.heap.size w w'))
        case atStart => exact ⟨(0), (by first | rfl | (simp; done) | (simp [*]; done)), H', ⟨Nat.le_refl _⟩, ⟨by (with_reducible repeat (first | refine blk_drewN ?_ _ | refine blk_drew ?_ | refine blk_alloc ?_ _)); exact BK140.out⟩, ⟨by (with_reducible repeat (first | refine blk_drewN ?_ _ | refine blk_drew ?_ | refine blk_alloc ?_ _)); exact BK141.out⟩, ⟨by repeat (first | (with_reducible first | exact HB.out | apply below_alloc | apply pw_below_drewN | apply below_drew1 | refine below_set ?_ GE140.out | refine below_set ?_ GE141.out) | exact HB.out)⟩⟩
        case round =>
          clear H'
          try clear c1
          try clear p2
          try clear c4
          try clear c42
          try clear hcz21_2
          try clear hcz21_3
          try clear hcz21_4
          try clear hcz21_5
          try clear hcz21_6
          try clear hcz21_7
          try clear hcz21_8
          try clear hcz21_9
          try clear hcz22_0
          try clear hcz22_1
          try clear hcz22_10
          try clear hcz22_11
          try clear hcz22_12
          try clear hcz22_13
          try clear hcz22_14
          try clear hcz22_15
          try clear hcz22_16
          try clear hcz22_17
          try clear hcz22_18
          try clear hcz22_19
          try clear hcz22_2
          try clear hcz22_3
          try clear hcz22_4
          try clear hcz22_5
          try clear hcz22_6
          try clear hcz22_7
          try clear hcz22_8
          try clear hcz22_9
          try clear hcz24_0
          try clear hcz24_1
          try clear hcz24_10
          try clear hcz24_11
          try clear hcz24_12
          try clear hcz24_13
          try clear hcz24_14
          try clear hcz24_15
          try clear hcz24_16
          try clear hcz24_17
          try clear hcz24_18
          try clear hcz24_19
          try clear hcz24_2
          try clear hcz24_3
          try clear hcz24_4
          try clear hcz24_5
          try clear hcz24_6
          try clear hcz24_7
          try clear hcz24_8
          try clear hcz24_9
          try clear hcz25_0
          try clear hcz25_1
          try clear hcz25_10
          try clear hcz25_11
          try clear hcz25_12
          try clear hcz25_13
          try clear hcz25_14
          try clear hcz25_15
          try clear hcz25_16
          try clear hcz25_17
          try clear hcz25_18
          try clear hcz25_19
          try clear hcz25_2
          try clear hcz25_3
          try clear hcz25_4
          try clear hcz25_5
          try clear hcz25_6
          try clear hcz25_7
          try clear hcz25_8
          try clear hcz25_9
          try clear hcz27_0
          try clear hcz27_1
          try clear hcz27_10
          try clear hcz27_11
          try clear hcz27_12
          try clear hcz27_13
          try clear hcz27_14
          try clear hcz27_15
          try clear hcz27_16
          try clear hcz27_17
          try clear hcz27_18
          try clear hcz27_19
          try clear hcz27_2
          try clear hcz27_3
          try clear hcz27_4
          try clear hcz27_5
          try clear hcz27_6
          try clear hcz27_7
          try clear hcz27_8
          try clear hcz27_9
          try clear hcz28_0
          try clear hcz28_1
          try clear hcz28_10
          try clear hcz28_11
          try clear hcz28_12
          try clear hcz28_13
          try clear hcz28_14
          try clear hcz28_15
          try clear hcz28_16
          try clear hcz28_17
          try clear hcz28_18
          try clear hcz28_19
          try clear hcz28_2
          try clear hcz28_3
          try clear hcz28_4
          try clear hcz28_5
          try clear hcz28_6
          try clear hcz28_7
          try clear hcz28_8
          try clear hcz28_9
          try clear hcz31_0
          try clear hcz31_1
          try clear hcz31_10
          try clear hcz31_11
          try clear hcz31_12
          try clear hcz31_13
          try clear hcz31_14
          try clear hcz31_15
          try clear hcz31_16
          try clear hcz31_17
          try clear hcz31_18
          try clear hcz31_19
          try clear hcz31_2
          try clear hcz31_3
          try clear hcz31_4
          try clear hcz31_5
          try clear hcz31_6
          try clear hcz31_7
          try clear hcz31_8
          try clear hcz31_9
          try clear hcz32_0
          try clear hcz32_1
          try clear hcz32_10
          try clear hcz32_11
          try clear hcz32_12
          try clear hcz32_13
          try clear hcz32_14
          try clear hcz32_15
          try clear hcz32_16
          try clear hcz32_17
          try clear hcz32_18
          try clear hcz32_19
          try clear hcz32_2
          try clear hcz32_3
          try clear hcz32_4
          try clear hcz32_5
          try clear hcz32_6
          try clear hcz32_7
          try clear hcz32_8
          try clear hcz32_9
          try clear hcz34_0
          try clear hcz34_1
          try clear hcz34_10
          try clear hcz34_11
          try clear hcz34_12
          try clear hcz34_13
          try clear hcz34_14
          try clear hcz34_15
          try clear hcz34_16
          try clear hcz34_17
          try clear hcz34_18
          try clear hcz34_19
          try clear hcz34_2
          try clear hcz34_3
          try clear hcz34_4
          try clear hcz34_5
          try clear hcz34_6
          try clear hcz34_7
          try clear hcz34_8
          try clear hcz34_9
          try clear hcz35_0
          try clear hcz35_1
          try clear hcz35_10
          try clear hcz35_11
          try clear hcz35_12
          try clear hcz35_13
          try clear hcz35_14
          try clear hcz35_15
          try clear hcz35_16
          try clear hcz35_17
          try clear hcz35_18
          try clear hcz35_19
          try clear hcz35_2
          try clear hcz35_3
          try clear hcz35_4
          try clear hcz35_5
          try clear hcz35_6
          try clear hcz35_7
          try clear hcz35_8
          try clear hcz35_9
          try clear hcz37_0
          try clear hcz37_1
          try clear hcz37_10
          try clear hcz37_11
          try clear hcz37_12
          try clear hcz37_13
          try clear hcz37_14
          try clear hcz37_15
          try clear hcz37_16
          try clear hcz37_17
          try clear hcz37_18
          try clear hcz37_19
          try clear hcz37_2
          try clear hcz37_3
          try clear hcz37_4
          try clear hcz37_5
          try clear hcz37_6
          try clear hcz37_7
          try clear hcz37_8
          try clear hcz37_9
          try clear hcz38_0
          try clear hcz38_1
          try clear hcz38_10
          try clear hcz38_11
          try clear hcz38_12
          try clear hcz38_13
          try clear hcz38_14
          try clear hcz38_15
          try clear hcz38_16
          try clear hcz38_17
          try clear hcz38_18
          try clear hcz38_19
          try clear hcz38_2
          try clear hcz38_3
          try clear hcz38_4
          try clear hcz38_5
          try clear hcz38_6
          try clear hcz38_7
          try clear hcz38_8
          try clear hcz38_9
          try clear hcz40_0
          try clear hcz40_1
          try clear hcz40_10
          try clear hcz40_11
          try clear hcz40_12
          try clear hcz40_13
          try clear hcz40_14
          try clear hcz40_15
          try clear hcz40_16
          try clear hcz40_17
          try clear hcz40_18
          try clear hcz40_19
          try clear hcz40_2
          try clear hcz40_3
          try clear hcz40_4
          try clear hcz40_5
          try clear hcz40_6
          try clear hcz40_7
          try clear hcz40_8
          try clear hcz40_9
          try clear hcz41_0
          try clear hcz41_1
          try clear hcz41_10
          try clear hcz41_11
          try clear hcz41_12
          try clear hcz41_13
          try clear hcz41_14
          try clear hcz41_15
          try clear hcz41_16
          try clear hcz41_17
          try clear hcz41_18
          try clear hcz41_19
          try clear hcz41_2
          try clear hcz41_3
          try clear hcz41_4
          try clear hcz41_5
          try clear hcz41_6
          try clear hcz41_7
          try clear hcz41_8
          try clear hcz41_9
          try clear hfz16_0
          try clear hfz16_1
          try clear hfz16_10
          try clear hfz16_11
          try clear hfz16_12
          try clear hfz16_13
          try clear hfz16_14
          try clear hfz16_15
          try clear hfz16_16
          try clear hfz16_17
          try clear hfz16_18
          try clear hfz16_19
          try clear hfz16_2
          try clear hfz16_3
          try clear hfz16_4
          try clear hfz16_5
          try clear hfz16_6
          try clear hfz16_7
          try clear hfz16_8
          try clear hfz16_9
          try clear hfz21_0
          try clear hfz21_1
          try clear hfz21_10
          try clear hfz21_11
          try clear hfz21_12
          try clear hfz21_13
          try clear hfz21_14
          try clear hfz21_15
          try clear hfz21_16
          try clear hfz21_17
          try clear hfz21_18
          try clear hfz21_19
          try clear hfz21_2
          try clear hfz21_3
          try clear hfz21_4
          try clear hfz21_5
          try clear hfz21_6
          try clear hfz21_7
          try clear hfz21_8
          try clear hfz21_9
          try clear hfz22_0
          try clear hfz22_1
          try clear hfz22_10
          try clear hfz22_11
          try clear hfz22_12
          try clear hfz22_13
          try clear hfz22_14
          try clear hfz22_15
          try clear hfz22_16
          try clear hfz22_17
          try clear hfz22_18
          try clear hfz22_19
          try clear hfz22_2
          try clear hfz22_3
          try clear hfz22_4
          try clear hfz22_5
          try clear hfz22_6
          try clear hfz22_7
          try clear hfz22_8
          try clear hfz22_9
          try clear hfz24_0
          try clear hfz24_1
          try clear hfz24_10
          try clear hfz24_11
          try clear hfz24_12
          try clear hfz24_13
          try clear hfz24_14
          try clear hfz24_15
          try clear hfz24_16
          try clear hfz24_17
          try clear hfz24_18
          try clear hfz24_19
          try clear hfz24_2
          try clear hfz24_3
          try clear hfz24_4
          try clear hfz24_5
          try clear hfz24_6
          try clear hfz24_7
          try clear hfz24_8
          try clear hfz24_9
          try clear hfz25_0
          try clear hfz25_1
          try clear hfz25_10
          try clear hfz25_11
          try clear hfz25_12
          try clear hfz25_13
          try clear hfz25_14
          try clear hfz25_15
          try clear hfz25_16
          try clear hfz25_17
          try clear hfz25_18
          try clear hfz25_19
          try clear hfz25_2
          try clear hfz25_3
          try clear hfz25_4
          try clear hfz25_5
          try clear hfz25_6
          try clear hfz25_7
          try clear hfz25_8
          try clear hfz25_9
          try clear hfz27_0
          try clear hfz27_1
          try clear hfz27_10
          try clear hfz27_11
          try clear hfz27_12
          try clear hfz27_13
          try clear hfz27_14
          try clear hfz27_15
          try clear hfz27_16
          try clear hfz27_17
          try clear hfz27_18
          try clear hfz27_19
          try clear hfz27_2
          try clear hfz27_3
          try clear hfz27_4
          try clear hfz27_5
          try clear hfz27_6
          try clear hfz27_7
          try clear hfz27_8
          try clear hfz27_9
          try clear hfz28_0
          try clear hfz28_1
          try clear hfz28_10
          try clear hfz28_11
          try clear hfz28_12
          try clear hfz28_13
          try clear hfz28_14
          try clear hfz28_15
          try clear hfz28_16
          try clear hfz28_17
          try clear hfz28_18
          try clear hfz28_19
          try clear hfz28_2
          try clear hfz28_3
          try clear hfz28_4
          try clear hfz28_5
          try clear hfz28_6
          try clear hfz28_7
          try clear hfz28_8
          try clear hfz28_9
          try clear hfz31_0
          try clear hfz31_1
          try clear hfz31_10
          try clear hfz31_11
          try clear hfz31_12
          try clear hfz31_13
          try clear hfz31_14
          try clear hfz31_15
          try clear hfz31_16
          try clear hfz31_17
          try clear hfz31_18
          try clear hfz31_19
          try clear hfz31_2
          try clear hfz31_3
          try clear hfz31_4
          try clear hfz31_5
          try clear hfz31_6
          try clear hfz31_7
          try clear hfz31_8
          try clear hfz31_9
          try clear hfz32_0
          try clear hfz32_1
          try clear hfz32_10
          try clear hfz32_11
          try clear hfz32_12
          try clear hfz32_13
          try clear hfz32_14
          try clear hfz32_15
          try clear hfz32_16
          try clear hfz32_17
          try clear hfz32_18
          try clear hfz32_19
          try clear hfz32_2
          try clear hfz32_3
          try clear hfz32_4
          try clear hfz32_5
          try clear hfz32_6
          try clear hfz32_7
          try clear hfz32_8
          try clear hfz32_9
          try clear hfz34_0
          try clear hfz34_1
          try clear hfz34_10
          try clear hfz34_11
          try clear hfz34_12
          try clear hfz34_13
          try clear hfz34_14
          try clear hfz34_15
          try clear hfz34_16
          try clear hfz34_17
          try clear hfz34_18
          try clear hfz34_19
          try clear hfz34_2
          try clear hfz34_3
          try clear hfz34_4
          try clear hfz34_5
          try clear hfz34_6
          try clear hfz34_7
          try clear hfz34_8
          try clear hfz34_9
          try clear hfz35_0
          try clear hfz35_1
          try clear hfz35_10
          try clear hfz35_11
          try clear hfz35_12
          try clear hfz35_13
          try clear hfz35_14
          try clear hfz35_15
          try clear hfz35_16
          try clear hfz35_17
          try clear hfz35_18
          try clear hfz35_19
          try clear hfz35_2
          try clear hfz35_3
          try clear hfz35_4
          try clear hfz35_5
          try clear hfz35_6
          try clear hfz35_7
          try clear hfz35_8
          try clear hfz35_9
          try clear hfz37_0
          try clear hfz37_1
          try clear hfz37_10
          try clear hfz37_11
          try clear hfz37_12
          try clear hfz37_13
          try clear hfz37_14
          try clear hfz37_15
          try clear hfz37_16
          try clear hfz37_17
          try clear hfz37_18
          try clear hfz37_19
          try clear hfz37_2
          try clear hfz37_3
          try clear hfz37_4
          try clear hfz37_5
          try clear hfz37_6
          try clear hfz37_7
          try clear hfz37_8
          try clear hfz37_9
          try clear hfz38_0
          try clear hfz38_1
          try clear hfz38_10
          try clear hfz38_11
          try clear hfz38_12
          try clear hfz38_13
          try clear hfz38_14
          try clear hfz38_15
          try clear hfz38_16
          try clear hfz38_17
          try clear hfz38_18
          try clear hfz38_19
          try clear hfz38_2
          try clear hfz38_3
          try clear hfz38_4
          try clear hfz38_5
          try clear hfz38_6
          try clear hfz38_7
          try clear hfz38_8
          try clear hfz38_9
          try clear hfz40_0
          try clear hfz40_1
          try clear hfz40_10
          try clear hfz40_11
          try clear hfz40_12
          try clear hfz40_13
          try clear hfz40_14
          try clear hfz40_15
          try clear hfz40_16
          try clear hfz40_17
          try clear hfz40_18
          try clear hfz40_19
          try clear hfz40_2
          try clear hfz40_3
          try clear hfz40_4
          try clear hfz40_5
          try clear hfz40_6
          try clear hfz40_7
          try clear hfz40_8
          try clear hfz40_9
          try clear hfz41_0
          try clear hfz41_1
          try clear hfz41_10
          try clear hfz41_11
          try clear hfz41_12
          try clear hfz41_13
          try clear hfz41_14
          try clear hfz41_15
          try clear hfz41_16
          try clear hfz41_17
          try clear hfz41_18
          try clear hfz41_19
          try clear hfz41_2
          try clear hfz41_3
          try clear hfz41_4
          try clear hfz41_5
          try clear hfz41_6
          try clear hfz41_7
          try clear hfz41_8
          try clear hfz41_9
          obtain ⟨x5_2, rfl, HA, HK2, BK140, BK141, HB⟩ := hrel
          cases gk with
          | zero => exact absurd HA.out (by simp [gazetteerref21_Same.l0])
          | succ k2 =>
            have H := HA.out
            clear HA
            simp only [gazetteerref21_Same.l0] at H
            by_cases c43 : x5_2 < (l0_19.length : Int)
            · rw [if_pos c43] at H
              have c43b0 : decide (x5_2 < (l0_19.length : Int)) = true := decide_eq_true c43
              clear c43
              by_cases c44 : 0 ≤ x5_2
              · rw [if_pos c44] at H
                have c44b0 : decide (0 ≤ x5_2) = true := decide_eq_true c44
                clear c44
                by_cases c45 : x5_2 < (l1_19.length : Int)
                · rw [if_pos c45] at H
                  have c45b0 : decide (x5_2 < (l1_19.length : Int)) = true := decide_eq_true c45
                  clear c45
                  by_cases c46 : (rd l0_19 x5_2) = (rd l1_19 x5_2)
                  · rw [if_pos c46] at H
                    have c46b0 : ((rd l0_19 x5_2) == (rd l1_19 x5_2)) = true := beq_iff_eq.mpr c46
                    have c46b1 : ((rd l0_19 x5_2) != (rd l1_19 x5_2)) = false := bne_eq_false_iff_eq.mpr c46
                    clear c46
                    have H' := Aside0.mk H
                    clear H
                    have hnb47 := NB140_141.out
                    have hnc47 := NB141_140.out
                    have hcz48_0 : wr.cell? ⟨gb140, 0, none⟩ = some (.int .i64 a0_0) := (blk_cell BK140.out 0).trans rfl
                    have hcz48_1 : wr.cell? ⟨gb140, 1, none⟩ = some (.int .u64 a0_1) := (blk_cell BK140.out 1).trans rfl
                    have hcz48_2 : wr.cell? ⟨gb140, 2, none⟩ = some (.bool a0_2) := (blk_cell BK140.out 2).trans rfl
                    have hcz48_3 : wr.cell? ⟨gb140, 3, none⟩ = some (.int .u64 a0_3) := (blk_cell BK140.out 3).trans rfl
                    have hcz48_4 : wr.cell? ⟨gb140, 4, none⟩ = some (.int .i64 a0_4) := (blk_cell BK140.out 4).trans rfl
                    have hcz48_5 : wr.cell? ⟨gb140, 5, none⟩ = some (.bool a0_5) := (blk_cell BK140.out 5).trans rfl
                    have hcz48_6 : wr.cell? ⟨gb140, 6, none⟩ = some (.int .u32 a0_6) := (blk_cell BK140.out 6).trans rfl
                    have hcz48_7 : wr.cell? ⟨gb140, 7, none⟩ = some (.int .i64 a0_7) := (blk_cell BK140.out 7).trans rfl
                    have hcz48_8 : wr.cell? ⟨gb140, 8, none⟩ = some (.int .i64 a0_8) := (blk_cell BK140.out 8).trans rfl
                    have hcz48_9 : wr.cell? ⟨gb140, 9, none⟩ = some (.int .i64 a0_9) := (blk_cell BK140.out 9).trans rfl
                    have hcz48_10 : wr.cell? ⟨gb140, 10, none⟩ = some (.int .i64 a0_10) := (blk_cell BK140.out 10).trans rfl
                    have hcz48_11 : wr.cell? ⟨gb140, 11, none⟩ = some (.int .i64 a0_11) := (blk_cell BK140.out 11).trans rfl
                    have hcz48_12 : wr.cell? ⟨gb140, 12, none⟩ = some (.int .i64 a0_12) := (blk_cell BK140.out 12).trans rfl
                    have hcz48_13 : wr.cell? ⟨gb140, 13, none⟩ = some (.int .i64 a0_13) := (blk_cell BK140.out 13).trans rfl
                    have hcz48_14 : wr.cell? ⟨gb140, 14, none⟩ = some (.int .i64 a0_14) := (blk_cell BK140.out 14).trans rfl
                    have hcz48_15 : wr.cell? ⟨gb140, 15, none⟩ = some (.int .i64 a0_15) := (blk_cell BK140.out 15).trans rfl
                    have hcz48_16 : wr.cell? ⟨gb140, 16, none⟩ = some (.int .i64 a0_16) := (blk_cell BK140.out 16).trans rfl
                    have hcz48_17 : wr.cell? ⟨gb140, 17, none⟩ = some (.slice A0_17 l0_17.length c0_17) := (blk_cell BK140.out 17).trans rfl
                    have hcz48_18 : wr.cell? ⟨gb140, 18, none⟩ = some (.slice A0_18 l0_18.length c0_18) := (blk_cell BK140.out 18).trans rfl
                    have hcz48_19 : wr.cell? ⟨gb140, 19, none⟩ = some (.slice A0_19 l0_19.length c0_19) := (blk_cell BK140.out 19).trans rfl
                    have hfz48_0 := blk_frozen BK140.out 0
                    have hfz48_1 := blk_frozen BK140.out 1
                    have hfz48_2 := blk_frozen BK140.out 2
                    have hfz48_3 := blk_frozen BK140.out 3
                    have hfz48_4 := blk_frozen BK140.out 4
                    have hfz48_5 := blk_frozen BK140.out 5
                    have hfz48_6 := blk_frozen BK140.out 6
                    have hfz48_7 := blk_frozen BK140.out 7
                    have hfz48_8 := blk_frozen BK140.out 8
                    have hfz48_9 := blk_frozen BK140.out 9
                    have hfz48_10 := blk_frozen BK140.out 10
                    have hfz48_11 := blk_frozen BK140.out 11
                    have hfz48_12 := blk_frozen BK140.out 12
                    have hfz48_13 := blk_frozen BK140.out 13
                    have hfz48_14 := blk_frozen BK140.out 14
                    have hfz48_15 := blk_frozen BK140.out 15
                    have hfz48_16 := blk_frozen BK140.out 16
                    have hfz48_17 := blk_frozen BK140.out 17
                    have hfz48_18 := blk_frozen BK140.out 18
                    have hfz48_19 := blk_frozen BK140.out 19
                    have p143 : 0 ≤ (x5_2 : Int) := of_decide_eq_true (by first | (with_reducible assumption) | assumption)
                    have q143 : x5_2 < (l0_19.length : Int) := of_decide_eq_true (by first | (with_reducible assumption) | assumption)
                    obtain ⟨ad143, e143, hx143_0⟩ := Kd.at_int HR0_19.out x5_2 p143 q143
                    cases e143
                    replace hx143_0 := (HB.out.cell (World.block_lt_of_cell? w _ hx143_0)).trans hx143_0
                    replace p143 := eq_true p143
                    replace q143 := eq_true q143
                    have hcz49_0 : wr.cell? ⟨gb141, 0, none⟩ = some (.int .i64 a1_0) := (blk_cell BK141.out 0).trans rfl
                    have hcz49_1 : wr.cell? ⟨gb141, 1, none⟩ = some (.int .u64 a1_1) := (blk_cell BK141.out 1).trans rfl
                    have hcz49_2 : wr.cell? ⟨gb141, 2, none⟩ = some (.bool a1_2) := (blk_cell BK141.out 2).trans rfl
                    have hcz49_3 : wr.cell? ⟨gb141, 3, none⟩ = some (.int .u64 a1_3) := (blk_cell BK141.out 3).trans rfl
                    have hcz49_4 : wr.cell? ⟨gb141, 4, none⟩ = some (.int .i64 a1_4) := (blk_cell BK141.out 4).trans rfl
                    have hcz49_5 : wr.cell? ⟨gb141, 5, none⟩ = some (.bool a1_5) := (blk_cell BK141.out 5).trans rfl
                    have hcz49_6 : wr.cell? ⟨gb141, 6, none⟩ = some (.int .u32 a1_6) := (blk_cell BK141.out 6).trans rfl
                    have hcz49_7 : wr.cell? ⟨gb141, 7, none⟩ = some (.int .i64 a1_7) := (blk_cell BK141.out 7).trans rfl
                    have hcz49_8 : wr.cell? ⟨gb141, 8, none⟩ = some (.int .i64 a1_8) := (blk_cell BK141.out 8).trans rfl
                    have hcz49_9 : wr.cell? ⟨gb141, 9, none⟩ = some (.int .i64 a1_9) := (blk_cell BK141.out 9).trans rfl
                    have hcz49_10 : wr.cell? ⟨gb141, 10, none⟩ = some (.int .i64 a1_10) := (blk_cell BK141.out 10).trans rfl
                    have hcz49_11 : wr.cell? ⟨gb141, 11, none⟩ = some (.int .i64 a1_11) := (blk_cell BK141.out 11).trans rfl
                    have hcz49_12 : wr.cell? ⟨gb141, 12, none⟩ = some (.int .i64 a1_12) := (blk_cell BK141.out 12).trans rfl
                    have hcz49_13 : wr.cell? ⟨gb141, 13, none⟩ = some (.int .i64 a1_13) := (blk_cell BK141.out 13).trans rfl
                    have hcz49_14 : wr.cell? ⟨gb141, 14, none⟩ = some (.int .i64 a1_14) := (blk_cell BK141.out 14).trans rfl
                    have hcz49_15 : wr.cell? ⟨gb141, 15, none⟩ = some (.int .i64 a1_15) := (blk_cell BK141.out 15).trans rfl
                    have hcz49_16 : wr.cell? ⟨gb141, 16, none⟩ = some (.int .i64 a1_16) := (blk_cell BK141.out 16).trans rfl
                    have hcz49_17 : wr.cell? ⟨gb141, 17, none⟩ = some (.slice A1_17 l1_17.length c1_17) := (blk_cell BK141.out 17).trans rfl
                    have hcz49_18 : wr.cell? ⟨gb141, 18, none⟩ = some (.slice A1_18 l1_18.length c1_18) := (blk_cell BK141.out 18).trans rfl
                    have hcz49_19 : wr.cell? ⟨gb141, 19, none⟩ = some (.slice A1_19 l1_19.length c1_19) := (blk_cell BK141.out 19).trans rfl
                    have hfz49_0 := blk_frozen BK141.out 0
                    have hfz49_1 := blk_frozen BK141.out 1
                    have hfz49_2 := blk_frozen BK141.out 2
                    have hfz49_3 := blk_frozen BK141.out 3
                    have hfz49_4 := blk_frozen BK141.out 4
                    have hfz49_5 := blk_frozen BK141.out 5
                    have hfz49_6 := blk_frozen BK141.out 6
                    have hfz49_7 := blk_frozen BK141.out 7
                    have hfz49_8 := blk_frozen BK141.out 8
                    have hfz49_9 := blk_frozen BK141.out 9
                    have hfz49_10 := blk_frozen BK141.out 10
                    have hfz49_11 := blk_frozen BK141.out 11
                    have hfz49_12 := blk_frozen BK141.out 12
                    have hfz49_13 := blk_frozen BK141.out 13
                    have hfz49_14 := blk_frozen BK141.out 14
                    have hfz49_15 := blk_frozen BK141.out 15
                    have hfz49_16 := blk_frozen BK141.out 16
                    have hfz49_17 := blk_frozen BK141.out 17
                    have hfz49_18 := blk_frozen BK141.out 18
                    have hfz49_19 := blk_frozen BK141.out 19
                    have p144 : 0 ≤ (x5_2 : Int) := of_decide_eq_true (by first | (with_reducible assumption) | assumption)
                    have q144 : x5_2 < (l1_19.length : Int) := of_decide_eq_true (by first | (with_reducible assumption) | assumption)
                    obtain ⟨ad144, e144, hx144_0⟩ := Kd.at_int HR1_19.out x5_2 p144 q144
                    cases e144
                    replace hx144_0 := (HB.out.cell (World.block_lt_of_cell? w _ hx144_0)).trans hx144_0
                    replace p144 := eq_true p144
                    replace q144 := eq_true q144
                    go_wp2
                    repeat (go_quiet (fail); try go_wp2)
                    go_roundg k2
                    case measure => have := HJ2.out; have := HK2.out; omega
                    case rel => exact ⟨(wrap64 (x5_2 + 1)), (by first | rfl | (simp; done) | (simp [*]; done)), H', ⟨by have := HJ2.out; have := HK2.out; omega⟩, ⟨by (with_reducible repeat (first | refine blk_drewN ?_ _ | refine blk_drew ?_ | refine blk_alloc ?_ _)); exact BK140.out⟩, ⟨by (with_reducible repeat (first | refine blk_drewN ?_ _ | refine blk_drew ?_ | refine blk_alloc ?_ _)); exact BK141.out⟩, ⟨by repeat (first | (with_reducible first | exact HB.out | apply below_alloc | apply pw_below_drewN | apply below_drew1 | refine below_set ?_ GE140.out | refine below_set ?_ GE141.out) | exact HB.out)⟩⟩
                  · rw [if_neg c46] at H
                    have c46b0 : ((rd l0_19 x5_2) == (rd l1_19 x5_2)) = false := beq_eq_false_iff_ne.mpr c46
                    have c46b1 : ((rd l0_19 x5_2) != (rd l1_19 x5_2)) = true := bne_iff_ne.mpr c46
                    obtain rfl := Option.some.inj H
                    have hnb50 := NB140_141.out
                    have hnc50 := NB141_140.out
                    have hcz51_0 : wr.cell? ⟨gb140, 0, none⟩ = some (.int .i64 a0_0) := (blk_cell BK140.out 0).trans rfl
                    have hcz51_1 : wr.cell? ⟨gb140, 1, none⟩ = some (.int .u64 a0_1) := (blk_cell BK140.out 1).trans rfl
                    have hcz51_2 : wr.cell? ⟨gb140, 2, none⟩ = some (.bool a0_2) := (blk_cell BK140.out 2).trans rfl
                    have hcz51_3 : wr.cell? ⟨gb140, 3, none⟩ = some (.int .u64 a0_3) := (blk_cell BK140.out 3).trans rfl
                    have hcz51_4 : wr.cell? ⟨gb140, 4, none⟩ = some (.int .i64 a0_4) := (blk_cell BK140.out 4).trans rfl
                    have hcz51_5 : wr.cell? ⟨gb140, 5, none⟩ = some (.bool a0_5) := (blk_cell BK140.out 5).trans rfl
                    have hcz51_6 : wr.cell? ⟨gb140, 6, none⟩ = some (.int .u32 a0_6) := (blk_cell BK140.out 6).trans rfl
                    have hcz51_7 : wr.cell? ⟨gb140, 7, none⟩ = some (.int .i64 a0_7) := (blk_cell BK140.out 7).trans rfl
                    have hcz51_8 : wr.cell? ⟨gb140, 8, none⟩ = some (.int .i64 a0_8) := (blk_cell BK140.out 8).trans rfl
                    have hcz51_9 : wr.cell? ⟨gb140, 9, none⟩ = some (.int .i64 a0_9) := (blk_cell BK140.out 9).trans rfl
                    have hcz51_10 : wr.cell? ⟨gb140, 10, none⟩ = some (.int .i64 a0_10) := (blk_cell BK140.out 10).trans rfl
                    have hcz51_11 : wr.cell? ⟨gb140, 11, none⟩ = some (.int .i64 a0_11) := (blk_cell BK140.out 11).trans rfl
                    have hcz51_12 : wr.cell? ⟨gb140, 12, none⟩ = some (.int .i64 a0_12) := (blk_cell BK140.out 12).trans rfl
                    have hcz51_13 : wr.cell? ⟨gb140, 13, none⟩ = some (.int .i64 a0_13) := (blk_cell BK140.out 13).trans rfl
                    have hcz51_14 : wr.cell? ⟨gb140, 14, none⟩ = some (.int .i64 a0_14) := (blk_cell BK140.out 14).trans rfl
                    have hcz51_15 : wr.cell? ⟨gb140, 15, none⟩ = some (.int .i64 a0_15) := (blk_cell BK140.out 15).trans rfl
                    have hcz51_16 : wr.cell? ⟨gb140, 16, none⟩ = some (.int .i64 a0_16) := (blk_cell BK140.out 16).trans rfl
                    have hcz51_17 : wr.cell? ⟨gb140, 17, none⟩ = some (.slice A0_17 l0_17.length c0_17) := (blk_cell BK140.out 17).trans rfl
                    have hcz51_18 : wr.cell? ⟨gb140, 18, none⟩ = some (.slice A0_18 l0_18.length c0_18) := (blk_cell BK140.out 18).trans rfl
                    have hcz51_19 : wr.cell? ⟨gb140, 19, none⟩ = some (.slice A0_19 l0_19.length c0_19) := (blk_cell BK140.out 19).trans rfl
                    have hfz51_0 := blk_frozen BK140.out 0
                    have hfz51_1 := blk_frozen BK140.out 1
                    have hfz51_2 := blk_frozen BK140.out 2
                    have hfz51_3 := blk_frozen BK140.out 3
                    have hfz51_4 := blk_frozen BK140.out 4
                    have hfz51_5 := blk_frozen BK140.out 5
                    have hfz51_6 := blk_frozen BK140.out 6
                    have hfz51_7 := blk_frozen BK140.out 7
                    have hfz51_8 := blk_frozen BK140.out 8
                    have hfz51_9 := blk_frozen BK140.out 9
                    have hfz51_10 := blk_frozen BK140.out 10
                    have hfz51_11 := blk_frozen BK140.out 11
                    have hfz51_12 := blk_frozen BK140.out 12
                    have hfz51_13 := blk_frozen BK140.out 13
                    have hfz51_14 := blk_frozen BK140.out 14
                    have hfz51_15 := blk_frozen BK140.out 15
                    have hfz51_16 := blk_frozen BK140.out 16
                    have hfz51_17 := blk_frozen BK140.out 17
                    have hfz51_18 := blk_frozen BK140.out 18
                    have hfz51_19 := blk_frozen BK140.out 19
                    have p143 : 0 ≤ (x5_2 : Int) := of_decide_eq_true (by first | (with_reducible assumption) | assumption)
                    have q143 : x5_2 < (l0_19.length : Int) := of_decide_eq_true (by first | (with_reducible assumption) | assumption)
                    obtain ⟨ad143, e143, hx143_0⟩ := Kd.at_int HR0_19.out x5_2 p143 q143
                    cases e143
                    replace hx143_0 := (HB.out.cell (World.block_lt_of_cell? w _ hx143_0)).trans hx143_0
                    replace p143 := eq_true p143
                    replace q143 := eq_true q143
                    have hcz52_0 : wr.cell? ⟨gb141, 0, none⟩ = some (.int .i64 a1_0) := (blk_cell BK141.out 0).trans rfl
                    have hcz52_1 : wr.cell? ⟨gb141, 1, none⟩ = some (.int .u64 a1_1) := (blk_cell BK141.out 1).trans rfl
                    have hcz52_2 : wr.cell? ⟨gb141, 2, none⟩ = some (.bool a1_2) := (blk_cell BK141.out 2).trans rfl
                    have hcz52_3 : wr.cell? ⟨gb141, 3, none⟩ = some (.int .u64 a1_3) := (blk_cell BK141.out 3).trans rfl
                    have hcz52_4 : wr.cell? ⟨gb141, 4, none⟩ = some (.int .i64 a1_4) := (blk_cell BK141.out 4).trans rfl
                    have hcz52_5 : wr.cell? ⟨gb141, 5, none⟩ = some (.bool a1_5) := (blk_cell BK141.out 5).trans rfl
                    have hcz52_6 : wr.cell? ⟨gb141, 6, none⟩ = some (.int .u32 a1_6) := (blk_cell BK141.out 6).trans rfl
                    have hcz52_7 : wr.cell? ⟨gb141, 7, none⟩ = some (.int .i64 a1_7) := (blk_cell BK141.out 7).trans rfl
                    have hcz52_8 : wr.cell? ⟨gb141, 8, none⟩ = some (.int .i64 a1_8) := (blk_cell BK141.out 8).trans rfl
                    have hcz52_9 : wr.cell? ⟨gb141, 9, none⟩ = some (.int .i64 a1_9) := (blk_cell BK141.out 9).trans rfl
                    have hcz52_10 : wr.cell? ⟨gb141, 10, none⟩ = some (.int .i64 a1_10) := (blk_cell BK141.out 10).trans rfl
                    have hcz52_11 : wr.cell? ⟨gb141, 11, none⟩ = some (.int .i64 a1_11) := (blk_cell BK141.out 11).trans rfl
                    have hcz52_12 : wr.cell? ⟨gb141, 12, none⟩ = some (.int .i64 a1_12) := (blk_cell BK141.out 12).trans rfl
                    have hcz52_13 : wr.cell? ⟨gb141, 13, none⟩ = some (.int .i64 a1_13) := (blk_cell BK141.out 13).trans rfl
                    have hcz52_14 : wr.cell? ⟨gb141, 14, none⟩ = some (.int .i64 a1_14) := (blk_cell BK141.out 14).trans rfl
                    have hcz52_15 : wr.cell? ⟨gb141, 15, none⟩ = some (.int .i64 a1_15) := (blk_cell BK141.out 15).trans rfl
                    have hcz52_16 : wr.cell? ⟨gb141, 16, none⟩ = some (.int .i64 a1_16) := (blk_cell BK141.out 16).trans rfl
                    have hcz52_17 : wr.cell? ⟨gb141, 17, none⟩ = some (.slice A1_17 l1_17.length c1_17) := (blk_cell BK141.out 17).trans rfl
                    have hcz52_18 : wr.cell? ⟨gb141, 18, none⟩ = some (.slice A1_18 l1_18.length c1_18) := (blk_cell BK141.out 18).trans rfl
                    have hcz52_19 : wr.cell? ⟨gb141, 19, none⟩ = some (.slice A1_19 l1_19.length c1_19) := (blk_cell BK141.out 19).trans rfl
                    have hfz52_0 := blk_frozen BK141.out 0
                    have hfz52_1 := blk_frozen BK141.out 1
                    have hfz52_2 := blk_frozen BK141.out 2
                    have hfz52_3 := blk_frozen BK141.out 3
                    have hfz52_4 := blk_frozen BK141.out 4
                    have hfz52_5 := blk_frozen BK141.out 5
                    have hfz52_6 := blk_frozen BK141.out 6
                    have hfz52_7 := blk_frozen BK141.out 7
                    have hfz52_8 := blk_frozen BK141.out 8
                    have hfz52_9 := blk_frozen BK141.out 9
                    have hfz52_10 := blk_frozen BK141.out 10
                    have hfz52_11 := blk_frozen BK141.out 11
                    have hfz52_12 := blk_frozen BK141.out 12
                    have hfz52_13 := blk_frozen BK141.out 13
                    have hfz52_14 := blk_frozen BK141.out 14
                    have hfz52_15 := blk_frozen BK141.out 15
                    have hfz52_16 := blk_frozen BK141.out 16
                    have hfz52_17 := blk_frozen BK141.out 17
                    have hfz52_18 := blk_frozen BK141.out 18
                    have hfz52_19 := blk_frozen BK141.out 19
                    have p144 : 0 ≤ (x5_2 : Int) := of_decide_eq_true (by first | (with_reducible assumption) | assumption)
                    have q144 : x5_2 < (l1_19.length : Int) := of_decide_eq_true (by first | (with_reducible assumption) | assumption)
                    obtain ⟨ad144, e144, hx144_0⟩ := Kd.at_int HR1_19.out x5_2 p144 q144
                    cases e144
                    replace hx144_0 := (HB.out.cell (World.block_lt_of_cell? w _ hx144_0)).trans hx144_0
                    replace p144 := eq_true p144
                    replace q144 := eq_true q144
                    go_wp2
                    repeat (go_quiet (fail); try go_wp2)
                    go_ret
                    exact ⟨by first | rfl | (simp [errW_none, errW_some] <;> rfl) | (simp [*, errW_none, errW_some] <;> rfl), by repeat (first | (with_reducible first | exact HB.out | apply below_alloc | apply pw_below_drewN | apply below_drew1 | refine below_set ?_ GE140.out | refine below_set ?_ GE141.out) | exact HB.out)⟩
                · rw [if_neg c45] at H
                  exact absurd H (by simp)
              · rw [if_neg c44] at H
                exact absurd H (by simp)
            · rw [if_neg c43] at H
              have c43b0 : decide (x5_2 < (l0_19.length : Int)) = false := decide_eq_false c43
              clear c43
              obtain rfl := Option.some.inj H
              have hnb53 := NB140_141.out
              have hnc53 := NB141_140.out
              have hcz54_0 : wr.cell? ⟨gb140, 0, none⟩ = some (.int .i64 a0_0) := (blk_cell BK140.out 0).trans rfl
              have hcz54_1 : wr.cell? ⟨gb140, 1, none⟩ = some (.int .u64 a0_1) := (blk_cell BK140.out 1).trans rfl
              have hcz54_2 : wr.cell? ⟨gb140, 2, none⟩ = some (.bool a0_2) := (blk_cell BK140.out 2).trans rfl
              have hcz54_3 : wr.cell? ⟨gb140, 3, none⟩ = some (.int .u64 a0_3) := (blk_cell BK140.out 3).trans rfl
              have hcz54_4 : wr.cell? ⟨gb140, 4, none⟩ = some (.int .i64 a0_4) := (blk_cell BK140.out 4).trans rfl
              have hcz54_5 : wr.cell? ⟨gb140, 5, none⟩ = some (.bool a0_5) := (blk_cell BK140.out 5).trans rfl
              have hcz54_6 : wr.cell? ⟨gb140, 6, none⟩ = some (.int .u32 a0_6) := (blk_cell BK140.out 6).trans rfl
              have hcz54_7 : wr.cell? ⟨gb140, 7, none⟩ = some (.int .i64 a0_7) := (blk_cell BK140.out 7).trans rfl
              have hcz54_8 : wr.cell? ⟨gb140, 8, none⟩ = some (.int .i64 a0_8) := (blk_cell BK140.out 8).trans rfl
              have hcz54_9 : wr.cell? ⟨gb140, 9, none⟩ = some (.int .i64 a0_9) := (blk_cell BK140.out 9).trans rfl
              have hcz54_10 : wr.cell? ⟨gb140, 10, none⟩ = some (.int .i64 a0_10) := (blk_cell BK140.out 10).trans rfl
              have hcz54_11 : wr.cell? ⟨gb140, 11, none⟩ = some (.int .i64 a0_11) := (blk_cell BK140.out 11).trans rfl
              have hcz54_12 : wr.cell? ⟨gb140, 12, none⟩ = some (.int .i64 a0_12) := (blk_cell BK140.out 12).trans rfl
              have hcz54_13 : wr.cell? ⟨gb140, 13, none⟩ = some (.int .i64 a0_13) := (blk_cell BK140.out 13).trans rfl
              have hcz54_14 : wr.cell? ⟨gb140, 14, none⟩ = some (.int .i64 a0_14) := (blk_cell BK140.out 14).trans rfl
              have hcz54_15 : wr.cell? ⟨gb140, 15, none⟩ = some (.int .i64 a0_15) := (blk_cell BK140.out 15).trans rfl
              have hcz54_16 : wr.cell? ⟨gb140, 16, none⟩ = some (.int .i64 a0_16) := (blk_cell BK140.out 16).trans rfl
              have hcz54_17 : wr.cell? ⟨gb140, 17, none⟩ = some (.slice A0_17 l0_17.length c0_17) := (blk_cell BK140.out 17).trans rfl
              have hcz54_18 : wr.cell? ⟨gb140, 18, none⟩ = some (.slice A0_18 l0_18.length c0_18) := (blk_cell BK140.out 18).trans rfl
              have hcz54_19 : wr.cell? ⟨gb140, 19, none⟩ = some (.slice A0_19 l0_19.length c0_19) := (blk_cell BK140.out 19).trans rfl
              have hfz54_0 := blk_frozen BK140.out 0
              have hfz54_1 := blk_frozen BK140.out 1
              have hfz54_2 := blk_frozen BK140.out 2
              have hfz54_3 := blk_frozen BK140.out 3
              have hfz54_4 := blk_frozen BK140.out 4
              have hfz54_5 := blk_frozen BK140.out 5
              have hfz54_6 := blk_frozen BK140.out 6
              have hfz54_7 := blk_frozen BK140.out 7
              have hfz54_8 := blk_frozen BK140.out 8
              have hfz54_9 := blk_frozen BK140.out 9
              have hfz54_10 := blk_frozen BK140.out 10
              have hfz54_11 := blk_frozen BK140.out 11
              have hfz54_12 := blk_frozen BK140.out 12
              have hfz54_13 := blk_frozen BK140.out 13
              have hfz54_14 := blk_frozen BK140.out 14
              have hfz54_15 := blk_frozen BK140.out 15
              have hfz54_16 := blk_frozen BK140.out 16
              have hfz54_17 := blk_frozen BK140.out 17
              have hfz54_18 := blk_frozen BK140.out 18
              have hfz54_19 := blk_frozen BK140.out 19
              go_wp2
              repeat (go_quiet (fail); try go_wp2)
              go_ret
              exact ⟨by first | rfl | (simp [errW_none, errW_some] <;> rfl) | (simp [*, errW_none, errW_some] <;> rfl), by repeat (first | (with_reducible first | exact HB.out | apply below_alloc | apply pw_below_drewN | apply below_drew1 | refine below_set ?_ GE140.out | refine below_set ?_ GE141.out) | exact HB.out)⟩
end Go.Proofs.YtiamkgoajkfofaaDoor.S
end
