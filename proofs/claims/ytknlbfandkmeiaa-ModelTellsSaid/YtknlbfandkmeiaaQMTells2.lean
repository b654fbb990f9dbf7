/- What the row of this claim reaches. No condition. -/
import Derived.Test.YtknlbfandkmeiaaQMTellsP
set_option linter.unusedVariables false
set_option linter.unusedSimpArgs false
namespace Go.Proofs.Ytknlbfandkmeiaa.M
open Go.RowKit Go.Proofs.YtknlbfandkmeiaaW.PrintWords Go.Proofs.YtknlbfandkmeiaaW.PrintLast Go.Proofs.YtknlbfandkmeiaaW.PrintMore
def tla.T25 : Bool × List (List Nat × List Nat) := (true, [([], []), ([0], [0]), ([], []), ([2], [2]), ([3], [3]), ([4], [4]), ([1, 5], [1, 5]), ([], []), ([7], [7]), ([], []), ([9], [9]), ([10], [10]), ([11], [11]), ([8, 12], [8, 12]), ([0, 1, 2, 3, 4, 5, 6], []), ([14, 6, 0, 1, 2, 3, 4, 5, 6], [6, 14]), ([0, 1, 2, 3, 4, 5, 6, 7, 8, 9, 10, 11, 12, 13, 14, 15], []), ([16, 13, 15, 0, 1, 2, 3, 4, 5, 6, 7, 8, 9, 10, 11, 12, 13, 14, 15], [13, 16])])
def tla.B25 : List Nat := [0, 1, 0, 4, 12, 28, 63, 0, 128, 0, 512, 1536, 3584, 8064, 127, 16511, 65535, 131071]
theorem tla.tab25 : rtab .any (opsOf Try.f6 25) = tla.T25 := by kernel_rfl
theorem tla.bits25 : waitsOk tla.T25.2 tla.B25 = true := by kernel_rfl
def tlb.T26 : Bool × List (List Nat × List Nat) := (true, [([], []), ([], []), ([0, 1], [0, 1]), ([], []), ([], []), ([3, 4, 2], [3, 4]), ([2, 5], [2, 5]), ([6, 5], [6]), ([7], [7]), ([7], [7]), ([8, 9, 7, 7], [7, 8, 9]), ([10, 7], [7, 10]), ([7, 11], [7, 11])])
def tlb.B26 : List Nat := [0, 0, 3, 0, 0, 31, 63, 127, 255, 255, 1023, 2047, 4095]
theorem tlb.tab26 : rtab .any (opsOf Try.f6 26) = tlb.T26 := by kernel_rfl
theorem tlb.bits26 : waitsOk tlb.T26.2 tlb.B26 = true := by kernel_rfl
set_option maxHeartbeats 8000000 in
set_option maxRecDepth 100000 in
theorem tells_two (A2 : Option Addr) (c2 : Nat) (l2 : List S41) (w W : World) (hr2 : Kd.C k41 w A2 l2.length l2) (hB : Below w.heap.size w W) (u0 u1 u3 u4 u5 u6 u7 u8 u9 u10 u11 u12 u13 u14 u15 u16 u17 u18 u19 u20 u21 u22 u23 u24 u25 u26 u27 u28 u29 u30 u31 u32 u33 u34 u35 u36 u37 u38 u39 u40 u41 u42 u43 u44 u45 u46 u47 u48 u49 u50 u51 u52 u53 u54 u55 u56 u57 u58 u59 u60 u61 u62 u63 u64 u65 u66 u67 u68 u69 u70 u71 u72 u73 u74 u75 u76 u77 u78 u79 u80 u81 u82 u83 u84 u85 u86 u87 u88 u89 u90 u91 u92 u93 u94 u95 u96 u97 u98 u99 u100 u101 u102 u103 u104 u105 u106 u107 u108 u109 u110 u111 u112 u113 u114 u115 u116 u117 u118 u119 u120 u121 u122 u123 u124 u125 u126 u127 u128 u129 u130 u131 u132 u133 u134 u135 u136 u137 u138 u139 u140 u141 : Value) :
    (((Go.Code.region 20 #[{ dst := some 100, op := Go.Op.move (Go.Operand.tmp 2), type := 28, pos := "law.go:127", after := #[], guard := none }, { dst := some 101, op := Go.Op.call { callee := Go.Callee.builtin Go.Builtin.len, args := #[Go.Operand.tmp 100], argTypes := #[28] }, type := 3, pos := "law.go:127", after := #[{ on := 0, ground := Go.Ground.data }], guard := none }, { dst := some 102, op := Go.Op.move (Go.Operand.const (Go.Value.int Go.IntKind.i64 0)), type := 3, pos := "law.go:127", after := #[], guard := none }] false).seq (Go.Code.block 2 ((Go.Code.region 21 #[{ dst := some 103, op := Go.Op.binOp Go.BinOp.lss 3 (Go.Operand.tmp 102) (Go.Operand.tmp 101) 3, type := 0, pos := "law.go:127", after := #[], guard := none }] false).seq ((Go.Code.cond (Go.Operand.tmp 103) Go.Code.skip (Go.Code.exit 2)).seq ((Go.Code.block 3 ((Go.Code.region 22 #[{ dst := some 104, op := Go.Op.move (Go.Operand.tmp 102), type := 3, pos := "law.go:127", after := #[], guard := none }, { dst := some 105, op := Go.Op.indexAddr 28 (Go.Operand.tmp 100) (Go.Operand.tmp 102), type := 0, pos := "law.go:127", after := #[], guard := none }, { dst := some 106, op := Go.Op.load 41 (Go.Operand.tmp 105), type := 41, pos := "law.go:127", after := #[{ on := 1, ground := Go.Ground.data }], guard := none }, { dst := some 16, op := Go.Op.alloc 41, type := 0, pos := "law.go:127", after := #[], guard := none }, { dst := some 15, op := Go.Op.assign (Go.Operand.tmp 104), type := 3, pos := "law.go:127", after := #[{ on := 0, ground := Go.Ground.data }, { on := 0, ground := Go.Ground.phase }, { on := 1, ground := Go.Ground.phase }, { on := 2, ground := Go.Ground.phase }, { on := 3, ground := Go.Ground.phase }], guard := none }, { dst := none, op := Go.Op.store 41 (Go.Operand.tmp 16) (Go.Operand.tmp 106), type := 0, pos := "law.go:127", after := #[{ on := 3, ground := Go.Ground.data }, { on := 2, ground := Go.Ground.data }, { on := 4, ground := Go.Ground.chain }, { on := 0, ground := Go.Ground.phase }, { on := 1, ground := Go.Ground.phase }, { on := 2, ground := Go.Ground.phase }, { on := 3, ground := Go.Ground.phase }, { on := 4, ground := Go.Ground.phase }], guard := none }] false).seq (((Go.Code.region 23 #[{ dst := some 107, op := Go.Op.move (Go.Operand.tmp 15), type := 3, pos := "law.go:128", after := #[], guard := none }, { dst := some 108, op := Go.Op.binOp Go.BinOp.eql 3 (Go.Operand.tmp 107) (Go.Operand.const (Go.Value.int Go.IntKind.i64 12)) 3, type := 4, pos := "law.go:128", after := #[{ on := 0, ground := Go.Ground.data }], guard := none }] false).seq (Go.Code.cond (Go.Operand.tmp 108) (Go.Code.exit 2) Go.Code.skip)).seq ((Go.Code.region 24 #[{ dst := some 109, op := Go.Op.move (Go.Operand.tmp 2), type := 28, pos := "law.go:131", after := #[], guard := none }, { dst := some 110, op := Go.Op.indexAddr 28 (Go.Operand.tmp 109) (Go.Operand.const (Go.Value.int Go.IntKind.i64 0)), type := 0, pos := "law.go:131", after := #[{ on := 0, ground := Go.Ground.data }], guard := none }, { dst := some 111, op := Go.Op.load 41 (Go.Operand.tmp 110), type := 41, pos := "law.go:131", after := #[{ on := 1, ground := Go.Ground.data }], guard := none }, { dst := some 17, op := Go.Op.alloc 41, type := 0, pos := "law.go:131", after := #[], guard := none }, { dst := none, op := Go.Op.store 41 (Go.Operand.tmp 17) (Go.Operand.tmp 111), type := 0, pos := "law.go:131", after := #[{ on := 3, ground := Go.Ground.data }, { on := 2, ground := Go.Ground.data }, { on := 0, ground := Go.Ground.phase }, { on := 1, ground := Go.Ground.phase }, { on := 2, ground := Go.Ground.phase }, { on := 3, ground := Go.Ground.phase }], guard := none }] false).seq ((Go.Code.region 25 #[{ dst := some 112, op := Go.Op.fieldAddr 41 (Go.Operand.tmp 16) 2, type := 0, pos := "law.go:132", after := #[], guard := none }, { dst := some 113, op := Go.Op.load 22 (Go.Operand.tmp 112), type := 22, pos := "law.go:132", after := #[{ on := 0, ground := Go.Ground.data }], guard := none }, { dst := some 114, op := Go.Op.fieldAddr 41 (Go.Operand.tmp 16) 2, type := 0, pos := "law.go:132", after := #[], guard := none }, { dst := some 115, op := Go.Op.load 22 (Go.Operand.tmp 114), type := 22, pos := "law.go:132", after := #[{ on := 2, ground := Go.Ground.data }], guard := none }, { dst := some 116, op := Go.Op.call { callee := Go.Callee.builtin Go.Builtin.len, args := #[Go.Operand.tmp 115], argTypes := #[22] }, type := 3, pos := "law.go:132", after := #[{ on := 3, ground := Go.Ground.data }], guard := none }, { dst := some 117, op := Go.Op.call { callee := Go.Callee.builtin Go.Builtin.min, args := #[Go.Operand.tmp 116, Go.Operand.const (Go.Value.int Go.IntKind.i64 20)], argTypes := #[3, 3] }, type := 3, pos := "law.go:132", after := #[{ on := 4, ground := Go.Ground.data }], guard := none }, { dst := some 118, op := Go.Op.slice 22 (Go.Operand.tmp 113) none (some (Go.Operand.tmp 117)) none, type := 22, pos := "law.go:132", after := #[{ on := 1, ground := Go.Ground.data }, { on := 5, ground := Go.Ground.data }], guard := none }, { dst := some 119, op := Go.Op.fieldAddr 41 (Go.Operand.tmp 17) 2, type := 0, pos := "law.go:132", after := #[], guard := none }, { dst := some 120, op := Go.Op.load 22 (Go.Operand.tmp 119), type := 22, pos := "law.go:132", after := #[{ on := 7, ground := Go.Ground.data }], guard := none }, { dst := some 121, op := Go.Op.fieldAddr 41 (Go.Operand.tmp 17) 2, type := 0, pos := "law.go:132", after := #[], guard := none }, { dst := some 122, op := Go.Op.load 22 (Go.Operand.tmp 121), type := 22, pos := "law.go:132", after := #[{ on := 9, ground := Go.Ground.data }], guard := none }, { dst := some 123, op := Go.Op.call { callee := Go.Callee.builtin Go.Builtin.len, args := #[Go.Operand.tmp 122], argTypes := #[22] }, type := 3, pos := "law.go:132", after := #[{ on := 10, ground := Go.Ground.data }], guard := none }, { dst := some 124, op := Go.Op.call { callee := Go.Callee.builtin Go.Builtin.min, args := #[Go.Operand.tmp 123, Go.Operand.const (Go.Value.int Go.IntKind.i64 20)], argTypes := #[3, 3] }, type := 3, pos := "law.go:132", after := #[{ on := 11, ground := Go.Ground.data }], guard := none }, { dst := some 125, op := Go.Op.slice 22 (Go.Operand.tmp 120) none (some (Go.Operand.tmp 124)) none, type := 22, pos := "law.go:132", after := #[{ on := 8, ground := Go.Ground.data }, { on := 12, ground := Go.Ground.data }], guard := none }, { dst := some 126, op := Go.Op.fieldAddr 41 (Go.Operand.tmp 16) 2, type := 0, pos := "law.go:132", after := #[{ on := 0, ground := Go.Ground.phase }, { on := 1, ground := Go.Ground.phase }, { on := 2, ground := Go.Ground.phase }, { on := 3, ground := Go.Ground.phase }, { on := 4, ground := Go.Ground.phase }, { on := 5, ground := Go.Ground.phase }, { on := 6, ground := Go.Ground.phase }, { on := 7, ground := Go.Ground.textOnly Go.Departure.lateStores }, { on := 8, ground := Go.Ground.textOnly Go.Departure.lateStores }, { on := 9, ground := Go.Ground.textOnly Go.Departure.lateStores }, { on := 10, ground := Go.Ground.textOnly Go.Departure.lateStores }, { on := 11, ground := Go.Ground.textOnly Go.Departure.lateStoresUnsure }, { on := 12, ground := Go.Ground.textOnly Go.Departure.lateStoresUnsure }, { on := 13, ground := Go.Ground.textOnly Go.Departure.lateStoresUnsure }], guard := none }, { dst := none, op := Go.Op.store 22 (Go.Operand.tmp 126) (Go.Operand.tmp 118), type := 0, pos := "law.go:132", after := #[{ on := 14, ground := Go.Ground.data }, { on := 6, ground := Go.Ground.data }, { on := 0, ground := Go.Ground.phase }, { on := 1, ground := Go.Ground.phase }, { on := 2, ground := Go.Ground.phase }, { on := 3, ground := Go.Ground.phase }, { on := 4, ground := Go.Ground.phase }, { on := 5, ground := Go.Ground.phase }, { on := 6, ground := Go.Ground.phase }, { on := 7, ground := Go.Ground.textOnly Go.Departure.lateStores }, { on := 8, ground := Go.Ground.textOnly Go.Departure.lateStores }, { on := 9, ground := Go.Ground.textOnly Go.Departure.lateStores }, { on := 10, ground := Go.Ground.textOnly Go.Departure.lateStores }, { on := 11, ground := Go.Ground.textOnly Go.Departure.lateStoresUnsure }, { on := 12, ground := Go.Ground.textOnly Go.Departure.lateStoresUnsure }, { on := 13, ground := Go.Ground.textOnly Go.Departure.lateStoresUnsure }], guard := none }, { dst := some 127, op := Go.Op.fieldAddr 41 (Go.Operand.tmp 17) 2, type := 0, pos := "law.go:132", after := #[{ on := 0, ground := Go.Ground.phase }, { on := 1, ground := Go.Ground.phase }, { on := 2, ground := Go.Ground.phase }, { on := 3, ground := Go.Ground.phase }, { on := 4, ground := Go.Ground.phase }, { on := 5, ground := Go.Ground.phase }, { on := 6, ground := Go.Ground.phase }, { on := 7, ground := Go.Ground.phase }, { on := 8, ground := Go.Ground.phase }, { on := 9, ground := Go.Ground.phase }, { on := 10, ground := Go.Ground.phase }, { on := 11, ground := Go.Ground.phase }, { on := 12, ground := Go.Ground.phase }, { on := 13, ground := Go.Ground.phase }, { on := 14, ground := Go.Ground.phase }, { on := 15, ground := Go.Ground.phase }], guard := none }, { dst := none, op := Go.Op.store 22 (Go.Operand.tmp 127) (Go.Operand.tmp 125), type := 0, pos := "law.go:132", after := #[{ on := 16, ground := Go.Ground.data }, { on := 13, ground := Go.Ground.data }, { on := 15, ground := Go.Ground.chain }, { on := 0, ground := Go.Ground.phase }, { on := 1, ground := Go.Ground.phase }, { on := 2, ground := Go.Ground.phase }, { on := 3, ground := Go.Ground.phase }, { on := 4, ground := Go.Ground.phase }, { on := 5, ground := Go.Ground.phase }, { on := 6, ground := Go.Ground.phase }, { on := 7, ground := Go.Ground.phase }, { on := 8, ground := Go.Ground.phase }, { on := 9, ground := Go.Ground.phase }, { on := 10, ground := Go.Ground.phase }, { on := 11, ground := Go.Ground.phase }, { on := 12, ground := Go.Ground.phase }, { on := 13, ground := Go.Ground.phase }, { on := 14, ground := Go.Ground.phase }, { on := 15, ground := Go.Ground.phase }], guard := none }] true).seq ((Go.Code.region 26 #[{ dst := some 128, op := Go.Op.load 41 (Go.Operand.tmp 16), type := 41, pos := "law.go:133", after := #[], guard := none }, { dst := some 129, op := Go.Op.load 41 (Go.Operand.tmp 17), type := 41, pos := "law.go:133", after := #[], guard := none }, { dst := some 130, op := Go.Op.call { callee := Go.Callee.value (Go.Operand.func 28), args := #[Go.Operand.tmp 128, Go.Operand.tmp 129], argTypes := #[41, 41] }, type := 4, pos := "law.go:133", after := #[{ on := 0, ground := Go.Ground.data }, { on := 1, ground := Go.Ground.data }], guard := none }, { dst := some 131, op := Go.Op.load 41 (Go.Operand.tmp 16), type := 41, pos := "law.go:133", after := #[], guard := none }, { dst := some 132, op := Go.Op.load 41 (Go.Operand.tmp 17), type := 41, pos := "law.go:133", after := #[], guard := none }, { dst := some 133, op := Go.Op.call { callee := Go.Callee.value (Go.Operand.func 19), args := #[Go.Operand.tmp 131, Go.Operand.tmp 132], argTypes := #[41, 41] }, type := 4, pos := "law.go:133", after := #[{ on := 3, ground := Go.Ground.data }, { on := 4, ground := Go.Ground.data }, { on := 2, ground := Go.Ground.chain }], guard := none }, { dst := some 134, op := Go.Op.binOp Go.BinOp.neq 4 (Go.Operand.tmp 130) (Go.Operand.tmp 133) 4, type := 4, pos := "law.go:133", after := #[{ on := 2, ground := Go.Ground.data }, { on := 5, ground := Go.Ground.data }], guard := none }, { dst := some 135, op := Go.Op.move (Go.Operand.tmp 134), type := 4, pos := "law.go:133", after := #[{ on := 6, ground := Go.Ground.data }, { on := 5, ground := Go.Ground.chain }], guard := none }, { dst := some 136, op := Go.Op.load 41 (Go.Operand.tmp 16), type := 41, pos := "law.go:133", after := #[{ on := 7, ground := Go.Ground.guard }], guard := some (7, false) }, { dst := some 137, op := Go.Op.load 41 (Go.Operand.tmp 16), type := 41, pos := "law.go:133", after := #[{ on := 7, ground := Go.Ground.guard }], guard := some (7, false) }, { dst := some 138, op := Go.Op.call { callee := Go.Callee.value (Go.Operand.func 28), args := #[Go.Operand.tmp 136, Go.Operand.tmp 137], argTypes := #[41, 41] }, type := 4, pos := "law.go:133", after := #[{ on := 8, ground := Go.Ground.data }, { on := 9, ground := Go.Ground.data }, { on := 7, ground := Go.Ground.chain }, { on := 7, ground := Go.Ground.guard }], guard := some (7, false) }, { dst := some 139, op := Go.Op.unOp Go.UnOp.not 4 (Go.Operand.tmp 138), type := 4, pos := "law.go:133", after := #[{ on := 10, ground := Go.Ground.data }, { on := 7, ground := Go.Ground.guard }], guard := some (7, false) }, { dst := some 140, op := Go.Op.pick (Go.Operand.tmp 135) (Go.Operand.const (Go.Value.bool true)) (Go.Operand.tmp 139), type := 4, pos := "law.go:133", after := #[{ on := 7, ground := Go.Ground.data }, { on := 11, ground := Go.Ground.data }], guard := none }] true).seq (Go.Code.cond (Go.Operand.tmp 140) ((Go.Code.region 27 #[{ dst := some 6, op := Go.Op.assign (Go.Operand.const (Go.Value.bool false)), type := 4, pos := "law.go:134", after := #[], guard := none }] false).seq Go.Code.ret) Go.Code.skip))))))).seq (Go.Code.region 28 #[{ dst := some 141, op := Go.Op.binOp Go.BinOp.add 3 (Go.Operand.tmp 102) (Go.Operand.const (Go.Value.int Go.IntKind.i64 1)) 3, type := 3, pos := "law.go:127", after := #[], guard := none }, { dst := some 102, op := Go.Op.move (Go.Operand.tmp 141), type := 3, pos := "law.go:127", after := #[{ on := 0, ground := Go.Ground.data }], guard := none }] false)))).loop)).seq ((Go.Code.region 29 #[{ dst := some 6, op := Go.Op.assign (Go.Operand.const (Go.Value.bool true)), type := 4, pos := "law.go:137", after := #[], guard := none }] false).seq Go.Code.ret)).wp Try.prog (bodyPost Try.prog Try.f6 fun e w' => e = .returned (.bool true) ∧ Below w.heap.size w w') ⟨#[u0, u1, .slice A2 l2.length c2, u3, u4, u5, u6, u7, u8, u9, u10, u11, u12, u13, u14, u15, u16, u17, u18, u19, u20, u21, u22, u23, u24, u25, u26, u27, u28, u29, u30, u31, u32, u33, u34, u35, u36, u37, u38, u39, u40, u41, u42, u43, u44, u45, u46, u47, u48, u49, u50, u51, u52, u53, u54, u55, u56, u57, u58, u59, u60, u61, u62, u63, u64, u65, u66, u67, u68, u69, u70, u71, u72, u73, u74, u75, u76, u77, u78, u79, u80, u81, u82, u83, u84, u85, u86, u87, u88, u89, u90, u91, u92, u93, u94, u95, u96, u97, u98, u99, u100, u101, u102, u103, u104, u105, u106, u107, u108, u109, u110, u111, u112, u113, u114, u115, u116, u117, u118, u119, u120, u121, u122, u123, u124, u125, u126, u127, u128, u129, u130, u131, u132, u133, u134, u135, u136, u137, u138, u139, u140, u141], []⟩ W := by
  have HA := Lib.hid hr2
  clear hr2
  go_wp2
  go_loopw [102] (fun v102 wr => ∃ (i : Nat), v102 = .int .i64 (i : Int) ∧ i ≤ l2.length ∧ i ≤ 12 ∧ Below w.heap.size w wr) (fun v102 _ => l2.length - (intOf v102).toNat)
  case atStart => exact ⟨0, rfl, by omega, by omega, hB⟩
  case round =>
    clear hB
    obtain ⟨i, rfl, hil, hi2, hB⟩ := hrel
    by_cases hlt : i < l2.length
    · have hd : decide ((i : Int) < (l2.length : Int)) = true := decide_eq_true (by omega)
      have p1 : ((i : Int) < (l2.length : Int)) = True := eq_true (by omega)
      have p0 : (0 < l2.length) = True := eq_true (by omega)
      have p0' : ((0 : Int) < (l2.length : Int)) = True := eq_true (by omega)
      obtain ⟨ad, Aa, ca, rfl, x0, x1, x2, hla, hCa⟩ := at_T41 (Kd.C_below HA.out hB) (i : Int) (by omega) (by omega)
      obtain ⟨ad', Ab, cb, he, y0, y1, y2, hlb, hCb⟩ := at_T41 (Kd.C_below HA.out hB) 0 (by omega) (by omega)
      injection he with he
      subst he
      rw [Int.toNat_natCast] at x0 x1 x2
      replace y0 : wr.cell? ad = some _ := y0
      replace y1 : wr.cell? ⟨ad.block, ad.off + 1, none⟩ = some _ := y1
      replace y2 : wr.cell? ⟨ad.block, ad.off + 2, none⟩ = some _ := y2
      have ly : ad.block < wr.heap.size := World.block_lt_of_cell? _ _ y0
      have Ha : CL wr Aa ca (rd_T41 l2 (i : Int)).f2 := ⟨hla, hCa⟩
      have Hb : CL wr Ab cb (rd_T41 l2 0).f2 := ⟨hlb, hCb⟩
      clear hla hCa hlb hCb
      generalize rd_T41 l2 (i : Int) = a at *
      generalize rd_T41 l2 0 = b at *
      by_cases h12 : (i : Int) = 12
      · have z12 : ((i : Int) == 12) = true := beq_iff_eq.mpr h12
        clear h12
        go_wp2
        go_ret
        exact ⟨rfl, keep_below_alloc _ hB⟩
      have z12 : ((i : Int) == 12) = false := beq_eq_false_iff_ne.mpr h12
      have hi12 : i < 12 := by omega
      clear h12
      go_upto_region 25 with fail
      have v16 := (Blk.new wr 41 #[.int .i64 a.f0, .int .u64 a.f1, .slice Aa a.f2.length ca]).alloc (.cells #[.int .i64 b.f0, .int .u64 b.f1, .slice Ab b.f2.length cb] 41)
      have v17 : Blk ((wr.alloc (.cells #[.int .i64 a.f0, .int .u64 a.f1, .slice Aa a.f2.length ca] 41)).alloc (.cells #[.int .i64 b.f0, .int .u64 b.f1, .slice Ab b.f2.length cb] 41)) (wr.heap.size + 1) 41 #[.int .i64 b.f0, .int .u64 b.f1, .slice Ab b.f2.length cb] := Blk.newAt (by simp)
      have hle := keep_below_alloc (.cells #[.int .i64 b.f0, .int .u64 b.f1, .slice Ab b.f2.length cb] 41) (keep_below_alloc (.cells #[.int .i64 a.f0, .int .u64 a.f1, .slice Aa a.f2.length ca] 41) (Below.refl wr.heap.size wr))
      have hBy := keep_below hB hle
      have Ja := Ha.below hle
      have Jb := Hb.below hle
      have hsz := hB.size
      generalize ((wr.alloc (.cells #[.int .i64 a.f0, .int .u64 a.f1, .slice Aa a.f2.length ca] 41)).alloc (.cells #[.int .i64 b.f0, .int .u64 b.f1, .slice Ab b.f2.length cb] 41)) = Wy at v16 v17 hBy Ja Jb hle ⊢
      clear x0 x1 x2 y0 y1 y2 hBy
      obtain ⟨g6, hg6⟩ : ∃ g6, wr.heap.size = g6 := ⟨_, rfl⟩
      rw [hg6] at v16 v17 hsz hle ⊢
      have hle := Lib.hid hle
      have HG6 := Lib.hid hg6
      have HHa := Lib.hid Ha
      have HHb := Lib.hid Hb
      clear hg6 Ha Hb
      have hca := Ja.1
      have hcb := Jb.1
      clear Ja Jb
      obtain ⟨ma, hma⟩ : ∃ m, min a.f2.length 20 = m := ⟨_, rfl⟩
      obtain ⟨mb, hmb⟩ : ∃ m, min b.f2.length 20 = m := ⟨_, rfl⟩
      have qa : min (a.f2.length : Int) 20 = (ma : Int) := by omega
      have qb : min (b.f2.length : Int) 20 = (mb : Int) := by omega
      have ra : ((ma : Int) ≤ (ca : Int)) = True := eq_true (by omega)
      have rb : ((mb : Int) ≤ (cb : Int)) = True := eq_true (by omega)
      have rz : (0 ≤ (ma : Int)) = True := eq_true (by omega)
      have rz' : (0 ≤ (mb : Int)) = True := eq_true (by omega)
      have c6 := v16.cell 2
      have f6 := v16.frozen 2
      have c7 := v17.cell 2
      have f7 := v17.frozen 2
      simp at c6 c7
      refine start_ (n := 18) (S := (fun w' => w'.cell? ⟨g6 + 1, 2, none⟩ = some (.slice Ab b.f2.length cb))) (ds := [17]) #[false, false, false, false, false, false, false, false, false, false, false, false, false, false, false, false, false, false] (by kernel_rfl) rfl rfl (keep_cell (Below.drew (Below.refl _ _)) c7) (fun hHeld => ?_)
      refine with_tabW tla.tab25 tla.bits25 (fun HT_ HW_ => ?_)
      refine pure_ (i := 0) (N := some 112) (v := ?_) (a' := ?_) #[true, false, false, false, false, false, false, false, false, false, false, false, false, false, false, false, false, false] rfl rfl (any_of HT_.out (by kernel_rfl)) (fun _ _ _ h => h) (Or.inl ⟨by rfl, ?_⟩) ?_ ?_
      rotate_left
      · intro w'
        go_simp
        with_reducible rfl
      rotate_left
      · simp only [Act.put, List.setIfInBounds_toArray, List.set_cons_zero, List.set_cons_succ, i64_w, i32_w]
        rfl
      refine pure_ (i := 2) (N := some 114) (v := ?_) (a' := ?_) #[true, false, true, false, false, false, false, false, false, false, false, false, false, false, false, false, false, false] rfl rfl (any_of HT_.out (by kernel_rfl)) (fun _ _ _ h => h) (Or.inl ⟨by rfl, ?_⟩) ?_ ?_
      rotate_left
      · intro w'
        go_simp
        with_reducible rfl
      rotate_left
      · simp only [Act.put, List.setIfInBounds_toArray, List.set_cons_zero, List.set_cons_succ, i64_w, i32_w]
        rfl
      refine pure_ (i := 7) (N := some 119) (v := ?_) (a' := ?_) #[true, false, true, false, false, false, false, true, false, false, false, false, false, false, false, false, false, false] rfl rfl (any_of HT_.out (by kernel_rfl)) (fun _ _ _ h => h) (Or.inl ⟨by rfl, ?_⟩) ?_ ?_
      rotate_left
      · intro w'
        go_simp
        with_reducible rfl
      rotate_left
      · simp only [Act.put, List.setIfInBounds_toArray, List.set_cons_zero, List.set_cons_succ, i64_w, i32_w]
        rfl
      refine take_ (i := 8) (N := some 120) (v := ?_) (a' := ?_) #[true, false, true, false, false, false, false, true, true, false, false, false, false, false, false, false, false, false] rfl rfl (take_ofW HT_.out HW_.out (by kernel_rfl)) (fun _ _ _ h => h) (Or.inl ⟨by rfl, ?_⟩) hHeld ?_ ?_
      rotate_left
      · rintro w' s0
        have m0 : w'.cell? ⟨g6 + 1, 2, none⟩ = some (.slice Ab b.f2.length cb) := s0
        go_simp
        with_reducible rfl
      rotate_left
      · simp only [Act.put, List.setIfInBounds_toArray, List.set_cons_zero, List.set_cons_succ, i64_w, i32_w]
        rfl
      refine pure_ (i := 9) (N := some 121) (v := ?_) (a' := ?_) #[true, false, true, false, false, false, false, true, true, true, false, false, false, false, false, false, false, false] rfl rfl (any_of HT_.out (by kernel_rfl)) (fun _ _ _ h => h) (Or.inl ⟨by rfl, ?_⟩) ?_ ?_
      rotate_left
      · intro w'
        go_simp
        with_reducible rfl
      rotate_left
      · simp only [Act.put, List.setIfInBounds_toArray, List.set_cons_zero, List.set_cons_succ, i64_w, i32_w]
        rfl
      refine take_ (i := 10) (N := some 122) (v := ?_) (a' := ?_) #[true, false, true, false, false, false, false, true, true, true, true, false, false, false, false, false, false, false] rfl rfl (take_ofW HT_.out HW_.out (by kernel_rfl)) (fun _ _ _ h => h) (Or.inl ⟨by rfl, ?_⟩) hHeld ?_ ?_
      rotate_left
      · rintro w' s0
        have m0 : w'.cell? ⟨g6 + 1, 2, none⟩ = some (.slice Ab b.f2.length cb) := s0
        go_simp
        with_reducible rfl
      rotate_left
      · simp only [Act.put, List.setIfInBounds_toArray, List.set_cons_zero, List.set_cons_succ, i64_w, i32_w]
        rfl
      refine pure_ (i := 11) (N := some 123) (v := ?_) (a' := ?_) #[true, false, true, false, false, false, false, true, true, true, true, true, false, false, false, false, false, false] rfl rfl (any_of HT_.out (by kernel_rfl)) (fun _ _ _ h => h) (Or.inl ⟨by rfl, ?_⟩) ?_ ?_
      rotate_left
      · intro w'
        go_simp
        with_reducible rfl
      rotate_left
      · simp only [Act.put, List.setIfInBounds_toArray, List.set_cons_zero, List.set_cons_succ, i64_w, i32_w]
        rfl
      refine pure_ (i := 12) (N := some 124) (v := ?_) (a' := ?_) #[true, false, true, false, false, false, false, true, true, true, true, true, true, false, false, false, false, false] rfl rfl (any_of HT_.out (by kernel_rfl)) (fun _ _ _ h => h) (Or.inl ⟨by rfl, ?_⟩) ?_ ?_
      rotate_left
      · intro w'
        go_simp
        with_reducible rfl
      rotate_left
      · simp only [Act.put, List.setIfInBounds_toArray, List.set_cons_zero, List.set_cons_succ, i64_w, i32_w]
        rfl
      refine pure_ (i := 13) (N := some 125) (v := ?_) (a' := ?_) #[true, false, true, false, false, false, false, true, true, true, true, true, true, true, false, false, false, false] rfl rfl (any_of HT_.out (by kernel_rfl)) (fun _ _ _ h => h) (Or.inl ⟨by rfl, ?_⟩) ?_ ?_
      rotate_left
      · intro w'
        go_simp
        with_reducible rfl
      rotate_left
      · simp only [Act.put, List.setIfInBounds_toArray, List.set_cons_zero, List.set_cons_succ, i64_w, i32_w]
        rfl
      refine join_ (σ := Unit) 3 #[true, true, true, true, true, true, true, true, true, true, true, true, true, true, true, false, false, false] (fun _ => [(113, .slice Aa a.f2.length ca), (115, .slice Aa a.f2.length ca), (116, .int .i64 (a.f2.length : Int)), (117, .int .i64 (ma : Int)), (118, .slice Aa ma ca), (126, .pointer (some ⟨g6, 2, none⟩))]) (fun _ w' => w' = Wy.drew) ?_ (fun hJ => ?_)
      rotate_left
      · skip
        refine two_ (i := 1) (j := 3) (Ni := some 113) (Nj := some 115) #[true, true, true, false, false, false, false, true, true, true, true, true, true, true, false, false, false, false] #[true, false, true, true, false, false, false, true, true, true, true, true, true, true, false, false, false, false] rfl rfl rfl rfl (two_of HT_.out (by kernel_rfl)) (by decide) (by decide) (fun K hK => ?_) (fun K hK => ?_)
        · skip
          refine value_ (N := some 113) (v := .slice Aa a.f2.length ca) (w1 := Wy.drew) (by rfl) rfl (by go_simp) ?_
          refine hK.out _ _ hHeld (fun hHeld => ?_)
          clear hK K
          refine norm_ (a' := ?_) ?_ ?_
          rotate_left
          · first | (show Act.put _ (some 113) _ = _; simp only [Act.put, List.setIfInBounds_toArray, List.set_cons_zero, List.set_cons_succ, i64_w, i32_w]; rfl) | with_reducible rfl
          refine one_ (i := 3) (N := some 115) #[true, true, true, true, false, false, false, true, true, true, true, true, true, true, false, false, false, false] rfl rfl (one_of HT_.out (by kernel_rfl)) (by decide) (fun K hK => ?_)
          refine value_ (N := some 115) (v := .slice Aa a.f2.length ca) (w1 := Wy.drew) (by rfl) rfl (by go_simp) ?_
          refine hK.out _ _ hHeld (fun hHeld => ?_)
          clear hK K
          refine norm_ (a' := ?_) ?_ ?_
          rotate_left
          · first | (show Act.put _ (some 115) _ = _; simp only [Act.put, List.setIfInBounds_toArray, List.set_cons_zero, List.set_cons_succ, i64_w, i32_w]; rfl) | with_reducible rfl
          refine pure_ (i := 4) (N := some 116) (v := ?_) (a' := ?_) #[true, true, true, true, true, false, false, true, true, true, true, true, true, true, false, false, false, false] rfl rfl (any_of HT_.out (by kernel_rfl)) (fun _ _ _ h => h) (Or.inl ⟨by rfl, ?_⟩) ?_ ?_
          rotate_left
          · intro w'
            go_simp
            with_reducible rfl
          rotate_left
          · simp only [Act.put, List.setIfInBounds_toArray, List.set_cons_zero, List.set_cons_succ, i64_w, i32_w]
            rfl
          refine pure_ (i := 5) (N := some 117) (v := ?_) (a' := ?_) #[true, true, true, true, true, true, false, true, true, true, true, true, true, true, false, false, false, false] rfl rfl (any_of HT_.out (by kernel_rfl)) (fun _ _ _ h => h) (Or.inl ⟨by rfl, ?_⟩) ?_ ?_
          rotate_left
          · intro w'
            go_simp
            with_reducible rfl
          rotate_left
          · simp only [Act.put, List.setIfInBounds_toArray, List.set_cons_zero, List.set_cons_succ, i64_w, i32_w]
            rfl
          refine pure_ (i := 6) (N := some 118) (v := ?_) (a' := ?_) #[true, true, true, true, true, true, true, true, true, true, true, true, true, true, false, false, false, false] rfl rfl (any_of HT_.out (by kernel_rfl)) (fun _ _ _ h => h) (Or.inl ⟨by rfl, ?_⟩) ?_ ?_
          rotate_left
          · intro w'
            go_simp
            with_reducible rfl
          rotate_left
          · simp only [Act.put, List.setIfInBounds_toArray, List.set_cons_zero, List.set_cons_succ, i64_w, i32_w]
            rfl
          refine pure_ (i := 14) (N := some 126) (v := ?_) (a' := ?_) #[true, true, true, true, true, true, true, true, true, true, true, true, true, true, true, false, false, false] rfl rfl (any_of HT_.out (by kernel_rfl)) (fun _ _ _ h => h) (Or.inl ⟨by rfl, ?_⟩) ?_ ?_
          rotate_left
          · intro w'
            go_simp
            with_reducible rfl
          rotate_left
          · simp only [Act.put, List.setIfInBounds_toArray, List.set_cons_zero, List.set_cons_succ, i64_w, i32_w]
            rfl
          exact norm_ (by simp only [putAll, Act.put, List.setIfInBounds_toArray, List.set_cons_zero, List.set_cons_succ] <;> rfl) (hJ () _ rfl)
        · skip
          refine value_ (N := some 115) (v := .slice Aa a.f2.length ca) (w1 := Wy.drew) (by rfl) rfl (by go_simp) ?_
          refine hK.out _ _ hHeld (fun hHeld => ?_)
          clear hK K
          refine norm_ (a' := ?_) ?_ ?_
          rotate_left
          · first | (show Act.put _ (some 115) _ = _; simp only [Act.put, List.setIfInBounds_toArray, List.set_cons_zero, List.set_cons_succ, i64_w, i32_w]; rfl) | with_reducible rfl
          refine pure_ (i := 4) (N := some 116) (v := ?_) (a' := ?_) #[true, false, true, true, true, false, false, true, true, true, true, true, true, true, false, false, false, false] rfl rfl (any_of HT_.out (by kernel_rfl)) (fun _ _ _ h => h) (Or.inl ⟨by rfl, ?_⟩) ?_ ?_
          rotate_left
          · intro w'
            go_simp
            with_reducible rfl
          rotate_left
          · simp only [Act.put, List.setIfInBounds_toArray, List.set_cons_zero, List.set_cons_succ, i64_w, i32_w]
            rfl
          refine pure_ (i := 5) (N := some 117) (v := ?_) (a' := ?_) #[true, false, true, true, true, true, false, true, true, true, true, true, true, true, false, false, false, false] rfl rfl (any_of HT_.out (by kernel_rfl)) (fun _ _ _ h => h) (Or.inl ⟨by rfl, ?_⟩) ?_ ?_
          rotate_left
          · intro w'
            go_simp
            with_reducible rfl
          rotate_left
          · simp only [Act.put, List.setIfInBounds_toArray, List.set_cons_zero, List.set_cons_succ, i64_w, i32_w]
            rfl
          refine one_ (i := 1) (N := some 113) #[true, true, true, true, true, true, false, true, true, true, true, true, true, true, false, false, false, false] rfl rfl (one_of HT_.out (by kernel_rfl)) (by decide) (fun K hK => ?_)
          refine value_ (N := some 113) (v := .slice Aa a.f2.length ca) (w1 := Wy.drew) (by rfl) rfl (by go_simp) ?_
          refine hK.out _ _ hHeld (fun hHeld => ?_)
          clear hK K
          refine norm_ (a' := ?_) ?_ ?_
          rotate_left
          · first | (show Act.put _ (some 113) _ = _; simp only [Act.put, List.setIfInBounds_toArray, List.set_cons_zero, List.set_cons_succ, i64_w, i32_w]; rfl) | with_reducible rfl
          refine pure_ (i := 6) (N := some 118) (v := ?_) (a' := ?_) #[true, true, true, true, true, true, true, true, true, true, true, true, true, true, false, false, false, false] rfl rfl (any_of HT_.out (by kernel_rfl)) (fun _ _ _ h => h) (Or.inl ⟨by rfl, ?_⟩) ?_ ?_
          rotate_left
          · intro w'
            go_simp
            with_reducible rfl
          rotate_left
          · simp only [Act.put, List.setIfInBounds_toArray, List.set_cons_zero, List.set_cons_succ, i64_w, i32_w]
            rfl
          refine pure_ (i := 14) (N := some 126) (v := ?_) (a' := ?_) #[true, true, true, true, true, true, true, true, true, true, true, true, true, true, true, false, false, false] rfl rfl (any_of HT_.out (by kernel_rfl)) (fun _ _ _ h => h) (Or.inl ⟨by rfl, ?_⟩) ?_ ?_
          rotate_left
          · intro w'
            go_simp
            with_reducible rfl
          rotate_left
          · simp only [Act.put, List.setIfInBounds_toArray, List.set_cons_zero, List.set_cons_succ, i64_w, i32_w]
            rfl
          exact norm_ (by simp only [putAll, Act.put, List.setIfInBounds_toArray, List.set_cons_zero, List.set_cons_succ] <;> rfl) (hJ () _ rfl)
      rintro _ w_ rfl
      have hHeld := keep_cell (Below.drew (Below.refl _ _)) c7
      refine norm_ (a' := ?_) ?_ ?_
      rotate_left
      · simp only [putAll, Act.put, List.setIfInBounds_toArray, List.set_cons_zero, List.set_cons_succ]
        rfl
      refine one_ (i := 15) (N := none) #[true, true, true, true, true, true, true, true, true, true, true, true, true, true, true, true, false, false] rfl rfl (one_of HT_.out (by kernel_rfl)) (by decide) (fun K hK => ?_)
      refine skip_ (w1 := ?_) (by rfl) rfl ?_ ?_
      rotate_left
      · go_simp
        with_reducible rfl
      refine hK.out _ _ (keep_set _ hHeld (by simp)) (fun hHeld => ?_)
      clear hK K
      refine pure_ (i := 16) (N := some 127) (v := ?_) (a' := ?_) #[true, true, true, true, true, true, true, true, true, true, true, true, true, true, true, true, true, false] rfl rfl (any_of HT_.out (by kernel_rfl)) (fun _ _ _ h => h) (Or.inl ⟨by rfl, ?_⟩) ?_ ?_
      rotate_left
      · intro w'
        go_simp
        with_reducible rfl
      rotate_left
      · simp only [Act.put, List.setIfInBounds_toArray, List.set_cons_zero, List.set_cons_succ, i64_w, i32_w]
        rfl
      refine last_ (i := 17) (N := none) #[true, true, true, true, true, true, true, true, true, true, true, true, true, true, true, true, true, true] rfl rfl (one_of HT_.out (by kernel_rfl)) (by decide) (fun K hK => ?_)
      refine skip_ (w1 := ?_) (by rfl) rfl ?_ ?_
      rotate_left
      · go_simp
        with_reducible rfl
      refine hK.out _ _ ?_
      clear hK K
      refine done_ (done_of HT_.out (by kernel_rfl)) ?_
      have z16 : Blk ((Wy.setCell ⟨g6, 2, none⟩ (.slice Aa ma ca)).setCell ⟨g6 + 1, 2, none⟩ (.slice Ab mb cb)).drew g6 41 #[.int .i64 a.f0, .int .u64 a.f1, .slice Aa ma ca] := Blk.drew (by simpa using ((v16.set_ 2 (.slice Aa ma ca)).far (p := ⟨g6 + 1, 2, none⟩) (by simp) (.slice Ab mb cb)))
      have z17 : Blk ((Wy.setCell ⟨g6, 2, none⟩ (.slice Aa ma ca)).setCell ⟨g6 + 1, 2, none⟩ (.slice Ab mb cb)).drew (g6 + 1) 41 #[.int .i64 b.f0, .int .u64 b.f1, .slice Ab mb cb] := Blk.drew (by simpa using ((v17.far (p := ⟨g6, 2, none⟩) (by simp) (.slice Aa ma ca)).set_ 2 (.slice Ab mb cb)))
      have hBz : Below g6 wr ((Wy.setCell ⟨g6, 2, none⟩ (.slice Aa ma ca)).setCell ⟨g6 + 1, 2, none⟩ (.slice Ab mb cb)).drew := Below.drew ((hle.out.setCell (p := ⟨g6, 2, none⟩) (Nat.le_refl _) _).setCell (p := ⟨g6 + 1, 2, none⟩) (Nat.le_succ _) _)
      generalize ((Wy.setCell ⟨g6, 2, none⟩ (.slice Aa ma ca)).setCell ⟨g6 + 1, 2, none⟩ (.slice Ab mb cb)).drew = Wz at z16 z17 hBz ⊢
      clear hHeld hle v16 v17 c6 f6 c7 f7 qa qb ra rb rz rz'
      have hBz' : Below wr.heap.size wr Wz := by rw [HG6.out]; exact hBz
      have hBw := keep_below hB hBz'
      obtain ⟨La, hLa⟩ : ∃ L, a.f2.take ma = L := ⟨_, rfl⟩
      obtain ⟨Lb, hLb⟩ : ∃ L, b.f2.take mb = L := ⟨_, rfl⟩
      have Ka := ((HHa.out.below hBz').take (m := ma) (by omega))
      have Kb := ((HHb.out.below hBz').take (m := mb) (by omega))
      rw [hLa] at Ka
      rw [hLb] at Kb
      have nLa : La.length ≤ 20 := by rw [← hLa, List.length_take]; omega
      have nLb : Lb.length ≤ 20 := by rw [← hLb, List.length_take]; omega
      obtain rfl : ma = La.length := by rw [← hLa, List.length_take]; omega
      obtain rfl : mb = Lb.length := by rw [← hLb, List.length_take]; omega
      clear hLa hLb hma hmb HHa HHb hBz hBz' HG6 hca hcb
      obtain ⟨r, e1, e2⟩ := bothA_ev a.f0 a.f1 La b.f0 b.f1 Lb (by omega)
      obtain ⟨n1, h1⟩ := Ev.rounds e1
      obtain ⟨n2, h2⟩ := Ev.rounds e2
      obtain ⟨n3, h3⟩ := Ev.rounds (selfA_ev a.f0 a.f1 La (by omega))
      have C1 := fun (W : World) (h : Below Wz.heap.size Wz W) => ralike_call h1 (Ka.below h) (Kb.below h)
      have C2 := fun (W : World) (h : Below Wz.heap.size Wz W) => malike_call h2 (Ka.below h) (Kb.below h)
      have C3 := fun (W : World) (h : Below Wz.heap.size Wz W) => malike_call h3 (Ka.below h) (Ka.below h)
      have HC1 := Lib.hid C1
      have HC2 := Lib.hid C2
      have HC3 := Lib.hid C3
      clear h1 h2 h3 e1 e2 C1 C2 C3 Ka Kb
      have k0 := z16.cell 0
      have k1 := z16.cell 1
      have k2 := z16.cell 2
      have j0 := z17.cell 0
      have j1 := z17.cell 1
      have j2 := z17.cell 2
      simp at k0 k1 k2 j0 j1 j2
      go_upto_region 26 with fail
      refine start_ (n := 13) (S := (fun w' => Below Wz.heap.size Wz w')) (ds := []) #[false, false, false, false, false, false, false, false, false, false, false, false, false] (by kernel_rfl) rfl rfl (Below.drew (Below.refl _ _)) (fun hHeld => ?_)
      refine with_tabW tlb.tab26 tlb.bits26 (fun HT_ HW_ => ?_)
      have qr : (r != r) = false := by simp
      refine take_ (i := 0) (N := some 128) (v := ?_) (a' := ?_) #[true, false, false, false, false, false, false, false, false, false, false, false, false] rfl rfl (take_ofW HT_.out HW_.out (by kernel_rfl)) (fun _ _ _ h => h) (Or.inl ⟨by rfl, ?_⟩) hHeld ?_ ?_
      rotate_left
      · rintro w' s0
        have m0 := keep_cell s0 k0
        have m1 := keep_cell s0 k1
        have m2 := keep_cell s0 k2
        have l0 := keep_cell s0 j0
        have l1 := keep_cell s0 j1
        have l2 := keep_cell s0 j2
        go_simp
        with_reducible rfl
      rotate_left
      · simp only [Act.put, List.setIfInBounds_toArray, List.set_cons_zero, List.set_cons_succ, i64_w, i32_w]
        rfl
      refine take_ (i := 1) (N := some 129) (v := ?_) (a' := ?_) #[true, true, false, false, false, false, false, false, false, false, false, false, false] rfl rfl (take_ofW HT_.out HW_.out (by kernel_rfl)) (fun _ _ _ h => h) (Or.inl ⟨by rfl, ?_⟩) hHeld ?_ ?_
      rotate_left
      · rintro w' s0
        have m0 := keep_cell s0 k0
        have m1 := keep_cell s0 k1
        have m2 := keep_cell s0 k2
        have l0 := keep_cell s0 j0
        have l1 := keep_cell s0 j1
        have l2 := keep_cell s0 j2
        go_simp
        with_reducible rfl
      rotate_left
      · simp only [Act.put, List.setIfInBounds_toArray, List.set_cons_zero, List.set_cons_succ, i64_w, i32_w]
        rfl
      refine take_ (i := 3) (N := some 131) (v := ?_) (a' := ?_) #[true, true, false, true, false, false, false, false, false, false, false, false, false] rfl rfl (take_ofW HT_.out HW_.out (by kernel_rfl)) (fun _ _ _ h => h) (Or.inl ⟨by rfl, ?_⟩) hHeld ?_ ?_
      rotate_left
      · rintro w' s0
        have m0 := keep_cell s0 k0
        have m1 := keep_cell s0 k1
        have m2 := keep_cell s0 k2
        have l0 := keep_cell s0 j0
        have l1 := keep_cell s0 j1
        have l2 := keep_cell s0 j2
        go_simp
        with_reducible rfl
      rotate_left
      · simp only [Act.put, List.setIfInBounds_toArray, List.set_cons_zero, List.set_cons_succ, i64_w, i32_w]
        rfl
      refine take_ (i := 4) (N := some 132) (v := ?_) (a' := ?_) #[true, true, false, true, true, false, false, false, false, false, false, false, false] rfl rfl (take_ofW HT_.out HW_.out (by kernel_rfl)) (fun _ _ _ h => h) (Or.inl ⟨by rfl, ?_⟩) hHeld ?_ ?_
      rotate_left
      · rintro w' s0
        have m0 := keep_cell s0 k0
        have m1 := keep_cell s0 k1
        have m2 := keep_cell s0 k2
        have l0 := keep_cell s0 j0
        have l1 := keep_cell s0 j1
        have l2 := keep_cell s0 j2
        go_simp
        with_reducible rfl
      rotate_left
      · simp only [Act.put, List.setIfInBounds_toArray, List.set_cons_zero, List.set_cons_succ, i64_w, i32_w]
        rfl
      have hX := hHeld
      refine one_ (i := 2) (N := some 130) #[true, true, true, true, true, false, false, false, false, false, false, false, false] rfl rfl (one_of HT_.out (by kernel_rfl)) (by decide) (fun K hK => ?_)
      refine goes_ Try.func28 (by kernel_rfl) rfl #[.agg #[.int .i64 a.f0, .int .u64 a.f1, .slice Aa La.length ca], .agg #[.int .i64 b.f0, .int .u64 b.f1, .slice Ab Lb.length cb]] (by rfl) rfl rfl (by (try simp only [List.map_toArray, List.map_cons, List.map_nil]); first | done | rfl) ?_
      refine (HC2.out _ hX).out.mono ?_
      rintro e_ w9 ⟨rfl, hb9⟩
      refine ⟨_, rfl, ?_⟩
      replace hX := keep_below hX hb9
      clear hb9
      refine hK.out _ _ hX (fun hHeld => ?_)
      clear hK K
      refine norm_ (a' := ?_) ?_ ?_
      rotate_left
      · first | (show Act.put _ (some 130) _ = _; simp only [Act.put, List.setIfInBounds_toArray, List.set_cons_zero, List.set_cons_succ, i64_w, i32_w]; rfl) | with_reducible rfl
      refine one_ (i := 5) (N := some 133) #[true, true, true, true, true, true, false, false, false, false, false, false, false] rfl rfl (one_of HT_.out (by kernel_rfl)) (by decide) (fun K hK => ?_)
      refine goes_ Try.func19 (by kernel_rfl) rfl #[.agg #[.int .i64 a.f0, .int .u64 a.f1, .slice Aa La.length ca], .agg #[.int .i64 b.f0, .int .u64 b.f1, .slice Ab Lb.length cb]] (by rfl) rfl rfl (by (try simp only [List.map_toArray, List.map_cons, List.map_nil]); first | done | rfl) ?_
      refine (HC1.out _ hX).out.mono ?_
      rintro e_ w10 ⟨rfl, hb10⟩
      refine ⟨_, rfl, ?_⟩
      replace hX := keep_below hX hb10
      clear hb10
      refine hK.out _ _ hX (fun hHeld => ?_)
      clear hK K
      refine norm_ (a' := ?_) ?_ ?_
      rotate_left
      · first | (show Act.put _ (some 133) _ = _; simp only [Act.put, List.setIfInBounds_toArray, List.set_cons_zero, List.set_cons_succ, i64_w, i32_w]; rfl) | with_reducible rfl
      refine pure_ (i := 6) (N := some 134) (v := ?_) (a' := ?_) #[true, true, true, true, true, true, true, false, false, false, false, false, false] rfl rfl (any_of HT_.out (by kernel_rfl)) (fun _ _ _ h => h) (Or.inl ⟨by rfl, ?_⟩) ?_ ?_
      rotate_left
      · intro w'
        go_simp
        with_reducible rfl
      rotate_left
      · simp only [Act.put, List.setIfInBounds_toArray, List.set_cons_zero, List.set_cons_succ, i64_w, i32_w]
        rfl
      refine pure_ (i := 7) (N := some 135) (v := ?_) (a' := ?_) #[true, true, true, true, true, true, true, true, false, false, false, false, false] rfl rfl (any_of HT_.out (by kernel_rfl)) (fun _ _ _ h => h) (Or.inl ⟨by rfl, ?_⟩) ?_ ?_
      rotate_left
      · intro w'
        go_simp
        with_reducible rfl
      rotate_left
      · simp only [Act.put, List.setIfInBounds_toArray, List.set_cons_zero, List.set_cons_succ, i64_w, i32_w]
        rfl
      refine take_ (i := 8) (N := some 136) (v := ?_) (a' := ?_) #[true, true, true, true, true, true, true, true, true, false, false, false, false] rfl rfl (take_ofW HT_.out HW_.out (by kernel_rfl)) (fun _ _ _ h => h) (Or.inl ⟨by rfl, ?_⟩) hHeld ?_ ?_
      rotate_left
      · rintro w' s0
        have m0 := keep_cell s0 k0
        have m1 := keep_cell s0 k1
        have m2 := keep_cell s0 k2
        have l0 := keep_cell s0 j0
        have l1 := keep_cell s0 j1
        have l2 := keep_cell s0 j2
        go_simp
        with_reducible rfl
      rotate_left
      · simp only [Act.put, List.setIfInBounds_toArray, List.set_cons_zero, List.set_cons_succ, i64_w, i32_w]
        rfl
      refine take_ (i := 9) (N := some 137) (v := ?_) (a' := ?_) #[true, true, true, true, true, true, true, true, true, true, false, false, false] rfl rfl (take_ofW HT_.out HW_.out (by kernel_rfl)) (fun _ _ _ h => h) (Or.inl ⟨by rfl, ?_⟩) hHeld ?_ ?_
      rotate_left
      · rintro w' s0
        have m0 := keep_cell s0 k0
        have m1 := keep_cell s0 k1
        have m2 := keep_cell s0 k2
        have l0 := keep_cell s0 j0
        have l1 := keep_cell s0 j1
        have l2 := keep_cell s0 j2
        go_simp
        with_reducible rfl
      rotate_left
      · simp only [Act.put, List.setIfInBounds_toArray, List.set_cons_zero, List.set_cons_succ, i64_w, i32_w]
        rfl
      refine one_ (i := 10) (N := some 138) #[true, true, true, true, true, true, true, true, true, true, true, false, false] rfl rfl (one_of HT_.out (by kernel_rfl)) (by decide) (fun K hK => ?_)
      refine goes_ Try.func28 (by kernel_rfl) rfl #[.agg #[.int .i64 a.f0, .int .u64 a.f1, .slice Aa La.length ca], .agg #[.int .i64 a.f0, .int .u64 a.f1, .slice Aa La.length ca]] (by rfl) rfl rfl (by (try simp only [List.map_toArray, List.map_cons, List.map_nil]); first | done | rfl) ?_
      refine (HC3.out _ hX).out.mono ?_
      rintro e_ w11 ⟨rfl, hb11⟩
      refine ⟨_, rfl, ?_⟩
      replace hX := keep_below hX hb11
      clear hb11
      refine hK.out _ _ hX (fun hHeld => ?_)
      clear hK K
      refine norm_ (a' := ?_) ?_ ?_
      rotate_left
      · first | (show Act.put _ (some 138) _ = _; simp only [Act.put, List.setIfInBounds_toArray, List.set_cons_zero, List.set_cons_succ, i64_w, i32_w]; rfl) | with_reducible rfl
      refine pure_ (i := 11) (N := some 139) (v := ?_) (a' := ?_) #[true, true, true, true, true, true, true, true, true, true, true, true, false] rfl rfl (any_of HT_.out (by kernel_rfl)) (fun _ _ _ h => h) (Or.inl ⟨by rfl, ?_⟩) ?_ ?_
      rotate_left
      · intro w'
        go_simp
        with_reducible rfl
      rotate_left
      · simp only [Act.put, List.setIfInBounds_toArray, List.set_cons_zero, List.set_cons_succ, i64_w, i32_w]
        rfl
      refine pure_ (i := 12) (N := some 140) (v := ?_) (a' := ?_) #[true, true, true, true, true, true, true, true, true, true, true, true, true] rfl rfl (any_of HT_.out (by kernel_rfl)) (fun _ _ _ h => h) (Or.inl ⟨by rfl, ?_⟩) ?_ ?_
      rotate_left
      · intro w'
        go_simp
        with_reducible rfl
      rotate_left
      · simp only [Act.put, List.setIfInBounds_toArray, List.set_cons_zero, List.set_cons_succ, i64_w, i32_w]
        rfl
      refine done_ (done_of HT_.out (by kernel_rfl)) ?_
      have hBe := keep_below hBw hX
      clear hX hHeld k0 k1 k2 j0 j1 j2 z16 z17 HC1 HC2 HC3 hBw
      have hw := wrap_sm (z := (i : Int) + 1) (by omega) (by omega)
      go_wp2
      go_roundw
      case rel => exact ⟨i + 1, by simp [hw], by omega, by omega, hBe⟩
      case measure => simp [intOf, hw]; omega
    · have hd : decide ((i : Int) < (l2.length : Int)) = false := decide_eq_false (by omega)
      have p1 : ((i : Int) < (l2.length : Int)) = False := eq_false (by omega)
      go_wp2
      go_ret
      exact ⟨rfl, hB⟩
end Go.Proofs.Ytknlbfandkmeiaa.M
