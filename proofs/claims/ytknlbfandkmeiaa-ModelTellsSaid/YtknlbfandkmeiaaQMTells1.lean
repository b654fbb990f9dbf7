/- What the row of this claim reaches. No condition. -/
import Derived.Test.YtknlbfandkmeiaaQMTells2
set_option linter.unusedVariables false
set_option linter.unusedSimpArgs false
namespace Go.Proofs.Ytknlbfandkmeiaa.M
open Go.RowKit Go.Proofs.YtknlbfandkmeiaaW.PrintWords Go.Proofs.YtknlbfandkmeiaaW.PrintLast Go.Proofs.YtknlbfandkmeiaaW.PrintMore
theorem mmeets_not {L : List S51} (h : ¬ okT L) (hl : L.length ≤ 1000) (k : S36) : Ev (fun n => model_Meets.f n L k.f0 k.f1 k.f2 k.f3) ([], 320) := by
  have hc := check_ev (L := L) hl
  rw [if_neg h] at hc
  refine Ev.bind (f := fun _ e => if e = 0 then (key_Check.f 1 k.f0 k.f1 k.f2 k.f3).bind fun e2 => if e2 = 0 then (if L.length ≤ 1000 then some (L.filter (meetB k), 0) else none) else some ([], 314) else some ([], 320)) hc ?_
  simp only [show ¬ (320 : Int) = 0 by omega, if_false]
  exact Ev.now _
theorem tells_vals (T : List S51) (hT : T.length ≤ 1000) (k : S36) : ∃ (b bw : Bool) (RM : List S51) (fe er : Int), decide (okT T) = b ∧ boxF k.f0 k.f1 k.f2 k.f3 = bw ∧ (∃ n, model_Meets.f n T k.f0 k.f1 k.f2 k.f3 = some (RM, fe)) ∧ (∃ n, model_Check.f n T = some er) ∧
    ((b = false ∧ RM = [] ∧ fe = 320 ∧ er = 320) ∨ (b = true ∧ er = 0 ∧ bw = false ∧ RM = [] ∧ fe = 314) ∨ (b = true ∧ er = 0 ∧ bw = true ∧ RM = T.filter (meetB k) ∧ fe = 0)) := by
  by_cases h : okT T
  · have h1 := mmeets_ev h k
    have h2 := check_ev hT
    rw [if_pos h] at h2
    by_cases hb : boxF k.f0 k.f1 k.f2 k.f3 = true
    · rw [if_pos hb] at h1
      exact ⟨true, true, _, _, _, decide_eq_true h, hb, Ev.rounds h1, Ev.rounds h2, .inr (.inr ⟨rfl, rfl, rfl, rfl, rfl⟩)⟩
    · rw [if_neg hb] at h1
      exact ⟨true, false, _, _, _, decide_eq_true h, by simpa using hb, Ev.rounds h1, Ev.rounds h2, .inr (.inl ⟨rfl, rfl, rfl, rfl, rfl⟩)⟩
  · have h1 := mmeets_not h hT k
    have h2 := check_ev hT
    rw [if_neg h] at h2
    exact ⟨false, _, _, _, _, decide_eq_false h, rfl, Ev.rounds h1, Ev.rounds h2, .inl ⟨rfl, rfl, rfl, rfl⟩⟩
theorem rd24_mem {l : List S24} {i : Nat} (h : i < l.length) : rd_T24 l (i : Int) ∈ l := by
  have : rd_T24 l (i : Int) = l[i] := by
    unfold rd_T24
    rw [Int.toNat_natCast, List.getD_eq_getElem?_getD, List.getElem?_eq_getElem h]
    rfl
  rw [this]
  exact List.getElem_mem h
theorem rowsc_call {L : List S51} (hL : L.length ≤ 1000) {W : World} {A1 A2 : Option Addr} {c1 c2 : Nat} (h1 : CL W A1 c1 L) (h2 : CL W A2 c2 L) :
    Hid (Calls Try.prog 20 #[.slice A1 L.length c1, .slice A2 L.length c2] W fun e w' => e = .returned (.bool true) ∧ Below W.heap.size W w') := by
  obtain ⟨k, hk⟩ := Ev.rounds (same_ev hL)
  exact rsame_call hk h1 h2
def tlc.T7 : Bool × List (List Nat × List Nat) := (true, [([], []), ([0], [0]), ([], []), ([2], [2]), ([3], [3]), ([4, 1], [4]), ([], []), ([], []), ([6, 1, 5, 0, 1, 6, 7], [1, 6]), ([7, 5, 8, 0, 1, 2, 3, 4, 5, 6, 7, 8], [5, 7])])
def tlc.B7 : List Nat := [0, 1, 0, 4, 12, 31, 0, 0, 255, 511]
theorem tlc.tab7 : rtab .any (opsOf Try.f6 7) = tlc.T7 := by kernel_rfl
theorem tlc.bits7 : waitsOk tlc.T7.2 tlc.B7 = true := by kernel_rfl
def tld.T11 : Bool × List (List Nat × List Nat) := (true, [([], []), ([0], [0]), ([], []), ([1, 2], [1, 2]), ([3], [3]), ([4], [4]), ([5, 4], [4, 5]), ([6, 4, 4], [4, 6]), ([7], [7]), ([8, 7], [7, 8]), ([9, 7, 7], [7, 9]), ([10], [10]), ([11, 10], [10, 11]), ([10, 12, 7], [7, 10, 12]), ([13, 10, 7], [7, 13]), ([14], [14]), ([15, 14], [14, 15]), ([16, 14], [14, 16]), ([14, 17, 7], [7, 14, 17]), ([7, 18, 4], [4, 7, 18]), ([4, 19], [4, 19]), ([20, 14], [20]), ([21], [21]), ([21], [21]), ([22, 23, 21, 21], [21, 22, 23]), ([21], [21]), ([25, 21], [21, 25]), ([21], [21]), ([27, 21], [21, 27]), ([26, 28, 24, 21], [21, 26, 28]), ([24, 29, 21], [21, 24, 29]), ([21, 30], [21, 30])])
def tld.B11 : List Nat := [0, 1, 0, 7, 15, 31, 63, 127, 255, 511, 1023, 2047, 4095, 8191, 16383, 32767, 65535, 131071, 262143, 524287, 1048575, 2097151, 4194303, 4194303, 16777215, 4194303, 37748735, 4194303, 138412031, 536870911, 1073741823, 2147483647]
theorem tld.tab11 : rtab .any (opsOf Try.f6 11) = tld.T11 := by kernel_rfl
theorem tld.bits11 : waitsOk tld.T11.2 tld.B11 = true := by kernel_rfl
set_option maxHeartbeats 8000000 in
set_option maxRecDepth 100000 in
theorem tells_one (A0 : Option Addr) (c0 : Nat) (l0 : List S24) (k : S36) (A2 : Option Addr) (c2 : Nat) (l2 : List S41) (w W : World) (g4 : Nat) (hr0 : Kd.C k24 w A0 l0.length l0) (hr2 : Kd.C k41 w A2 l2.length l2) (hp : ∀ t ∈ l0, ∀ x ∈ t.f0, 0 ≤ x.f0)
    (hW : Blk W g4 36 #[.int .i64 k.f0, .int .i64 k.f1, .int .i64 k.f2, .int .i64 k.f3]) (hB : Below w.heap.size w W) (u1 u3 u5 u6 u7 u8 u9 u10 u11 u12 u13 u14 u15 u16 u17 u18 u19 u20 u21 u22 u23 u24 u25 u26 u27 u28 u29 u30 u31 u32 u33 u34 u35 u36 u37 u38 u39 u40 u41 u42 u43 u44 u45 u46 u47 u48 u49 u50 u51 u52 u53 u54 u55 u56 u57 u58 u59 u60 u61 u62 u63 u64 u65 u66 u67 u68 u69 u70 u71 u72 u73 u74 u75 u76 u77 u78 u79 u80 u81 u82 u83 u84 u85 u86 u87 u88 u89 u90 u91 u92 u93 u94 u95 u96 u97 u98 u99 u100 u101 u102 u103 u104 u105 u106 u107 u108 u109 u110 u111 u112 u113 u114 u115 u116 u117 u118 u119 u120 u121 u122 u123 u124 u125 u126 u127 u128 u129 u130 u131 u132 u133 u134 u135 u136 u137 u138 u139 u140 u141 : Value) :
    (((Go.Code.region 3 #[{ dst := some 20, op := Go.Op.move (Go.Operand.tmp 0), type := 53, pos := "law.go:105", after := #[], guard := none }, { dst := some 21, op := Go.Op.call { callee := Go.Callee.builtin Go.Builtin.len, args := #[Go.Operand.tmp 20], argTypes := #[53] }, type := 3, pos := "law.go:105", after := #[{ on := 0, ground := Go.Ground.data }], guard := none }, { dst := some 22, op := Go.Op.move (Go.Operand.const (Go.Value.int Go.IntKind.i64 0)), type := 3, pos := "law.go:105", after := #[], guard := none }] false).seq (Go.Code.block 0 ((Go.Code.region 4 #[{ dst := some 23, op := Go.Op.binOp Go.BinOp.lss 3 (Go.Operand.tmp 22) (Go.Operand.tmp 21) 3, type := 0, pos := "law.go:105", after := #[], guard := none }] false).seq ((Go.Code.cond (Go.Operand.tmp 23) Go.Code.skip (Go.Code.exit 0)).seq ((Go.Code.block 1 ((Go.Code.region 5 #[{ dst := some 24, op := Go.Op.move (Go.Operand.tmp 22), type := 3, pos := "law.go:105", after := #[], guard := none }, { dst := some 25, op := Go.Op.indexAddr 53 (Go.Operand.tmp 20) (Go.Operand.tmp 22), type := 0, pos := "law.go:105", after := #[], guard := none }, { dst := some 26, op := Go.Op.load 24 (Go.Operand.tmp 25), type := 24, pos := "law.go:105", after := #[{ on := 1, ground := Go.Ground.data }], guard := none }, { dst := some 8, op := Go.Op.alloc 24, type := 0, pos := "law.go:105", after := #[], guard := none }, { dst := some 7, op := Go.Op.assign (Go.Operand.tmp 24), type := 3, pos := "law.go:105", after := #[{ on := 0, ground := Go.Ground.data }, { on := 0, ground := Go.Ground.phase }, { on := 1, ground := Go.Ground.phase }, { on := 2, ground := Go.Ground.phase }, { on := 3, ground := Go.Ground.phase }], guard := none }, { dst := none, op := Go.Op.store 24 (Go.Operand.tmp 8) (Go.Operand.tmp 26), type := 0, pos := "law.go:105", after := #[{ on := 3, ground := Go.Ground.data }, { on := 2, ground := Go.Ground.data }, { on := 4, ground := Go.Ground.chain }, { on := 0, ground := Go.Ground.phase }, { on := 1, ground := Go.Ground.phase }, { on := 2, ground := Go.Ground.phase }, { on := 3, ground := Go.Ground.phase }, { on := 4, ground := Go.Ground.phase }], guard := none }] false).seq (((Go.Code.region 6 #[{ dst := some 27, op := Go.Op.move (Go.Operand.tmp 7), type := 3, pos := "law.go:106", after := #[], guard := none }, { dst := some 28, op := Go.Op.binOp Go.BinOp.eql 3 (Go.Operand.tmp 27) (Go.Operand.const (Go.Value.int Go.IntKind.i64 12)) 3, type := 4, pos := "law.go:106", after := #[{ on := 0, ground := Go.Ground.data }], guard := none }] false).seq (Go.Code.cond (Go.Operand.tmp 28) (Go.Code.exit 0) Go.Code.skip)).seq ((Go.Code.region 7 #[{ dst := some 29, op := Go.Op.load 24 (Go.Operand.tmp 8), type := 24, pos := "law.go:109", after := #[], guard := none }, { dst := some 30, op := Go.Op.call { callee := Go.Callee.value (Go.Operand.func 14), args := #[Go.Operand.tmp 29], argTypes := #[24] }, type := 24, pos := "law.go:109", after := #[{ on := 0, ground := Go.Ground.data }], guard := none }, { dst := some 31, op := Go.Op.move (Go.Operand.tmp 0), type := 53, pos := "law.go:109", after := #[], guard := none }, { dst := some 32, op := Go.Op.indexAddr 53 (Go.Operand.tmp 31) (Go.Operand.const (Go.Value.int Go.IntKind.i64 0)), type := 0, pos := "law.go:109", after := #[{ on := 2, ground := Go.Ground.data }], guard := none }, { dst := some 33, op := Go.Op.load 24 (Go.Operand.tmp 32), type := 24, pos := "law.go:109", after := #[{ on := 3, ground := Go.Ground.data }], guard := none }, { dst := some 34, op := Go.Op.call { callee := Go.Callee.value (Go.Operand.func 14), args := #[Go.Operand.tmp 33], argTypes := #[24] }, type := 24, pos := "law.go:109", after := #[{ on := 4, ground := Go.Ground.data }, { on := 1, ground := Go.Ground.chain }], guard := none }, { dst := some 9, op := Go.Op.alloc 24, type := 0, pos := "law.go:109", after := #[], guard := none }, { dst := some 10, op := Go.Op.alloc 24, type := 0, pos := "law.go:109", after := #[], guard := none }, { dst := none, op := Go.Op.store 24 (Go.Operand.tmp 9) (Go.Operand.tmp 30), type := 0, pos := "law.go:109", after := #[{ on := 6, ground := Go.Ground.data }, { on := 1, ground := Go.Ground.data }, { on := 5, ground := Go.Ground.chain }, { on := 0, ground := Go.Ground.phase }, { on := 1, ground := Go.Ground.phase }, { on := 2, ground := Go.Ground.textOnly Go.Departure.lateStores }, { on := 3, ground := Go.Ground.textOnly Go.Departure.lateStores }, { on := 4, ground := Go.Ground.textOnly Go.Departure.lateStores }, { on := 5, ground := Go.Ground.textOnly Go.Departure.lateStoresUnsure }, { on := 6, ground := Go.Ground.phase }, { on := 7, ground := Go.Ground.phase }], guard := none }, { dst := none, op := Go.Op.store 24 (Go.Operand.tmp 10) (Go.Operand.tmp 34), type := 0, pos := "law.go:109", after := #[{ on := 7, ground := Go.Ground.data }, { on := 5, ground := Go.Ground.data }, { on := 8, ground := Go.Ground.chain }, { on := 0, ground := Go.Ground.phase }, { on := 1, ground := Go.Ground.phase }, { on := 2, ground := Go.Ground.phase }, { on := 3, ground := Go.Ground.phase }, { on := 4, ground := Go.Ground.phase }, { on := 5, ground := Go.Ground.phase }, { on := 6, ground := Go.Ground.phase }, { on := 7, ground := Go.Ground.phase }, { on := 8, ground := Go.Ground.phase }], guard := none }] true).seq ((Go.Code.region 8 #[{ dst := some 35, op := Go.Op.load 24 (Go.Operand.tmp 9), type := 24, pos := "law.go:110", after := #[], guard := none }, { dst := some 36, op := Go.Op.call { callee := Go.Callee.value (Go.Operand.func 16), args := #[Go.Operand.tmp 35], argTypes := #[24] }, type := 4, pos := "law.go:110", after := #[{ on := 0, ground := Go.Ground.data }], guard := none }, { dst := some 11, op := Go.Op.assign (Go.Operand.tmp 36), type := 4, pos := "law.go:110", after := #[{ on := 1, ground := Go.Ground.data }, { on := 1, ground := Go.Ground.chain }, { on := 0, ground := Go.Ground.phase }, { on := 1, ground := Go.Ground.phase }], guard := none }] false).seq ((Go.Code.region 9 #[{ dst := some 37, op := Go.Op.load 24 (Go.Operand.tmp 9), type := 24, pos := "law.go:111", after := #[], guard := none }, { dst := some 38, op := Go.Op.call { callee := Go.Callee.value (Go.Operand.func 24), args := #[Go.Operand.tmp 37], argTypes := #[24] }, type := 29, pos := "law.go:111", after := #[{ on := 0, ground := Go.Ground.data }], guard := none }, { dst := some 12, op := Go.Op.assign (Go.Operand.tmp 38), type := 29, pos := "law.go:111", after := #[{ on := 1, ground := Go.Ground.data }, { on := 1, ground := Go.Ground.chain }, { on := 0, ground := Go.Ground.phase }, { on := 1, ground := Go.Ground.phase }], guard := none }] false).seq ((Go.Code.region 10 #[{ dst := some 40, op := Go.Op.load 24 (Go.Operand.tmp 9), type := 24, pos := "law.go:112", after := #[], guard := none }, { dst := some 41, op := Go.Op.load 36 (Go.Operand.tmp 4), type := 36, pos := "law.go:112", after := #[], guard := none }, { dst := some 42, op := Go.Op.call { callee := Go.Callee.value (Go.Operand.func 25), args := #[Go.Operand.tmp 40, Go.Operand.tmp 41], argTypes := #[24, 36] }, type := 55, pos := "law.go:112", after := #[{ on := 0, ground := Go.Ground.data }, { on := 1, ground := Go.Ground.data }], guard := none }, { dst := some 39, op := Go.Op.move (Go.Operand.tmp 42), type := 55, pos := "law.go:112", after := #[{ on := 2, ground := Go.Ground.data }], guard := none }, { dst := some 43, op := Go.Op.extract (Go.Operand.tmp 39) 0, type := 22, pos := "law.go:112", after := #[{ on := 3, ground := Go.Ground.data }], guard := none }, { dst := some 44, op := Go.Op.extract (Go.Operand.tmp 39) 1, type := 29, pos := "law.go:112", after := #[{ on := 3, ground := Go.Ground.data }, { on := 6, ground := Go.Ground.gcOnly Go.Departure.lateStores }], guard := none }, { dst := some 13, op := Go.Op.assign (Go.Operand.tmp 43), type := 22, pos := "law.go:112", after := #[{ on := 4, ground := Go.Ground.data }, { on := 2, ground := Go.Ground.chain }, { on := 0, ground := Go.Ground.phase }, { on := 1, ground := Go.Ground.phase }, { on := 2, ground := Go.Ground.phase }, { on := 3, ground := Go.Ground.phase }, { on := 4, ground := Go.Ground.phase }, { on := 5, ground := Go.Ground.textOnly Go.Departure.lateStores }], guard := none }, { dst := some 14, op := Go.Op.assign (Go.Operand.tmp 44), type := 29, pos := "law.go:112", after := #[{ on := 5, ground := Go.Ground.data }, { on := 6, ground := Go.Ground.chain }, { on := 0, ground := Go.Ground.phase }, { on := 1, ground := Go.Ground.phase }, { on := 2, ground := Go.Ground.phase }, { on := 3, ground := Go.Ground.phase }, { on := 4, ground := Go.Ground.phase }, { on := 5, ground := Go.Ground.phase }, { on := 6, ground := Go.Ground.phase }], guard := none }] false).seq (((Go.Code.region 11 #[{ dst := some 45, op := Go.Op.move (Go.Operand.tmp 12), type := 29, pos := "law.go:113", after := #[], guard := none }, { dst := some 46, op := Go.Op.binOp Go.BinOp.eql 29 (Go.Operand.tmp 45) (Go.Operand.const (Go.Value.int Go.IntKind.i64 0)) 29, type := 4, pos := "law.go:113", after := #[{ on := 0, ground := Go.Ground.data }], guard := none }, { dst := some 47, op := Go.Op.move (Go.Operand.tmp 11), type := 4, pos := "law.go:113", after := #[], guard := none }, { dst := some 48, op := Go.Op.binOp Go.BinOp.neq 4 (Go.Operand.tmp 46) (Go.Operand.tmp 47) 4, type := 4, pos := "law.go:113", after := #[{ on := 1, ground := Go.Ground.data }, { on := 2, ground := Go.Ground.data }], guard := none }, { dst := some 49, op := Go.Op.move (Go.Operand.tmp 48), type := 4, pos := "law.go:113", after := #[{ on := 3, ground := Go.Ground.data }], guard := none }, { dst := some 50, op := Go.Op.move (Go.Operand.tmp 11), type := 4, pos := "law.go:113", after := #[{ on := 4, ground := Go.Ground.guard }], guard := some (4, false) }, { dst := some 51, op := Go.Op.unOp Go.UnOp.not 4 (Go.Operand.tmp 50), type := 4, pos := "law.go:113", after := #[{ on := 5, ground := Go.Ground.data }, { on := 4, ground := Go.Ground.guard }], guard := some (4, false) }, { dst := some 52, op := Go.Op.move (Go.Operand.tmp 51), type := 4, pos := "law.go:113", after := #[{ on := 6, ground := Go.Ground.data }, { on := 4, ground := Go.Ground.chain }, { on := 4, ground := Go.Ground.guard }], guard := some (4, false) }, { dst := some 53, op := Go.Op.move (Go.Operand.tmp 12), type := 29, pos := "law.go:113", after := #[{ on := 7, ground := Go.Ground.guard }], guard := some (7, true) }, { dst := some 54, op := Go.Op.binOp Go.BinOp.neq 29 (Go.Operand.tmp 53) (Go.Operand.const (Go.Value.int Go.IntKind.i64 320)) 29, type := 4, pos := "law.go:113", after := #[{ on := 8, ground := Go.Ground.data }, { on := 7, ground := Go.Ground.guard }], guard := some (7, true) }, { dst := some 55, op := Go.Op.move (Go.Operand.tmp 54), type := 4, pos := "law.go:113", after := #[{ on := 9, ground := Go.Ground.data }, { on := 7, ground := Go.Ground.chain }, { on := 7, ground := Go.Ground.guard }], guard := some (7, true) }, { dst := some 56, op := Go.Op.move (Go.Operand.tmp 14), type := 29, pos := "law.go:113", after := #[{ on := 10, ground := Go.Ground.guard }], guard := some (10, false) }, { dst := some 57, op := Go.Op.binOp Go.BinOp.neq 29 (Go.Operand.tmp 56) (Go.Operand.const (Go.Value.int Go.IntKind.i64 320)) 29, type := 4, pos := "law.go:113", after := #[{ on := 11, ground := Go.Ground.data }, { on := 10, ground := Go.Ground.guard }], guard := some (10, false) }, { dst := some 58, op := Go.Op.pick (Go.Operand.tmp 55) (Go.Operand.const (Go.Value.bool true)) (Go.Operand.tmp 57), type := 4, pos := "law.go:113", after := #[{ on := 10, ground := Go.Ground.data }, { on := 12, ground := Go.Ground.data }, { on := 7, ground := Go.Ground.guard }], guard := some (7, true) }, { dst := some 59, op := Go.Op.move (Go.Operand.tmp 58), type := 4, pos := "law.go:113", after := #[{ on := 13, ground := Go.Ground.data }, { on := 10, ground := Go.Ground.chain }, { on := 7, ground := Go.Ground.guard }], guard := some (7, true) }, { dst := some 60, op := Go.Op.move (Go.Operand.tmp 13), type := 22, pos := "law.go:113", after := #[{ on := 14, ground := Go.Ground.guard }], guard := some (14, false) }, { dst := some 61, op := Go.Op.call { callee := Go.Callee.builtin Go.Builtin.len, args := #[Go.Operand.tmp 60], argTypes := #[22] }, type := 3, pos := "law.go:113", after := #[{ on := 15, ground := Go.Ground.data }, { on := 14, ground := Go.Ground.guard }], guard := some (14, false) }, { dst := some 62, op := Go.Op.binOp Go.BinOp.neq 3 (Go.Operand.tmp 61) (Go.Operand.const (Go.Value.int Go.IntKind.i64 0)) 3, type := 4, pos := "law.go:113", after := #[{ on := 16, ground := Go.Ground.data }, { on := 14, ground := Go.Ground.guard }], guard := some (14, false) }, { dst := some 63, op := Go.Op.pick (Go.Operand.tmp 59) (Go.Operand.const (Go.Value.bool true)) (Go.Operand.tmp 62), type := 4, pos := "law.go:113", after := #[{ on := 14, ground := Go.Ground.data }, { on := 17, ground := Go.Ground.data }, { on := 7, ground := Go.Ground.guard }], guard := some (7, true) }, { dst := some 64, op := Go.Op.pick (Go.Operand.tmp 52) (Go.Operand.tmp 63) (Go.Operand.const (Go.Value.bool false)), type := 4, pos := "law.go:113", after := #[{ on := 7, ground := Go.Ground.data }, { on := 18, ground := Go.Ground.data }, { on := 4, ground := Go.Ground.guard }], guard := some (4, false) }, { dst := some 65, op := Go.Op.pick (Go.Operand.tmp 49) (Go.Operand.const (Go.Value.bool true)) (Go.Operand.tmp 64), type := 4, pos := "law.go:113", after := #[{ on := 4, ground := Go.Ground.data }, { on := 19, ground := Go.Ground.data }], guard := none }, { dst := some 66, op := Go.Op.move (Go.Operand.tmp 65), type := 4, pos := "law.go:113", after := #[{ on := 20, ground := Go.Ground.data }, { on := 14, ground := Go.Ground.chain }], guard := none }, { dst := some 67, op := Go.Op.load 24 (Go.Operand.tmp 9), type := 24, pos := "law.go:113", after := #[{ on := 21, ground := Go.Ground.guard }], guard := some (21, false) }, { dst := some 68, op := Go.Op.load 24 (Go.Operand.tmp 10), type := 24, pos := "law.go:113", after := #[{ on := 21, ground := Go.Ground.guard }], guard := some (21, false) }, { dst := some 69, op := Go.Op.call { callee := Go.Callee.value (Go.Operand.func 23), args := #[Go.Operand.tmp 67, Go.Operand.tmp 68], argTypes := #[24, 24] }, type := 4, pos := "law.go:113", after := #[{ on := 22, ground := Go.Ground.data }, { on := 23, ground := Go.Ground.data }, { on := 21, ground := Go.Ground.chain }, { on := 21, ground := Go.Ground.guard }], guard := some (21, false) }, { dst := some 70, op := Go.Op.fieldAddr 24 (Go.Operand.tmp 9) 0, type := 0, pos := "law.go:113", after := #[{ on := 21, ground := Go.Ground.guard }], guard := some (21, false) }, { dst := some 71, op := Go.Op.load 22 (Go.Operand.tmp 70), type := 22, pos := "law.go:113", after := #[{ on := 25, ground := Go.Ground.data }, { on := 21, ground := Go.Ground.guard }], guard := some (21, false) }, { dst := some 72, op := Go.Op.fieldAddr 24 (Go.Operand.tmp 10) 0, type := 0, pos := "law.go:113", after := #[{ on := 21, ground := Go.Ground.guard }], guard := some (21, false) }, { dst := some 73, op := Go.Op.load 22 (Go.Operand.tmp 72), type := 22, pos := "law.go:113", after := #[{ on := 27, ground := Go.Ground.data }, { on := 21, ground := Go.Ground.guard }], guard := some (21, false) }, { dst := some 74, op := Go.Op.call { callee := Go.Callee.value (Go.Operand.func 20), args := #[Go.Operand.tmp 71, Go.Operand.tmp 73], argTypes := #[22, 22] }, type := 4, pos := "law.go:113", after := #[{ on := 26, ground := Go.Ground.data }, { on := 28, ground := Go.Ground.data }, { on := 24, ground := Go.Ground.chain }, { on := 21, ground := Go.Ground.guard }], guard := some (21, false) }, { dst := some 75, op := Go.Op.binOp Go.BinOp.neq 4 (Go.Operand.tmp 69) (Go.Operand.tmp 74) 4, type := 4, pos := "law.go:113", after := #[{ on := 24, ground := Go.Ground.data }, { on := 29, ground := Go.Ground.data }, { on := 21, ground := Go.Ground.guard }], guard := some (21, false) }, { dst := some 76, op := Go.Op.pick (Go.Operand.tmp 66) (Go.Operand.const (Go.Value.bool true)) (Go.Operand.tmp 75), type := 4, pos := "law.go:113", after := #[{ on := 21, ground := Go.Ground.data }, { on := 30, ground := Go.Ground.data }], guard := none }] true).seq (Go.Code.cond (Go.Operand.tmp 76) ((Go.Code.region 12 #[{ dst := some 6, op := Go.Op.assign (Go.Operand.const (Go.Value.bool false)), type := 4, pos := "law.go:114", after := #[], guard := none }] false).seq Go.Code.ret) Go.Code.skip)).seq (((Go.Code.region 13 #[{ dst := some 77, op := Go.Op.move (Go.Operand.tmp 11), type := 4, pos := "law.go:116", after := #[], guard := none }, { dst := some 78, op := Go.Op.unOp Go.UnOp.not 4 (Go.Operand.tmp 77), type := 4, pos := "law.go:116", after := #[{ on := 0, ground := Go.Ground.data }], guard := none }] false).seq (Go.Code.cond (Go.Operand.tmp 78) (Go.Code.exit 1) Go.Code.skip)).seq ((Go.Code.region 14 #[{ dst := some 79, op := Go.Op.load 36 (Go.Operand.tmp 4), type := 36, pos := "law.go:119", after := #[], guard := none }, { dst := some 80, op := Go.Op.call { callee := Go.Callee.value (Go.Operand.func 26), args := #[Go.Operand.tmp 79], argTypes := #[36] }, type := 4, pos := "law.go:119", after := #[{ on := 0, ground := Go.Ground.data }], guard := none }, { dst := some 81, op := Go.Op.unOp Go.UnOp.not 4 (Go.Operand.tmp 80), type := 4, pos := "law.go:119", after := #[{ on := 1, ground := Go.Ground.data }], guard := none }] false).seq (Go.Code.cond (Go.Operand.tmp 81) ((Go.Code.region 15 #[{ dst := some 82, op := Go.Op.move (Go.Operand.tmp 14), type := 29, pos := "law.go:120", after := #[], guard := none }, { dst := some 83, op := Go.Op.binOp Go.BinOp.neq 29 (Go.Operand.tmp 82) (Go.Operand.const (Go.Value.int Go.IntKind.i64 314)) 29, type := 4, pos := "law.go:120", after := #[{ on := 0, ground := Go.Ground.data }], guard := none }, { dst := some 84, op := Go.Op.move (Go.Operand.tmp 83), type := 4, pos := "law.go:120", after := #[{ on := 1, ground := Go.Ground.data }], guard := none }, { dst := some 85, op := Go.Op.move (Go.Operand.tmp 13), type := 22, pos := "law.go:120", after := #[{ on := 2, ground := Go.Ground.guard }], guard := some (2, false) }, { dst := some 86, op := Go.Op.call { callee := Go.Callee.builtin Go.Builtin.len, args := #[Go.Operand.tmp 85], argTypes := #[22] }, type := 3, pos := "law.go:120", after := #[{ on := 3, ground := Go.Ground.data }, { on := 2, ground := Go.Ground.guard }], guard := some (2, false) }, { dst := some 87, op := Go.Op.binOp Go.BinOp.neq 3 (Go.Operand.tmp 86) (Go.Operand.const (Go.Value.int Go.IntKind.i64 0)) 3, type := 4, pos := "law.go:120", after := #[{ on := 4, ground := Go.Ground.data }, { on := 2, ground := Go.Ground.guard }], guard := some (2, false) }, { dst := some 88, op := Go.Op.pick (Go.Operand.tmp 84) (Go.Operand.const (Go.Value.bool true)) (Go.Operand.tmp 87), type := 4, pos := "law.go:120", after := #[{ on := 2, ground := Go.Ground.data }, { on := 5, ground := Go.Ground.data }], guard := none }] false).seq (Go.Code.cond (Go.Operand.tmp 88) ((Go.Code.region 16 #[{ dst := some 6, op := Go.Op.assign (Go.Operand.const (Go.Value.bool false)), type := 4, pos := "law.go:121", after := #[], guard := none }] false).seq Go.Code.ret) Go.Code.skip)) ((Go.Code.region 17 #[{ dst := some 89, op := Go.Op.move (Go.Operand.tmp 14), type := 29, pos := "law.go:123", after := #[], guard := none }, { dst := some 90, op := Go.Op.binOp Go.BinOp.neq 29 (Go.Operand.tmp 89) (Go.Operand.const (Go.Value.int Go.IntKind.i64 0)) 29, type := 4, pos := "law.go:123", after := #[{ on := 0, ground := Go.Ground.data }], guard := none }, { dst := some 91, op := Go.Op.move (Go.Operand.tmp 90), type := 4, pos := "law.go:123", after := #[{ on := 1, ground := Go.Ground.data }], guard := none }, { dst := some 92, op := Go.Op.move (Go.Operand.tmp 13), type := 22, pos := "law.go:123", after := #[{ on := 2, ground := Go.Ground.guard }], guard := some (2, false) }, { dst := some 93, op := Go.Op.load 24 (Go.Operand.tmp 9), type := 24, pos := "law.go:123", after := #[{ on := 2, ground := Go.Ground.guard }], guard := some (2, false) }, { dst := some 94, op := Go.Op.load 36 (Go.Operand.tmp 4), type := 36, pos := "law.go:123", after := #[{ on := 2, ground := Go.Ground.guard }], guard := some (2, false) }, { dst := some 95, op := Go.Op.call { callee := Go.Callee.value (Go.Operand.func 27), args := #[Go.Operand.tmp 93, Go.Operand.tmp 94], argTypes := #[24, 36] }, type := 22, pos := "law.go:123", after := #[{ on := 4, ground := Go.Ground.data }, { on := 5, ground := Go.Ground.data }, { on := 2, ground := Go.Ground.chain }, { on := 2, ground := Go.Ground.guard }], guard := some (2, false) }, { dst := some 96, op := Go.Op.call { callee := Go.Callee.value (Go.Operand.func 20), args := #[Go.Operand.tmp 92, Go.Operand.tmp 95], argTypes := #[22, 22] }, type := 4, pos := "law.go:123", after := #[{ on := 3, ground := Go.Ground.data }, { on := 6, ground := Go.Ground.data }, { on := 6, ground := Go.Ground.chain }, { on := 2, ground := Go.Ground.guard }], guard := some (2, false) }, { dst := some 97, op := Go.Op.unOp Go.UnOp.not 4 (Go.Operand.tmp 96), type := 4, pos := "law.go:123", after := #[{ on := 7, ground := Go.Ground.data }, { on := 2, ground := Go.Ground.guard }], guard := some (2, false) }, { dst := some 98, op := Go.Op.pick (Go.Operand.tmp 91) (Go.Operand.const (Go.Value.bool true)) (Go.Operand.tmp 97), type := 4, pos := "law.go:123", after := #[{ on := 2, ground := Go.Ground.data }, { on := 8, ground := Go.Ground.data }], guard := none }] false).seq (Go.Code.cond (Go.Operand.tmp 98) ((Go.Code.region 18 #[{ dst := some 6, op := Go.Op.assign (Go.Operand.const (Go.Value.bool false)), type := 4, pos := "law.go:124", after := #[], guard := none }] false).seq Go.Code.ret) Go.Code.skip))))))))))))).seq (Go.Code.region 19 #[{ dst := some 99, op := Go.Op.binOp Go.BinOp.add 3 (Go.Operand.tmp 22) (Go.Operand.const (Go.Value.int Go.IntKind.i64 1)) 3, type := 3, pos := "law.go:105", after := #[], guard := none }, { dst := some 22, op := Go.Op.move (Go.Operand.tmp 99), type := 3, pos := "law.go:105", after := #[{ on := 0, ground := Go.Ground.data }], guard := none }] false)))).loop)).seq (((Go.Code.region 20 #[{ dst := some 100, op := Go.Op.move (Go.Operand.tmp 2), type := 28, pos := "law.go:127", after := #[], guard := none }, { dst := some 101, op := Go.Op.call { callee := Go.Callee.builtin Go.Builtin.len, args := #[Go.Operand.tmp 100], argTypes := #[28] }, type := 3, pos := "law.go:127", after := #[{ on := 0, ground := Go.Ground.data }], guard := none }, { dst := some 102, op := Go.Op.move (Go.Operand.const (Go.Value.int Go.IntKind.i64 0)), type := 3, pos := "law.go:127", after := #[], guard := none }] false).seq (Go.Code.block 2 ((Go.Code.region 21 #[{ dst := some 103, op := Go.Op.binOp Go.BinOp.lss 3 (Go.Operand.tmp 102) (Go.Operand.tmp 101) 3, type := 0, pos := "law.go:127", after := #[], guard := none }] false).seq ((Go.Code.cond (Go.Operand.tmp 103) Go.Code.skip (Go.Code.exit 2)).seq ((Go.Code.block 3 ((Go.Code.region 22 #[{ dst := some 104, op := Go.Op.move (Go.Operand.tmp 102), type := 3, pos := "law.go:127", after := #[], guard := none }, { dst := some 105, op := Go.Op.indexAddr 28 (Go.Operand.tmp 100) (Go.Operand.tmp 102), type := 0, pos := "law.go:127", after := #[], guard := none }, { dst := some 106, op := Go.Op.load 41 (Go.Operand.tmp 105), type := 41, pos := "law.go:127", after := #[{ on := 1, ground := Go.Ground.data }], guard := none }, { dst := some 16, op := Go.Op.alloc 41, type := 0, pos := "law.go:127", after := #[], guard := none }, { dst := some 15, op := Go.Op.assign (Go.Operand.tmp 104), type := 3, pos := "law.go:127", after := #[{ on := 0, ground := Go.Ground.data }, { on := 0, ground := Go.Ground.phase }, { on := 1, ground := Go.Ground.phase }, { on := 2, ground := Go.Ground.phase }, { on := 3, ground := Go.Ground.phase }], guard := none }, { dst := none, op := Go.Op.store 41 (Go.Operand.tmp 16) (Go.Operand.tmp 106), type := 0, pos := "law.go:127", after := #[{ on := 3, ground := Go.Ground.data }, { on := 2, ground := Go.Ground.data }, { on := 4, ground := Go.Ground.chain }, { on := 0, ground := Go.Ground.phase }, { on := 1, ground := Go.Ground.phase }, { on := 2, ground := Go.Ground.phase }, { on := 3, ground := Go.Ground.phase }, { on := 4, ground := Go.Ground.phase }], guard := none }] false).seq (((Go.Code.region 23 #[{ dst := some 107, op := Go.Op.move (Go.Operand.tmp 15), type := 3, pos := "law.go:128", after := #[], guard := none }, { dst := some 108, op := Go.Op.binOp Go.BinOp.eql 3 (Go.Operand.tmp 107) (Go.Operand.const (Go.Value.int Go.IntKind.i64 12)) 3, type := 4, pos := "law.go:128", after := #[{ on := 0, ground := Go.Ground.data }], guard := none }] false).seq (Go.Code.cond (Go.Operand.tmp 108) (Go.Code.exit 2) Go.Code.skip)).seq ((Go.Code.region 24 #[{ dst := some 109, op := Go.Op.move (Go.Operand.tmp 2), type := 28, pos := "law.go:131", after := #[], guard := none }, { dst := some 110, op := Go.Op.indexAddr 28 (Go.Operand.tmp 109) (Go.Operand.const (Go.Value.int Go.IntKind.i64 0)), type := 0, pos := "law.go:131", after := #[{ on := 0, ground := Go.Ground.data }], guard := none }, { dst := some 111, op := Go.Op.load 41 (Go.Operand.tmp 110), type := 41, pos := "law.go:131", after := #[{ on := 1, ground := Go.Ground.data }], guard := none }, { dst := some 17, op := Go.Op.alloc 41, type := 0, pos := "law.go:131", after := #[], guard := none }, { dst := none, op := Go.Op.store 41 (Go.Operand.tmp 17) (Go.Operand.tmp 111), type := 0, pos := "law.go:131", after := #[{ on := 3, ground := Go.Ground.data }, { on := 2, ground := Go.Ground.data }, { on := 0, ground := Go.Ground.phase }, { on := 1, ground := Go.Ground.phase }, { on := 2, ground := Go.Ground.phase }, { on := 3, ground := Go.Ground.phase }], guard := none }] false).seq ((Go.Code.region 25 #[{ dst := some 112, op := Go.Op.fieldAddr 41 (Go.Operand.tmp 16) 2, type := 0, pos := "law.go:132", after := #[], guard := none }, { dst := some 113, op := Go.Op.load 22 (Go.Operand.tmp 112), type := 22, pos := "law.go:132", after := #[{ on := 0, ground := Go.Ground.data }], guard := none }, { dst := some 114, op := Go.Op.fieldAddr 41 (Go.Operand.tmp 16) 2, type := 0, pos := "law.go:132", after := #[], guard := none }, { dst := some 115, op := Go.Op.load 22 (Go.Operand.tmp 114), type := 22, pos := "law.go:132", after := #[{ on := 2, ground := Go.Ground.data }], guard := none }, { dst := some 116, op := Go.Op.call { callee := Go.Callee.builtin Go.Builtin.len, args := #[Go.Operand.tmp 115], argTypes := #[22] }, type := 3, pos := "law.go:132", after := #[{ on := 3, ground := Go.Ground.data }], guard := none }, { dst := some 117, op := Go.Op.call { callee := Go.Callee.builtin Go.Builtin.min, args := #[Go.Operand.tmp 116, Go.Operand.const (Go.Value.int Go.IntKind.i64 20)], argTypes := #[3, 3] }, type := 3, pos := "law.go:132", after := #[{ on := 4, ground := Go.Ground.data }], guard := none }, { dst := some 118, op := Go.Op.slice 22 (Go.Operand.tmp 113) none (some (Go.Operand.tmp 117)) none, type := 22, pos := "law.go:132", after := #[{ on := 1, ground := Go.Ground.data }, { on := 5, ground := Go.Ground.data }], guard := none }, { dst := some 119, op := Go.Op.fieldAddr 41 (Go.Operand.tmp 17) 2, type := 0, pos := "law.go:132", after := #[], guard := none }, { dst := some 120, op := Go.Op.load 22 (Go.Operand.tmp 119), type := 22, pos := "law.go:132", after := #[{ on := 7, ground := Go.Ground.data }], guard := none }, { dst := some 121, op := Go.Op.fieldAddr 41 (Go.Operand.tmp 17) 2, type := 0, pos := "law.go:132", after := #[], guard := none }, { dst := some 122, op := Go.Op.load 22 (Go.Operand.tmp 121), type := 22, pos := "law.go:132", after := #[{ on := 9, ground := Go.Ground.data }], guard := none }, { dst := some 123, op := Go.Op.call { callee := Go.Callee.builtin Go.Builtin.len, args := #[Go.Operand.tmp 122], argTypes := #[22] }, type := 3, pos := "law.go:132", after := #[{ on := 10, ground := Go.Ground.data }], guard := none }, { dst := some 124, op := Go.Op.call { callee := Go.Callee.builtin Go.Builtin.min, args := #[Go.Operand.tmp 123, Go.Operand.const (Go.Value.int Go.IntKind.i64 20)], argTypes := #[3, 3] }, type := 3, pos := "law.go:132", after := #[{ on := 11, ground := Go.Ground.data }], guard := none }, { dst := some 125, op := Go.Op.slice 22 (Go.Operand.tmp 120) none (some (Go.Operand.tmp 124)) none, type := 22, pos := "law.go:132", after := #[{ on := 8, ground := Go.Ground.data }, { on := 12, ground := Go.Ground.data }], guard := none }, { dst := some 126, op := Go.Op.fieldAddr 41 (Go.Operand.tmp 16) 2, type := 0, pos := "law.go:132", after := #[{ on := 0, ground := Go.Ground.phase }, { on := 1, ground := Go.Ground.phase }, { on := 2, ground := Go.Ground.phase }, { on := 3, ground := Go.Ground.phase }, { on := 4, ground := Go.Ground.phase }, { on := 5, ground := Go.Ground.phase }, { on := 6, ground := Go.Ground.phase }, { on := 7, ground := Go.Ground.textOnly Go.Departure.lateStores }, { on := 8, ground := Go.Ground.textOnly Go.Departure.lateStores }, { on := 9, ground := Go.Ground.textOnly Go.Departure.lateStores }, { on := 10, ground := Go.Ground.textOnly Go.Departure.lateStores }, { on := 11, ground := Go.Ground.textOnly Go.Departure.lateStoresUnsure }, { on := 12, ground := Go.Ground.textOnly Go.Departure.lateStoresUnsure }, { on := 13, ground := Go.Ground.textOnly Go.Departure.lateStoresUnsure }], guard := none }, { dst := none, op := Go.Op.store 22 (Go.Operand.tmp 126) (Go.Operand.tmp 118), type := 0, pos := "law.go:132", after := #[{ on := 14, ground := Go.Ground.data }, { on := 6, ground := Go.Ground.data }, { on := 0, ground := Go.Ground.phase }, { on := 1, ground := Go.Ground.phase }, { on := 2, ground := Go.Ground.phase }, { on := 3, ground := Go.Ground.phase }, { on := 4, ground := Go.Ground.phase }, { on := 5, ground := Go.Ground.phase }, { on := 6, ground := Go.Ground.phase }, { on := 7, ground := Go.Ground.textOnly Go.Departure.lateStores }, { on := 8, ground := Go.Ground.textOnly Go.Departure.lateStores }, { on := 9, ground := Go.Ground.textOnly Go.Departure.lateStores }, { on := 10, ground := Go.Ground.textOnly Go.Departure.lateStores }, { on := 11, ground := Go.Ground.textOnly Go.Departure.lateStoresUnsure }, { on := 12, ground := Go.Ground.textOnly Go.Departure.lateStoresUnsure }, { on := 13, ground := Go.Ground.textOnly Go.Departure.lateStoresUnsure }], guard := none }, { dst := some 127, op := Go.Op.fieldAddr 41 (Go.Operand.tmp 17) 2, type := 0, pos := "law.go:132", after := #[{ on := 0, ground := Go.Ground.phase }, { on := 1, ground := Go.Ground.phase }, { on := 2, ground := Go.Ground.phase }, { on := 3, ground := Go.Ground.phase }, { on := 4, ground := Go.Ground.phase }, { on := 5, ground := Go.Ground.phase }, { on := 6, ground := Go.Ground.phase }, { on := 7, ground := Go.Ground.phase }, { on := 8, ground := Go.Ground.phase }, { on := 9, ground := Go.Ground.phase }, { on := 10, ground := Go.Ground.phase }, { on := 11, ground := Go.Ground.phase }, { on := 12, ground := Go.Ground.phase }, { on := 13, ground := Go.Ground.phase }, { on := 14, ground := Go.Ground.phase }, { on := 15, ground := Go.Ground.phase }], guard := none }, { dst := none, op := Go.Op.store 22 (Go.Operand.tmp 127) (Go.Operand.tmp 125), type := 0, pos := "law.go:132", after := #[{ on := 16, ground := Go.Ground.data }, { on := 13, ground := Go.Ground.data }, { on := 15, ground := Go.Ground.chain }, { on := 0, ground := Go.Ground.phase }, { on := 1, ground := Go.Ground.phase }, { on := 2, ground := Go.Ground.phase }, { on := 3, ground := Go.Ground.phase }, { on := 4, ground := Go.Ground.phase }, { on := 5, ground := Go.Ground.phase }, { on := 6, ground := Go.Ground.phase }, { on := 7, ground := Go.Ground.phase }, { on := 8, ground := Go.Ground.phase }, { on := 9, ground := Go.Ground.phase }, { on := 10, ground := Go.Ground.phase }, { on := 11, ground := Go.Ground.phase }, { on := 12, ground := Go.Ground.phase }, { on := 13, ground := Go.Ground.phase }, { on := 14, ground := Go.Ground.phase }, { on := 15, ground := Go.Ground.phase }], guard := none }] true).seq ((Go.Code.region 26 #[{ dst := some 128, op := Go.Op.load 41 (Go.Operand.tmp 16), type := 41, pos := "law.go:133", after := #[], guard := none }, { dst := some 129, op := Go.Op.load 41 (Go.Operand.tmp 17), type := 41, pos := "law.go:133", after := #[], guard := none }, { dst := some 130, op := Go.Op.call { callee := Go.Callee.value (Go.Operand.func 28), args := #[Go.Operand.tmp 128, Go.Operand.tmp 129], argTypes := #[41, 41] }, type := 4, pos := "law.go:133", after := #[{ on := 0, ground := Go.Ground.data }, { on := 1, ground := Go.Ground.data }], guard := none }, { dst := some 131, op := Go.Op.load 41 (Go.Operand.tmp 16), type := 41, pos := "law.go:133", after := #[], guard := none }, { dst := some 132, op := Go.Op.load 41 (Go.Operand.tmp 17), type := 41, pos := "law.go:133", after := #[], guard := none }, { dst := some 133, op := Go.Op.call { callee := Go.Callee.value (Go.Operand.func 19), args := #[Go.Operand.tmp 131, Go.Operand.tmp 132], argTypes := #[41, 41] }, type := 4, pos := "law.go:133", after := #[{ on := 3, ground := Go.Ground.data }, { on := 4, ground := Go.Ground.data }, { on := 2, ground := Go.Ground.chain }], guard := none }, { dst := some 134, op := Go.Op.binOp Go.BinOp.neq 4 (Go.Operand.tmp 130) (Go.Operand.tmp 133) 4, type := 4, pos := "law.go:133", after := #[{ on := 2, ground := Go.Ground.data }, { on := 5, ground := Go.Ground.data }], guard := none }, { dst := some 135, op := Go.Op.move (Go.Operand.tmp 134), type := 4, pos := "law.go:133", after := #[{ on := 6, ground := Go.Ground.data }, { on := 5, ground := Go.Ground.chain }], guard := none }, { dst := some 136, op := Go.Op.load 41 (Go.Operand.tmp 16), type := 41, pos := "law.go:133", after := #[{ on := 7, ground := Go.Ground.guard }], guard := some (7, false) }, { dst := some 137, op := Go.Op.load 41 (Go.Operand.tmp 16), type := 41, pos := "law.go:133", after := #[{ on := 7, ground := Go.Ground.guard }], guard := some (7, false) }, { dst := some 138, op := Go.Op.call { callee := Go.Callee.value (Go.Operand.func 28), args := #[Go.Operand.tmp 136, Go.Operand.tmp 137], argTypes := #[41, 41] }, type := 4, pos := "law.go:133", after := #[{ on := 8, ground := Go.Ground.data }, { on := 9, ground := Go.Ground.data }, { on := 7, ground := Go.Ground.chain }, { on := 7, ground := Go.Ground.guard }], guard := some (7, false) }, { dst := some 139, op := Go.Op.unOp Go.UnOp.not 4 (Go.Operand.tmp 138), type := 4, pos := "law.go:133", after := #[{ on := 10, ground := Go.Ground.data }, { on := 7, ground := Go.Ground.guard }], guard := some (7, false) }, { dst := some 140, op := Go.Op.pick (Go.Operand.tmp 135) (Go.Operand.const (Go.Value.bool true)) (Go.Operand.tmp 139), type := 4, pos := "law.go:133", after := #[{ on := 7, ground := Go.Ground.data }, { on := 11, ground := Go.Ground.data }], guard := none }] true).seq (Go.Code.cond (Go.Operand.tmp 140) ((Go.Code.region 27 #[{ dst := some 6, op := Go.Op.assign (Go.Operand.const (Go.Value.bool false)), type := 4, pos := "law.go:134", after := #[], guard := none }] false).seq Go.Code.ret) Go.Code.skip))))))).seq (Go.Code.region 28 #[{ dst := some 141, op := Go.Op.binOp Go.BinOp.add 3 (Go.Operand.tmp 102) (Go.Operand.const (Go.Value.int Go.IntKind.i64 1)) 3, type := 3, pos := "law.go:127", after := #[], guard := none }, { dst := some 102, op := Go.Op.move (Go.Operand.tmp 141), type := 3, pos := "law.go:127", after := #[{ on := 0, ground := Go.Ground.data }], guard := none }] false)))).loop)).seq ((Go.Code.region 29 #[{ dst := some 6, op := Go.Op.assign (Go.Operand.const (Go.Value.bool true)), type := 4, pos := "law.go:137", after := #[], guard := none }] false).seq Go.Code.ret))).wp Try.prog (bodyPost Try.prog Try.f6 fun e w' => e = .returned (.bool true) ∧ Below w.heap.size w w') ⟨#[.slice A0 l0.length c0, u1, .slice A2 l2.length c2, u3, .pointer (some ⟨g4, 0, none⟩), u5, u6, u7, u8, u9, u10, u11, u12, u13, u14, u15, u16, u17, u18, u19, u20, u21, u22, u23, u24, u25, u26, u27, u28, u29, u30, u31, u32, u33, u34, u35, u36, u37, u38, u39, u40, u41, u42, u43, u44, u45, u46, u47, u48, u49, u50, u51, u52, u53, u54, u55, u56, u57, u58, u59, u60, u61, u62, u63, u64, u65, u66, u67, u68, u69, u70, u71, u72, u73, u74, u75, u76, u77, u78, u79, u80, u81, u82, u83, u84, u85, u86, u87, u88, u89, u90, u91, u92, u93, u94, u95, u96, u97, u98, u99, u100, u101, u102, u103, u104, u105, u106, u107, u108, u109, u110, u111, u112, u113, u114, u115, u116, u117, u118, u119, u120, u121, u122, u123, u124, u125, u126, u127, u128, u129, u130, u131, u132, u133, u134, u135, u136, u137, u138, u139, u140, u141], []⟩ W := by
  have HA := Lib.hid hr0
  have HR2 := Lib.hid hr2
  have HP := Lib.hid hp
  clear hr0 hr2 hp
  go_wp2
  go_loopw [22] (fun v22 wr => ∃ (i : Nat), v22 = .int .i64 (i : Int) ∧ i ≤ l0.length ∧ i ≤ 12 ∧ Blk wr g4 36 #[.int .i64 k.f0, .int .i64 k.f1, .int .i64 k.f2, .int .i64 k.f3] ∧ Below w.heap.size w wr) (fun v22 _ => l0.length - (intOf v22).toNat)
  case atStart => exact ⟨0, rfl, by omega, by omega, hW, hB⟩
  case round =>
    clear hW hB
    obtain ⟨i, rfl, hil, hi2, hW, hB⟩ := hrel
    by_cases hlt : i < l0.length
    · have hd : decide ((i : Int) < (l0.length : Int)) = true := decide_eq_true (by omega)
      have p1 : ((i : Int) < (l0.length : Int)) = True := eq_true (by omega)
      have p0 : (0 < l0.length) = True := eq_true (by omega)
      have p0' : ((0 : Int) < (l0.length : Int)) = True := eq_true (by omega)
      obtain ⟨ad, Aa, ca, rfl, x0, hla, hCa⟩ := at_T24 (Kd.C_below HA.out hB) (i : Int) (by omega) (by omega)
      obtain ⟨ad', Ab, cb, he, y0, hlb, hCb⟩ := at_T24 (Kd.C_below HA.out hB) 0 (by omega) (by omega)
      injection he with he
      subst he
      rw [Int.toNat_natCast] at x0
      replace y0 : wr.cell? ad = some _ := y0
      have HPa := Lib.hid (HP.out _ (rd24_mem hlt))
      generalize rd_T24 l0 (i : Int) = a at *
      generalize rd_T24 l0 0 = b at *
      by_cases h12 : (i : Int) = 12
      · have z12 : ((i : Int) == 12) = true := beq_iff_eq.mpr h12
        clear h12
        rename_i hK0
        have HK0 := Lib.hid hK0
        clear hK0
        go_wp2
        refine HK0.out _ _ ?_
        exact tells_two A2 c2 l2 w _ HR2.out (keep_below_alloc _ hB) _ _ _ _ _ _ _ _ _ _ _ _ _ _ _ _ _ _ _ _ _ _ _ _ _ _ _ _ _ _ _ _ _ _ _ _ _ _ _ _ _ _ _ _ _ _ _ _ _ _ _ _ _ _ _ _ _ _ _ _ _ _ _ _ _ _ _ _ _ _ _ _ _ _ _ _ _ _ _ _ _ _ _ _ _ _ _ _ _ _ _ _ _ _ _ _ _ _ _ _ _ _ _ _ _ _ _ _ _ _ _ _ _ _ _ _ _ _ _ _ _ _ _ _ _ _ _ _ _ _ _ _ _ _ _ _ _ _ _ _ _
      have z12 : ((i : Int) == 12) = false := beq_eq_false_iff_ne.mpr h12
      have hi12 : i < 12 := by omega
      clear h12
      go_upto_region 7 with fail
      have v8 := Blk.new wr 24 #[.slice Aa a.f0.length ca]
      have hle := keep_below_alloc (.cells #[.slice Aa a.f0.length ca] 24) (Below.refl wr.heap.size wr)
      have hWx := hW.alloc (.cells #[.slice Aa a.f0.length ca] 24)
      have hBx := keep_below hB hle
      have yx : (wr.alloc (.cells #[.slice Aa a.f0.length ca] 24)).cell? ad = some _ := (hle.cell (World.block_lt_of_cell? _ _ y0)).trans y0
      have HCa := Lib.hid (Kd.C_below hCa hle)
      have HCb := Lib.hid (Kd.C_below hCb hle)
      generalize wr.alloc (.cells #[.slice Aa a.f0.length ca] 24) = Wx at v8 hWx hBx yx HCa HCb ⊢
      generalize wr.heap.size = g8 at v8 ⊢
      clear hle x0 y0 hCa hCb hW
      obtain ⟨T, hTa⟩ : ∃ T, a.f0.take 129 = T := ⟨_, rfl⟩
      obtain ⟨U, hUb⟩ : ∃ U, b.f0.take 129 = U := ⟨_, rfl⟩
      have nT : T.length ≤ 1000 := by rw [← hTa, List.length_take]; omega
      have nU : U.length ≤ 1000 := by rw [← hUb, List.length_take]; omega
      have HPT : Hid (∀ x ∈ T, 0 ≤ x.f0) := Lib.hid (by rw [← hTa]; exact fun x hx => HPa.out x (List.mem_of_mem_take hx))
      have HS1 := Lib.hid (fun (W : World) (h : Below Wx.heap.size Wx W) => short_call hTa (Kd.C_below HCa.out h) hla)
      have HS2 := Lib.hid (fun (W : World) (h : Below Wx.heap.size Wx W) => short_call hUb (Kd.C_below HCb.out h) hlb)
      clear hTa hUb HPa HCa HCb
      have k0 := v8.cell 0
      simp at k0
      refine start_ (n := 10) (S := (fun w' => Below Wx.heap.size Wx w')) (ds := [8, 9]) #[false, false, false, false, false, false, false, false, false, false] (by kernel_rfl) rfl rfl (Below.drew (Below.refl _ _)) (fun hHeld => ?_)
      refine with_tabW tlc.tab7 tlc.bits7 (fun HT_ HW_ => ?_)
      refine take_ (i := 0) (N := some 29) (v := ?_) (a' := ?_) #[true, false, false, false, false, false, false, false, false, false] rfl rfl (take_ofW HT_.out HW_.out (by kernel_rfl)) (fun _ _ _ h => h) (Or.inl ⟨by rfl, ?_⟩) hHeld ?_ ?_
      rotate_left
      · rintro w' s0
        have m0 := keep_cell s0 k0
        have m1 := (s0.cell (World.block_lt_of_cell? _ _ yx)).trans yx
        go_simp
        with_reducible rfl
      rotate_left
      · simp only [Act.put, List.setIfInBounds_toArray, List.set_cons_zero, List.set_cons_succ, i64_w, i32_w]
        rfl
      refine pure_ (i := 2) (N := some 31) (v := ?_) (a' := ?_) #[true, false, true, false, false, false, false, false, false, false] rfl rfl (any_of HT_.out (by kernel_rfl)) (fun _ _ _ h => h) (Or.inl ⟨by rfl, ?_⟩) ?_ ?_
      rotate_left
      · intro w'
        go_simp
        with_reducible rfl
      rotate_left
      · simp only [Act.put, List.setIfInBounds_toArray, List.set_cons_zero, List.set_cons_succ, i64_w, i32_w]
        rfl
      refine pure_ (i := 3) (N := some 32) (v := ?_) (a' := ?_) #[true, false, true, true, false, false, false, false, false, false] rfl rfl (any_of HT_.out (by kernel_rfl)) (fun _ _ _ h => h) (Or.inl ⟨by rfl, ?_⟩) ?_ ?_
      rotate_left
      · intro w'
        go_simp
        with_reducible rfl
      rotate_left
      · simp only [Act.put, List.setIfInBounds_toArray, List.set_cons_zero, List.set_cons_succ, i64_w, i32_w]
        rfl
      refine take_ (i := 4) (N := some 33) (v := ?_) (a' := ?_) #[true, false, true, true, true, false, false, false, false, false] rfl rfl (take_ofW HT_.out HW_.out (by kernel_rfl)) (fun _ _ _ h => h) (Or.inl ⟨by rfl, ?_⟩) hHeld ?_ ?_
      rotate_left
      · rintro w' s0
        have m0 := keep_cell s0 k0
        have m1 := (s0.cell (World.block_lt_of_cell? _ _ yx)).trans yx
        go_simp
        with_reducible rfl
      rotate_left
      · simp only [Act.put, List.setIfInBounds_toArray, List.set_cons_zero, List.set_cons_succ, i64_w, i32_w]
        rfl
      refine join_ (σ := (Option Addr) × (Nat) × (Option Addr) × (Nat) × (Nat) × (Nat)) 2 #[true, true, true, true, true, true, true, true, false, false] (fun s_ => [(30, (.agg #[.slice s_.1 T.length s_.2.1])), (34, (.agg #[.slice s_.2.2.1 U.length s_.2.2.2.1])), (9, (.pointer (some ⟨s_.2.2.2.2.1, 0, none⟩))), (10, (.pointer (some ⟨s_.2.2.2.2.2, 0, none⟩)))]) (fun s_ w' => Below Wx.heap.size Wx w' ∧ (OwnL w' Wx.heap.size s_.1 s_.2.1 T) ∧ (OwnL w' Wx.heap.size s_.2.2.1 s_.2.2.2.1 U) ∧ (Blk w' s_.2.2.2.2.1 24 #[.slice none 0 0]) ∧ (Wx.heap.size ≤ s_.2.2.2.2.1) ∧ (Blk w' s_.2.2.2.2.2 24 #[.slice none 0 0]) ∧ (Wx.heap.size ≤ s_.2.2.2.2.2) ∧ s_.2.2.2.2.1 ≠ s_.2.2.2.2.2) ?_ (fun hJ_1_5_6_7 => ?_)
      rotate_left
      refine join_ (σ := (Option Addr) × (Nat) × (Option Addr) × (Nat) × (Nat)) 3 #[true, true, true, true, true, true, true, false, false, false] (fun s_ => [(30, (.agg #[.slice s_.1 T.length s_.2.1])), (34, (.agg #[.slice s_.2.2.1 U.length s_.2.2.2.1])), (9, (.pointer (some ⟨s_.2.2.2.2, 0, none⟩)))]) (fun s_ w' => Below Wx.heap.size Wx w' ∧ (OwnL w' Wx.heap.size s_.1 s_.2.1 T) ∧ (OwnL w' Wx.heap.size s_.2.2.1 s_.2.2.2.1 U) ∧ (Blk w' s_.2.2.2.2 24 #[.slice none 0 0]) ∧ (Wx.heap.size ≤ s_.2.2.2.2)) ?_ (fun hJ_1_5_6 => ?_)
      rotate_left
      refine join_ (σ := (Option Addr) × (Nat) × (Option Addr) × (Nat) × (Nat)) 3 #[true, true, true, true, true, true, false, true, false, false] (fun s_ => [(30, (.agg #[.slice s_.1 T.length s_.2.1])), (34, (.agg #[.slice s_.2.2.1 U.length s_.2.2.2.1])), (10, (.pointer (some ⟨s_.2.2.2.2, 0, none⟩)))]) (fun s_ w' => Below Wx.heap.size Wx w' ∧ (OwnL w' Wx.heap.size s_.1 s_.2.1 T) ∧ (OwnL w' Wx.heap.size s_.2.2.1 s_.2.2.2.1 U) ∧ (Blk w' s_.2.2.2.2 24 #[.slice none 0 0]) ∧ (Wx.heap.size ≤ s_.2.2.2.2)) ?_ (fun hJ_1_5_7 => ?_)
      rotate_left
      refine join_ (σ := (Option Addr) × (Nat) × (Nat) × (Nat)) 3 #[true, true, true, true, true, false, true, true, false, false] (fun s_ => [(30, (.agg #[.slice s_.1 T.length s_.2.1])), (9, (.pointer (some ⟨s_.2.2.1, 0, none⟩))), (10, (.pointer (some ⟨s_.2.2.2, 0, none⟩)))]) (fun s_ w' => Below Wx.heap.size Wx w' ∧ (OwnL w' Wx.heap.size s_.1 s_.2.1 T) ∧ (Blk w' s_.2.2.1 24 #[.slice none 0 0]) ∧ (Wx.heap.size ≤ s_.2.2.1) ∧ (Blk w' s_.2.2.2 24 #[.slice none 0 0]) ∧ (Wx.heap.size ≤ s_.2.2.2) ∧ s_.2.2.1 ≠ s_.2.2.2) ?_ (fun hJ_1_6_7 => ?_)
      rotate_left
      refine join_ (σ := (Option Addr) × (Nat) × (Option Addr) × (Nat)) 4 #[true, true, true, true, true, true, false, false, false, false] (fun s_ => [(30, (.agg #[.slice s_.1 T.length s_.2.1])), (34, (.agg #[.slice s_.2.2.1 U.length s_.2.2.2]))]) (fun s_ w' => Below Wx.heap.size Wx w' ∧ (OwnL w' Wx.heap.size s_.1 s_.2.1 T) ∧ (OwnL w' Wx.heap.size s_.2.2.1 s_.2.2.2 U)) ?_ (fun hJ_1_5 => ?_)
      rotate_left
      refine join_ (σ := (Option Addr) × (Nat) × (Nat)) 4 #[true, true, true, true, true, false, true, false, false, false] (fun s_ => [(30, (.agg #[.slice s_.1 T.length s_.2.1])), (9, (.pointer (some ⟨s_.2.2, 0, none⟩)))]) (fun s_ w' => Below Wx.heap.size Wx w' ∧ (OwnL w' Wx.heap.size s_.1 s_.2.1 T) ∧ (Blk w' s_.2.2 24 #[.slice none 0 0]) ∧ (Wx.heap.size ≤ s_.2.2)) ?_ (fun hJ_1_6 => ?_)
      rotate_left
      refine join_ (σ := (Option Addr) × (Nat) × (Nat)) 4 #[true, true, true, true, true, false, false, true, false, false] (fun s_ => [(30, (.agg #[.slice s_.1 T.length s_.2.1])), (10, (.pointer (some ⟨s_.2.2, 0, none⟩)))]) (fun s_ w' => Below Wx.heap.size Wx w' ∧ (OwnL w' Wx.heap.size s_.1 s_.2.1 T) ∧ (Blk w' s_.2.2 24 #[.slice none 0 0]) ∧ (Wx.heap.size ≤ s_.2.2)) ?_ (fun hJ_1_7 => ?_)
      rotate_left
      refine join_ (σ := (Nat) × (Nat)) 4 #[true, false, true, true, true, false, true, true, false, false] (fun s_ => [(9, (.pointer (some ⟨s_.1, 0, none⟩))), (10, (.pointer (some ⟨s_.2, 0, none⟩)))]) (fun s_ w' => Below Wx.heap.size Wx w' ∧ (Blk w' s_.1 24 #[.slice none 0 0]) ∧ (Wx.heap.size ≤ s_.1) ∧ (Blk w' s_.2 24 #[.slice none 0 0]) ∧ (Wx.heap.size ≤ s_.2) ∧ s_.1 ≠ s_.2) ?_ (fun hJ_6_7 => ?_)
      rotate_left
      refine join_ (σ := (Option Addr) × (Nat)) 5 #[true, true, true, true, true, false, false, false, false, false] (fun s_ => [(30, (.agg #[.slice s_.1 T.length s_.2]))]) (fun s_ w' => Below Wx.heap.size Wx w' ∧ (OwnL w' Wx.heap.size s_.1 s_.2 T)) ?_ (fun hJ_1 => ?_)
      rotate_left
      refine join_ (σ := (Nat)) 5 #[true, false, true, true, true, false, true, false, false, false] (fun s_ => [(9, (.pointer (some ⟨s_, 0, none⟩)))]) (fun s_ w' => Below Wx.heap.size Wx w' ∧ (Blk w' s_ 24 #[.slice none 0 0]) ∧ (Wx.heap.size ≤ s_)) ?_ (fun hJ_6 => ?_)
      rotate_left
      refine join_ (σ := (Nat)) 5 #[true, false, true, true, true, false, false, true, false, false] (fun s_ => [(10, (.pointer (some ⟨s_, 0, none⟩)))]) (fun s_ w' => Below Wx.heap.size Wx w' ∧ (Blk w' s_ 24 #[.slice none 0 0]) ∧ (Wx.heap.size ≤ s_)) ?_ (fun hJ_7 => ?_)
      rotate_left
      · have hB_ := hHeld
        refine three_ (i := 1) (j := 6) (k := 7) (Ni := some 30) (Nj := some 9) (Nk := some 10) #[true, true, true, true, true, false, false, false, false, false] #[true, false, true, true, true, false, true, false, false, false] #[true, false, true, true, true, false, false, true, false, false] rfl rfl rfl rfl rfl rfl (three_of HT_.out (by kernel_rfl)) (by decide) (by decide) (by decide) (fun K hK => ?_) (fun K hK => ?_) (fun K hK => ?_)
        · refine goes_ Try.func14 (by kernel_rfl) rfl #[.agg #[.slice Aa a.f0.length ca]] (by rfl) rfl rfl (by (try simp only [List.map_toArray, List.map_cons, List.map_nil]); first | done | rfl) ?_
          refine ((HS1.out _ hB_).out).mono ?_
          rintro e_ w1_ ⟨A9, c9, rfl, o9, hb_⟩
          refine ⟨_, rfl, ?_⟩
          replace o9 := o9.weak hB_.size
          replace hB_ := keep_below hB_ hb_
          clear hb_
          refine hK.out _ _ hB_ (fun hHeld => ?_)
          clear hK K
          exact norm_ (by simp only [putAll, Act.put, List.setIfInBounds_toArray, List.set_cons_zero, List.set_cons_succ] <;> rfl) (hJ_1 (A9, c9) _ ⟨hB_, o9⟩)
        · refine box_step ?hg (N := 9) ?hd (cs := #[.slice none 0 0]) (t := 24) ?hr ?_; (case hd => rfl); (case hg => rfl); (case hr => first | (go_simp; done) | (go_simp; rfl))
          intro g9 hg_ w1_ b_g9 hb_
          have l_g9 : Wx.heap.size ≤ g9 := by rw [hg_]; exact hB_.size
          replace hB_ := keep_below hB_ hb_
          clear hb_ hg_
          refine hK.out _ _ hB_ (fun hHeld => ?_)
          clear hK K
          exact norm_ (by simp only [putAll, Act.put, List.setIfInBounds_toArray, List.set_cons_zero, List.set_cons_succ] <;> rfl) (hJ_6 (g9) _ ⟨hB_, b_g9, l_g9⟩)
        · refine box_step ?hg (N := 10) ?hd (cs := #[.slice none 0 0]) (t := 24) ?hr ?_; (case hd => rfl); (case hg => rfl); (case hr => first | (go_simp; done) | (go_simp; rfl))
          intro g10 hg_ w1_ b_g10 hb_
          have l_g10 : Wx.heap.size ≤ g10 := by rw [hg_]; exact hB_.size
          replace hB_ := keep_below hB_ hb_
          clear hb_ hg_
          refine hK.out _ _ hB_ (fun hHeld => ?_)
          clear hK K
          exact norm_ (by simp only [putAll, Act.put, List.setIfInBounds_toArray, List.set_cons_zero, List.set_cons_succ] <;> rfl) (hJ_7 (g10) _ ⟨hB_, b_g10, l_g10⟩)
      rotate_left
      · rintro ⟨A9, c9, A10, c10, g9⟩ w_ ⟨hB_, o9, o10, b_g9, l_g9⟩
        have hHeld := hB_
        refine norm_ (a' := ?_) ?_ ?_
        rotate_left
        · simp only [putAll, Act.put, List.setIfInBounds_toArray, List.set_cons_zero, List.set_cons_succ]
          rfl
        refine one_ (i := 7) (N := some 10) #[true, true, true, true, true, true, true, true, false, false] rfl rfl (one_of HT_.out (by kernel_rfl)) (by decide) (fun K hK => ?_)
        · refine box_step ?hg (N := 10) ?hd (cs := #[.slice none 0 0]) (t := 24) ?hr ?_; (case hd => rfl); (case hg => rfl); (case hr => first | (go_simp; done) | (go_simp; rfl))
          intro g10 hg_ w1_ b_g10 hb_
          have l_g10 : Wx.heap.size ≤ g10 := by rw [hg_]; exact hB_.size
          have n_g9_g10 : g9 ≠ g10 := by have h_ : g9 < w_.heap.size := b_g9.lt; omega
          replace o9 := o9.below hb_
          replace o10 := o10.below hb_
          replace b_g9 := b_g9.keep hb_
          replace hB_ := keep_below hB_ hb_
          clear hb_ hg_
          refine hK.out _ _ hB_ (fun hHeld => ?_)
          clear hK K
          exact norm_ (by simp only [putAll, Act.put, List.setIfInBounds_toArray, List.set_cons_zero, List.set_cons_succ] <;> rfl) (hJ_1_5_6_7 (A9, c9, A10, c10, g9, g10) _ ⟨hB_, o9, o10, b_g9, l_g9, b_g10, l_g10, n_g9_g10⟩)
      · rintro ⟨A9, c9, A10, c10, g10⟩ w_ ⟨hB_, o9, o10, b_g10, l_g10⟩
        have hHeld := hB_
        refine norm_ (a' := ?_) ?_ ?_
        rotate_left
        · simp only [putAll, Act.put, List.setIfInBounds_toArray, List.set_cons_zero, List.set_cons_succ]
          rfl
        refine one_ (i := 6) (N := some 9) #[true, true, true, true, true, true, true, true, false, false] rfl rfl (one_of HT_.out (by kernel_rfl)) (by decide) (fun K hK => ?_)
        · refine box_step ?hg (N := 9) ?hd (cs := #[.slice none 0 0]) (t := 24) ?hr ?_; (case hd => rfl); (case hg => rfl); (case hr => first | (go_simp; done) | (go_simp; rfl))
          intro g9 hg_ w1_ b_g9 hb_
          have l_g9 : Wx.heap.size ≤ g9 := by rw [hg_]; exact hB_.size
          have n_g9_g10 : g9 ≠ g10 := by have h_ : g10 < w_.heap.size := b_g10.lt; omega
          replace o9 := o9.below hb_
          replace o10 := o10.below hb_
          replace b_g10 := b_g10.keep hb_
          replace hB_ := keep_below hB_ hb_
          clear hb_ hg_
          refine hK.out _ _ hB_ (fun hHeld => ?_)
          clear hK K
          exact norm_ (by simp only [putAll, Act.put, List.setIfInBounds_toArray, List.set_cons_zero, List.set_cons_succ] <;> rfl) (hJ_1_5_6_7 (A9, c9, A10, c10, g9, g10) _ ⟨hB_, o9, o10, b_g9, l_g9, b_g10, l_g10, n_g9_g10⟩)
      · rintro ⟨A9, c9, g9, g10⟩ w_ ⟨hB_, o9, b_g9, l_g9, b_g10, l_g10, n_g9_g10⟩
        have hHeld := hB_
        refine norm_ (a' := ?_) ?_ ?_
        rotate_left
        · simp only [putAll, Act.put, List.setIfInBounds_toArray, List.set_cons_zero, List.set_cons_succ]
          rfl
        refine one_ (i := 5) (N := some 34) #[true, true, true, true, true, true, true, true, false, false] rfl rfl (one_of HT_.out (by kernel_rfl)) (by decide) (fun K hK => ?_)
        · refine goes_ Try.func14 (by kernel_rfl) rfl #[.agg #[.slice Ab b.f0.length cb]] (by rfl) rfl rfl (by (try simp only [List.map_toArray, List.map_cons, List.map_nil]); first | done | rfl) ?_
          refine ((HS2.out _ hB_).out).mono ?_
          rintro e_ w1_ ⟨A10, c10, rfl, o10, hb_⟩
          refine ⟨_, rfl, ?_⟩
          replace o10 := o10.weak hB_.size
          replace o9 := o9.below hb_
          replace b_g9 := b_g9.keep hb_
          replace b_g10 := b_g10.keep hb_
          replace hB_ := keep_below hB_ hb_
          clear hb_
          refine hK.out _ _ hB_ (fun hHeld => ?_)
          clear hK K
          exact norm_ (by simp only [putAll, Act.put, List.setIfInBounds_toArray, List.set_cons_zero, List.set_cons_succ] <;> rfl) (hJ_1_5_6_7 (A9, c9, A10, c10, g9, g10) _ ⟨hB_, o9, o10, b_g9, l_g9, b_g10, l_g10, n_g9_g10⟩)
      · rintro ⟨A9, c9, A10, c10⟩ w_ ⟨hB_, o9, o10⟩
        have hHeld := hB_
        refine norm_ (a' := ?_) ?_ ?_
        rotate_left
        · simp only [putAll, Act.put, List.setIfInBounds_toArray, List.set_cons_zero, List.set_cons_succ]
          rfl
        refine two_ (i := 6) (j := 7) (Ni := some 9) (Nj := some 10) #[true, true, true, true, true, true, true, false, false, false] #[true, true, true, true, true, true, false, true, false, false] rfl rfl rfl rfl (two_of HT_.out (by kernel_rfl)) (by decide) (by decide) (fun K hK => ?_) (fun K hK => ?_)
        · refine box_step ?hg (N := 9) ?hd (cs := #[.slice none 0 0]) (t := 24) ?hr ?_; (case hd => rfl); (case hg => rfl); (case hr => first | (go_simp; done) | (go_simp; rfl))
          intro g9 hg_ w1_ b_g9 hb_
          have l_g9 : Wx.heap.size ≤ g9 := by rw [hg_]; exact hB_.size
          replace o9 := o9.below hb_
          replace o10 := o10.below hb_
          replace hB_ := keep_below hB_ hb_
          clear hb_ hg_
          refine hK.out _ _ hB_ (fun hHeld => ?_)
          clear hK K
          exact norm_ (by simp only [putAll, Act.put, List.setIfInBounds_toArray, List.set_cons_zero, List.set_cons_succ] <;> rfl) (hJ_1_5_6 (A9, c9, A10, c10, g9) _ ⟨hB_, o9, o10, b_g9, l_g9⟩)
        · refine box_step ?hg (N := 10) ?hd (cs := #[.slice none 0 0]) (t := 24) ?hr ?_; (case hd => rfl); (case hg => rfl); (case hr => first | (go_simp; done) | (go_simp; rfl))
          intro g10 hg_ w1_ b_g10 hb_
          have l_g10 : Wx.heap.size ≤ g10 := by rw [hg_]; exact hB_.size
          replace o9 := o9.below hb_
          replace o10 := o10.below hb_
          replace hB_ := keep_below hB_ hb_
          clear hb_ hg_
          refine hK.out _ _ hB_ (fun hHeld => ?_)
          clear hK K
          exact norm_ (by simp only [putAll, Act.put, List.setIfInBounds_toArray, List.set_cons_zero, List.set_cons_succ] <;> rfl) (hJ_1_5_7 (A9, c9, A10, c10, g10) _ ⟨hB_, o9, o10, b_g10, l_g10⟩)
      · rintro ⟨A9, c9, g9⟩ w_ ⟨hB_, o9, b_g9, l_g9⟩
        have hHeld := hB_
        refine norm_ (a' := ?_) ?_ ?_
        rotate_left
        · simp only [putAll, Act.put, List.setIfInBounds_toArray, List.set_cons_zero, List.set_cons_succ]
          rfl
        refine two_ (i := 5) (j := 7) (Ni := some 34) (Nj := some 10) #[true, true, true, true, true, true, true, false, false, false] #[true, true, true, true, true, false, true, true, false, false] rfl rfl rfl rfl (two_of HT_.out (by kernel_rfl)) (by decide) (by decide) (fun K hK => ?_) (fun K hK => ?_)
        · refine goes_ Try.func14 (by kernel_rfl) rfl #[.agg #[.slice Ab b.f0.length cb]] (by rfl) rfl rfl (by (try simp only [List.map_toArray, List.map_cons, List.map_nil]); first | done | rfl) ?_
          refine ((HS2.out _ hB_).out).mono ?_
          rintro e_ w1_ ⟨A10, c10, rfl, o10, hb_⟩
          refine ⟨_, rfl, ?_⟩
          replace o10 := o10.weak hB_.size
          replace o9 := o9.below hb_
          replace b_g9 := b_g9.keep hb_
          replace hB_ := keep_below hB_ hb_
          clear hb_
          refine hK.out _ _ hB_ (fun hHeld => ?_)
          clear hK K
          exact norm_ (by simp only [putAll, Act.put, List.setIfInBounds_toArray, List.set_cons_zero, List.set_cons_succ] <;> rfl) (hJ_1_5_6 (A9, c9, A10, c10, g9) _ ⟨hB_, o9, o10, b_g9, l_g9⟩)
        · refine box_step ?hg (N := 10) ?hd (cs := #[.slice none 0 0]) (t := 24) ?hr ?_; (case hd => rfl); (case hg => rfl); (case hr => first | (go_simp; done) | (go_simp; rfl))
          intro g10 hg_ w1_ b_g10 hb_
          have l_g10 : Wx.heap.size ≤ g10 := by rw [hg_]; exact hB_.size
          have n_g9_g10 : g9 ≠ g10 := by have h_ : g9 < w_.heap.size := b_g9.lt; omega
          replace o9 := o9.below hb_
          replace b_g9 := b_g9.keep hb_
          replace hB_ := keep_below hB_ hb_
          clear hb_ hg_
          refine hK.out _ _ hB_ (fun hHeld => ?_)
          clear hK K
          exact norm_ (by simp only [putAll, Act.put, List.setIfInBounds_toArray, List.set_cons_zero, List.set_cons_succ] <;> rfl) (hJ_1_6_7 (A9, c9, g9, g10) _ ⟨hB_, o9, b_g9, l_g9, b_g10, l_g10, n_g9_g10⟩)
      · rintro ⟨A9, c9, g10⟩ w_ ⟨hB_, o9, b_g10, l_g10⟩
        have hHeld := hB_
        refine norm_ (a' := ?_) ?_ ?_
        rotate_left
        · simp only [putAll, Act.put, List.setIfInBounds_toArray, List.set_cons_zero, List.set_cons_succ]
          rfl
        refine two_ (i := 5) (j := 6) (Ni := some 34) (Nj := some 9) #[true, true, true, true, true, true, false, true, false, false] #[true, true, true, true, true, false, true, true, false, false] rfl rfl rfl rfl (two_of HT_.out (by kernel_rfl)) (by decide) (by decide) (fun K hK => ?_) (fun K hK => ?_)
        · refine goes_ Try.func14 (by kernel_rfl) rfl #[.agg #[.slice Ab b.f0.length cb]] (by rfl) rfl rfl (by (try simp only [List.map_toArray, List.map_cons, List.map_nil]); first | done | rfl) ?_
          refine ((HS2.out _ hB_).out).mono ?_
          rintro e_ w1_ ⟨A10, c10, rfl, o10, hb_⟩
          refine ⟨_, rfl, ?_⟩
          replace o10 := o10.weak hB_.size
          replace o9 := o9.below hb_
          replace b_g10 := b_g10.keep hb_
          replace hB_ := keep_below hB_ hb_
          clear hb_
          refine hK.out _ _ hB_ (fun hHeld => ?_)
          clear hK K
          exact norm_ (by simp only [putAll, Act.put, List.setIfInBounds_toArray, List.set_cons_zero, List.set_cons_succ] <;> rfl) (hJ_1_5_7 (A9, c9, A10, c10, g10) _ ⟨hB_, o9, o10, b_g10, l_g10⟩)
        · refine box_step ?hg (N := 9) ?hd (cs := #[.slice none 0 0]) (t := 24) ?hr ?_; (case hd => rfl); (case hg => rfl); (case hr => first | (go_simp; done) | (go_simp; rfl))
          intro g9 hg_ w1_ b_g9 hb_
          have l_g9 : Wx.heap.size ≤ g9 := by rw [hg_]; exact hB_.size
          have n_g9_g10 : g9 ≠ g10 := by have h_ : g10 < w_.heap.size := b_g10.lt; omega
          replace o9 := o9.below hb_
          replace b_g10 := b_g10.keep hb_
          replace hB_ := keep_below hB_ hb_
          clear hb_ hg_
          refine hK.out _ _ hB_ (fun hHeld => ?_)
          clear hK K
          exact norm_ (by simp only [putAll, Act.put, List.setIfInBounds_toArray, List.set_cons_zero, List.set_cons_succ] <;> rfl) (hJ_1_6_7 (A9, c9, g9, g10) _ ⟨hB_, o9, b_g9, l_g9, b_g10, l_g10, n_g9_g10⟩)
      · rintro ⟨g9, g10⟩ w_ ⟨hB_, b_g9, l_g9, b_g10, l_g10, n_g9_g10⟩
        have hHeld := hB_
        refine norm_ (a' := ?_) ?_ ?_
        rotate_left
        · simp only [putAll, Act.put, List.setIfInBounds_toArray, List.set_cons_zero, List.set_cons_succ]
          rfl
        refine one_ (i := 1) (N := some 30) #[true, true, true, true, true, false, true, true, false, false] rfl rfl (one_of HT_.out (by kernel_rfl)) (by decide) (fun K hK => ?_)
        · refine goes_ Try.func14 (by kernel_rfl) rfl #[.agg #[.slice Aa a.f0.length ca]] (by rfl) rfl rfl (by (try simp only [List.map_toArray, List.map_cons, List.map_nil]); first | done | rfl) ?_
          refine ((HS1.out _ hB_).out).mono ?_
          rintro e_ w1_ ⟨A9, c9, rfl, o9, hb_⟩
          refine ⟨_, rfl, ?_⟩
          replace o9 := o9.weak hB_.size
          replace b_g9 := b_g9.keep hb_
          replace b_g10 := b_g10.keep hb_
          replace hB_ := keep_below hB_ hb_
          clear hb_
          refine hK.out _ _ hB_ (fun hHeld => ?_)
          clear hK K
          exact norm_ (by simp only [putAll, Act.put, List.setIfInBounds_toArray, List.set_cons_zero, List.set_cons_succ] <;> rfl) (hJ_1_6_7 (A9, c9, g9, g10) _ ⟨hB_, o9, b_g9, l_g9, b_g10, l_g10, n_g9_g10⟩)
      · rintro ⟨A9, c9⟩ w_ ⟨hB_, o9⟩
        have hHeld := hB_
        refine norm_ (a' := ?_) ?_ ?_
        rotate_left
        · simp only [putAll, Act.put, List.setIfInBounds_toArray, List.set_cons_zero, List.set_cons_succ]
          rfl
        refine three_ (i := 5) (j := 6) (k := 7) (Ni := some 34) (Nj := some 9) (Nk := some 10) #[true, true, true, true, true, true, false, false, false, false] #[true, true, true, true, true, false, true, false, false, false] #[true, true, true, true, true, false, false, true, false, false] rfl rfl rfl rfl rfl rfl (three_of HT_.out (by kernel_rfl)) (by decide) (by decide) (by decide) (fun K hK => ?_) (fun K hK => ?_) (fun K hK => ?_)
        · refine goes_ Try.func14 (by kernel_rfl) rfl #[.agg #[.slice Ab b.f0.length cb]] (by rfl) rfl rfl (by (try simp only [List.map_toArray, List.map_cons, List.map_nil]); first | done | rfl) ?_
          refine ((HS2.out _ hB_).out).mono ?_
          rintro e_ w1_ ⟨A10, c10, rfl, o10, hb_⟩
          refine ⟨_, rfl, ?_⟩
          replace o10 := o10.weak hB_.size
          replace o9 := o9.below hb_
          replace hB_ := keep_below hB_ hb_
          clear hb_
          refine hK.out _ _ hB_ (fun hHeld => ?_)
          clear hK K
          exact norm_ (by simp only [putAll, Act.put, List.setIfInBounds_toArray, List.set_cons_zero, List.set_cons_succ] <;> rfl) (hJ_1_5 (A9, c9, A10, c10) _ ⟨hB_, o9, o10⟩)
        · refine box_step ?hg (N := 9) ?hd (cs := #[.slice none 0 0]) (t := 24) ?hr ?_; (case hd => rfl); (case hg => rfl); (case hr => first | (go_simp; done) | (go_simp; rfl))
          intro g9 hg_ w1_ b_g9 hb_
          have l_g9 : Wx.heap.size ≤ g9 := by rw [hg_]; exact hB_.size
          replace o9 := o9.below hb_
          replace hB_ := keep_below hB_ hb_
          clear hb_ hg_
          refine hK.out _ _ hB_ (fun hHeld => ?_)
          clear hK K
          exact norm_ (by simp only [putAll, Act.put, List.setIfInBounds_toArray, List.set_cons_zero, List.set_cons_succ] <;> rfl) (hJ_1_6 (A9, c9, g9) _ ⟨hB_, o9, b_g9, l_g9⟩)
        · refine box_step ?hg (N := 10) ?hd (cs := #[.slice none 0 0]) (t := 24) ?hr ?_; (case hd => rfl); (case hg => rfl); (case hr => first | (go_simp; done) | (go_simp; rfl))
          intro g10 hg_ w1_ b_g10 hb_
          have l_g10 : Wx.heap.size ≤ g10 := by rw [hg_]; exact hB_.size
          replace o9 := o9.below hb_
          replace hB_ := keep_below hB_ hb_
          clear hb_ hg_
          refine hK.out _ _ hB_ (fun hHeld => ?_)
          clear hK K
          exact norm_ (by simp only [putAll, Act.put, List.setIfInBounds_toArray, List.set_cons_zero, List.set_cons_succ] <;> rfl) (hJ_1_7 (A9, c9, g10) _ ⟨hB_, o9, b_g10, l_g10⟩)
      · rintro g9 w_ ⟨hB_, b_g9, l_g9⟩
        have hHeld := hB_
        refine norm_ (a' := ?_) ?_ ?_
        rotate_left
        · simp only [putAll, Act.put, List.setIfInBounds_toArray, List.set_cons_zero, List.set_cons_succ]
          rfl
        refine two_ (i := 1) (j := 7) (Ni := some 30) (Nj := some 10) #[true, true, true, true, true, false, true, false, false, false] #[true, false, true, true, true, false, true, true, false, false] rfl rfl rfl rfl (two_of HT_.out (by kernel_rfl)) (by decide) (by decide) (fun K hK => ?_) (fun K hK => ?_)
        · refine goes_ Try.func14 (by kernel_rfl) rfl #[.agg #[.slice Aa a.f0.length ca]] (by rfl) rfl rfl (by (try simp only [List.map_toArray, List.map_cons, List.map_nil]); first | done | rfl) ?_
          refine ((HS1.out _ hB_).out).mono ?_
          rintro e_ w1_ ⟨A9, c9, rfl, o9, hb_⟩
          refine ⟨_, rfl, ?_⟩
          replace o9 := o9.weak hB_.size
          replace b_g9 := b_g9.keep hb_
          replace hB_ := keep_below hB_ hb_
          clear hb_
          refine hK.out _ _ hB_ (fun hHeld => ?_)
          clear hK K
          exact norm_ (by simp only [putAll, Act.put, List.setIfInBounds_toArray, List.set_cons_zero, List.set_cons_succ] <;> rfl) (hJ_1_6 (A9, c9, g9) _ ⟨hB_, o9, b_g9, l_g9⟩)
        · refine box_step ?hg (N := 10) ?hd (cs := #[.slice none 0 0]) (t := 24) ?hr ?_; (case hd => rfl); (case hg => rfl); (case hr => first | (go_simp; done) | (go_simp; rfl))
          intro g10 hg_ w1_ b_g10 hb_
          have l_g10 : Wx.heap.size ≤ g10 := by rw [hg_]; exact hB_.size
          have n_g9_g10 : g9 ≠ g10 := by have h_ : g9 < w_.heap.size := b_g9.lt; omega
          replace b_g9 := b_g9.keep hb_
          replace hB_ := keep_below hB_ hb_
          clear hb_ hg_
          refine hK.out _ _ hB_ (fun hHeld => ?_)
          clear hK K
          exact norm_ (by simp only [putAll, Act.put, List.setIfInBounds_toArray, List.set_cons_zero, List.set_cons_succ] <;> rfl) (hJ_6_7 (g9, g10) _ ⟨hB_, b_g9, l_g9, b_g10, l_g10, n_g9_g10⟩)
      · rintro g10 w_ ⟨hB_, b_g10, l_g10⟩
        have hHeld := hB_
        refine norm_ (a' := ?_) ?_ ?_
        rotate_left
        · simp only [putAll, Act.put, List.setIfInBounds_toArray, List.set_cons_zero, List.set_cons_succ]
          rfl
        refine two_ (i := 1) (j := 6) (Ni := some 30) (Nj := some 9) #[true, true, true, true, true, false, false, true, false, false] #[true, false, true, true, true, false, true, true, false, false] rfl rfl rfl rfl (two_of HT_.out (by kernel_rfl)) (by decide) (by decide) (fun K hK => ?_) (fun K hK => ?_)
        · refine goes_ Try.func14 (by kernel_rfl) rfl #[.agg #[.slice Aa a.f0.length ca]] (by rfl) rfl rfl (by (try simp only [List.map_toArray, List.map_cons, List.map_nil]); first | done | rfl) ?_
          refine ((HS1.out _ hB_).out).mono ?_
          rintro e_ w1_ ⟨A9, c9, rfl, o9, hb_⟩
          refine ⟨_, rfl, ?_⟩
          replace o9 := o9.weak hB_.size
          replace b_g10 := b_g10.keep hb_
          replace hB_ := keep_below hB_ hb_
          clear hb_
          refine hK.out _ _ hB_ (fun hHeld => ?_)
          clear hK K
          exact norm_ (by simp only [putAll, Act.put, List.setIfInBounds_toArray, List.set_cons_zero, List.set_cons_succ] <;> rfl) (hJ_1_7 (A9, c9, g10) _ ⟨hB_, o9, b_g10, l_g10⟩)
        · refine box_step ?hg (N := 9) ?hd (cs := #[.slice none 0 0]) (t := 24) ?hr ?_; (case hd => rfl); (case hg => rfl); (case hr => first | (go_simp; done) | (go_simp; rfl))
          intro g9 hg_ w1_ b_g9 hb_
          have l_g9 : Wx.heap.size ≤ g9 := by rw [hg_]; exact hB_.size
          have n_g9_g10 : g9 ≠ g10 := by have h_ : g10 < w_.heap.size := b_g10.lt; omega
          replace b_g10 := b_g10.keep hb_
          replace hB_ := keep_below hB_ hb_
          clear hb_ hg_
          refine hK.out _ _ hB_ (fun hHeld => ?_)
          clear hK K
          exact norm_ (by simp only [putAll, Act.put, List.setIfInBounds_toArray, List.set_cons_zero, List.set_cons_succ] <;> rfl) (hJ_6_7 (g9, g10) _ ⟨hB_, b_g9, l_g9, b_g10, l_g10, n_g9_g10⟩)
      rintro ⟨A9, c9, A10, c10, g9, g10⟩ w_ ⟨hB_, o9, o10, b_g9, l_g9, b_g10, l_g10, n_g9_g10⟩
      have hHeld := hB_
      refine norm_ (a' := ?_) ?_ ?_
      rotate_left
      · simp only [putAll, Act.put, List.setIfInBounds_toArray, List.set_cons_zero, List.set_cons_succ]
        rfl
      have z_ := b_g9.frozen 0
      have c_ : _ = some _ := (b_g9.cell 0).trans rfl
      refine last_ (i := 8) (N := none) #[true, true, true, true, true, true, true, true, true, false] rfl rfl (one_of HT_.out (by kernel_rfl)) (by decide) (fun K hK => ?_)
      refine skip_ (w1 := ?_) (by rfl) rfl ?_ ?_
      rotate_left
      · go_simp
        with_reducible rfl
      refine hK.out _ _ ?_
      clear hK K
      clear z_ c_
      have b9 : Blk (w_.setCell ⟨g9, 0, none⟩ (.slice A9 T.length c9)) g9 24 #[.slice A9 T.length c9] := by simpa using b_g9.set_ 0 (.slice A9 T.length c9)
      have b10 := b_g10.far (p := ⟨g9, 0, none⟩) n_g9_g10.symm (.slice A9 T.length c9)
      have q9 := o9.far b_g9 (by decide) 0 (.slice A9 T.length c9)
      have q10 := o10.far b_g9 (by decide) 0 (.slice A9 T.length c9)
      have hBy := hB_.setCell (p := ⟨g9, 0, none⟩) l_g9 (.slice A9 T.length c9)
      generalize w_.setCell ⟨g9, 0, none⟩ (.slice A9 T.length c9) = Wy at b9 b10 q9 q10 hBy ⊢
      clear b_g9 b_g10 o9 o10 hB_
      have z_ := b10.frozen 0
      have c_ : _ = some _ := (b10.cell 0).trans rfl
      refine last_ (i := 9) (N := none) #[true, true, true, true, true, true, true, true, true, true] rfl rfl (one_of HT_.out (by kernel_rfl)) (by decide) (fun K hK => ?_)
      refine skip_ (w1 := ?_) (by rfl) rfl ?_ ?_
      rotate_left
      · go_simp
        with_reducible rfl
      refine hK.out _ _ ?_
      clear hK K
      clear z_ c_
      refine done_ (done_of HT_.out (by kernel_rfl)) ?_
      have d9 := b9.far (p := ⟨g10, 0, none⟩) n_g9_g10 (.slice A10 U.length c10)
      have d10 : Blk (Wy.setCell ⟨g10, 0, none⟩ (.slice A10 U.length c10)) g10 24 #[.slice A10 U.length c10] := by simpa using b10.set_ 0 (.slice A10 U.length c10)
      have dO := q9.far b10 (by decide) 0 (.slice A10 U.length c10)
      have dP := q10.far b10 (by decide) 0 (.slice A10 U.length c10)
      have hBz := hBy.setCell (p := ⟨g10, 0, none⟩) l_g10 (.slice A10 U.length c10)
      generalize Wy.setCell ⟨g10, 0, none⟩ (.slice A10 U.length c10) = Wz at d9 d10 dO dP hBz ⊢
      have d4 := hWx.keep hBz
      have hBd := keep_below hBx hBz
      clear b9 b10 q9 q10 hBy hBz hWx hBx HS1 HS2 v8 k0 yx l_g9 l_g10 n_g9_g10
      obtain ⟨bb, bw, RM, fe, er, hbb, hbw, ⟨n5, h5⟩, ⟨n6, h6⟩, hv⟩ := tells_vals T nT k
      have HV := Lib.hid hv
      have Hb := Lib.hid hbb
      have Hw := Lib.hid hbw
      have H5 := Lib.hid h5
      have H6 := Lib.hid h6
      clear hv hbb hbw h5 h6
      have g9c := d9.cell 0
      have k0 := d4.cell 0
      have k1 := d4.cell 1
      have k2 := d4.cell 2
      have k3 := d4.cell 3
      simp at g9c k0 k1 k2 k3
      go_upto_region 11 with (first
        | (go_at_call 16; (with_reducible refine (rightc_call Hb.out nT HPT.out dO.CL).out.mono ?_); rintro e wa ⟨rfl, ba⟩; have e4 := d4.keep ba; have e9 := d9.keep ba; have e10 := d10.keep ba; have eO := dO.below ba; have eP := dP.below ba; have hBe := keep_below hBd ba; clear g9c k0 k1 k2 k3; have g9c := e9.cell 0; have k0 := e4.cell 0; have k1 := e4.cell 1; have k2 := e4.cell 2; have k3 := e4.cell 3; simp at g9c k0 k1 k2 k3)
        | (go_at_call 24; (with_reducible refine (check_call H6.out eO).out.mono ?_); rintro e wb ⟨rfl, bb_⟩; have f4 := e4.keep bb_; have f9 := e9.keep bb_; have f10 := e10.keep bb_; have fO := eO.below bb_; have fP := eP.below bb_; have hBf := keep_below hBe bb_; clear g9c k0 k1 k2 k3; have g9c := f9.cell 0; have k0 := f4.cell 0; have k1 := f4.cell 1; have k2 := f4.cell 2; have k3 := f4.cell 3; simp at g9c k0 k1 k2 k3)
        | (go_at_call 25; (with_reducible refine (meets_call H5.out fO).out.mono ?_); rintro e wc ⟨A11, c11, rfl, oR, bc⟩; have h4 := f4.keep bc; have h9 := f9.keep bc; have h10 := f10.keep bc; have hO := fO.below bc; have hP := fP.below bc; have hBc := keep_below hBf bc))
      clear g9c k0 k1 k2 k3 d4 d9 d10 dO dP hBd e4 e9 e10 eO eP hBe f4 f9 f10 fO fP hBf ba bb_ bc H5 H6
      obtain ⟨r, e1, e2⟩ := bothT_ev T U nT
      obtain ⟨n1, h1⟩ := Ev.rounds e1
      obtain ⟨n2, h2⟩ := Ev.rounds e2
      have HC1 := Lib.hid (fun (W : World) (h : Below wc.heap.size wc W) => rsame_call h1 (hO.CL.below h) (hP.CL.below h))
      have HC2 := Lib.hid (fun (W : World) (h : Below wc.heap.size wc W) => msame_call h2 (hO.CL.below h) (hP.CL.below h))
      clear e1 e2 h1 h2
      have qr : (r != r) = false := by simp
      have hw := wrap_sm (z := (i : Int) + 1) (by omega) (by omega)
      have k9 := h9.cell 0
      have k10 := h10.cell 0
      simp at k9 k10
      rcases HV.out with ⟨rfl, rfl, rfl, rfl⟩ | ⟨rfl, rfl, rfl, rfl, rfl⟩ | ⟨rfl, rfl, rfl, rfl, rfl⟩
      · clear HV
        refine start_ (n := 32) (S := (fun w' => Below wc.heap.size wc w')) (ds := []) #[false, false, false, false, false, false, false, false, false, false, false, false, false, false, false, false, false, false, false, false, false, false, false, false, false, false, false, false, false, false, false, false] (by kernel_rfl) rfl rfl (Below.drew (Below.refl _ _)) (fun hHeld => ?_)
        refine with_tabW tld.tab11 tld.bits11 (fun HT_ HW_ => ?_)
        refine pure_ (i := 0) (N := some 45) (v := ?_) (a' := ?_) #[true, false, false, false, false, false, false, false, false, false, false, false, false, false, false, false, false, false, false, false, false, false, false, false, false, false, false, false, false, false, false, false] rfl rfl (any_of HT_.out (by kernel_rfl)) (fun _ _ _ h => h) (Or.inl ⟨by rfl, ?_⟩) ?_ ?_
        rotate_left
        · intro w'
          go_simp
          with_reducible rfl
        rotate_left
        · simp only [Act.put, List.setIfInBounds_toArray, List.set_cons_zero, List.set_cons_succ, i64_w, i32_w]
          rfl
        refine pure_ (i := 1) (N := some 46) (v := ?_) (a' := ?_) #[true, true, false, false, false, false, false, false, false, false, false, false, false, false, false, false, false, false, false, false, false, false, false, false, false, false, false, false, false, false, false, false] rfl rfl (any_of HT_.out (by kernel_rfl)) (fun _ _ _ h => h) (Or.inl ⟨by rfl, ?_⟩) ?_ ?_
        rotate_left
        · intro w'
          go_simp
          with_reducible rfl
        rotate_left
        · simp only [Act.put, List.setIfInBounds_toArray, List.set_cons_zero, List.set_cons_succ, i64_w, i32_w]
          rfl
        refine pure_ (i := 2) (N := some 47) (v := ?_) (a' := ?_) #[true, true, true, false, false, false, false, false, false, false, false, false, false, false, false, false, false, false, false, false, false, false, false, false, false, false, false, false, false, false, false, false] rfl rfl (any_of HT_.out (by kernel_rfl)) (fun _ _ _ h => h) (Or.inl ⟨by rfl, ?_⟩) ?_ ?_
        rotate_left
        · intro w'
          go_simp
          with_reducible rfl
        rotate_left
        · simp only [Act.put, List.setIfInBounds_toArray, List.set_cons_zero, List.set_cons_succ, i64_w, i32_w]
          rfl
        refine pure_ (i := 3) (N := some 48) (v := ?_) (a' := ?_) #[true, true, true, true, false, false, false, false, false, false, false, false, false, false, false, false, false, false, false, false, false, false, false, false, false, false, false, false, false, false, false, false] rfl rfl (any_of HT_.out (by kernel_rfl)) (fun _ _ _ h => h) (Or.inl ⟨by rfl, ?_⟩) ?_ ?_
        rotate_left
        · intro w'
          go_simp
          with_reducible rfl
        rotate_left
        · simp only [Act.put, List.setIfInBounds_toArray, List.set_cons_zero, List.set_cons_succ, i64_w, i32_w]
          rfl
        refine pure_ (i := 4) (N := some 49) (v := ?_) (a' := ?_) #[true, true, true, true, true, false, false, false, false, false, false, false, false, false, false, false, false, false, false, false, false, false, false, false, false, false, false, false, false, false, false, false] rfl rfl (any_of HT_.out (by kernel_rfl)) (fun _ _ _ h => h) (Or.inl ⟨by rfl, ?_⟩) ?_ ?_
        rotate_left
        · intro w'
          go_simp
          with_reducible rfl
        rotate_left
        · simp only [Act.put, List.setIfInBounds_toArray, List.set_cons_zero, List.set_cons_succ, i64_w, i32_w]
          rfl
        refine pure_ (i := 5) (N := some 50) (v := ?_) (a' := ?_) #[true, true, true, true, true, true, false, false, false, false, false, false, false, false, false, false, false, false, false, false, false, false, false, false, false, false, false, false, false, false, false, false] rfl rfl (any_of HT_.out (by kernel_rfl)) (fun _ _ _ h => h) (Or.inl ⟨by rfl, ?_⟩) ?_ ?_
        rotate_left
        · intro w'
          go_simp
          with_reducible rfl
        rotate_left
        · simp only [Act.put, List.setIfInBounds_toArray, List.set_cons_zero, List.set_cons_succ, i64_w, i32_w]
          rfl
        refine pure_ (i := 6) (N := some 51) (v := ?_) (a' := ?_) #[true, true, true, true, true, true, true, false, false, false, false, false, false, false, false, false, false, false, false, false, false, false, false, false, false, false, false, false, false, false, false, false] rfl rfl (any_of HT_.out (by kernel_rfl)) (fun _ _ _ h => h) (Or.inl ⟨by rfl, ?_⟩) ?_ ?_
        rotate_left
        · intro w'
          go_simp
          with_reducible rfl
        rotate_left
        · simp only [Act.put, List.setIfInBounds_toArray, List.set_cons_zero, List.set_cons_succ, i64_w, i32_w]
          rfl
        refine pure_ (i := 7) (N := some 52) (v := ?_) (a' := ?_) #[true, true, true, true, true, true, true, true, false, false, false, false, false, false, false, false, false, false, false, false, false, false, false, false, false, false, false, false, false, false, false, false] rfl rfl (any_of HT_.out (by kernel_rfl)) (fun _ _ _ h => h) (Or.inl ⟨by rfl, ?_⟩) ?_ ?_
        rotate_left
        · intro w'
          go_simp
          with_reducible rfl
        rotate_left
        · simp only [Act.put, List.setIfInBounds_toArray, List.set_cons_zero, List.set_cons_succ, i64_w, i32_w]
          rfl
        refine pure_ (i := 8) (N := some 53) (v := ?_) (a' := ?_) #[true, true, true, true, true, true, true, true, true, false, false, false, false, false, false, false, false, false, false, false, false, false, false, false, false, false, false, false, false, false, false, false] rfl rfl (any_of HT_.out (by kernel_rfl)) (fun _ _ _ h => h) (Or.inl ⟨by rfl, ?_⟩) ?_ ?_
        rotate_left
        · intro w'
          go_simp
          with_reducible rfl
        rotate_left
        · simp only [Act.put, List.setIfInBounds_toArray, List.set_cons_zero, List.set_cons_succ, i64_w, i32_w]
          rfl
        refine pure_ (i := 9) (N := some 54) (v := ?_) (a' := ?_) #[true, true, true, true, true, true, true, true, true, true, false, false, false, false, false, false, false, false, false, false, false, false, false, false, false, false, false, false, false, false, false, false] rfl rfl (any_of HT_.out (by kernel_rfl)) (fun _ _ _ h => h) (Or.inl ⟨by rfl, ?_⟩) ?_ ?_
        rotate_left
        · intro w'
          go_simp
          with_reducible rfl
        rotate_left
        · simp only [Act.put, List.setIfInBounds_toArray, List.set_cons_zero, List.set_cons_succ, i64_w, i32_w]
          rfl
        refine pure_ (i := 10) (N := some 55) (v := ?_) (a' := ?_) #[true, true, true, true, true, true, true, true, true, true, true, false, false, false, false, false, false, false, false, false, false, false, false, false, false, false, false, false, false, false, false, false] rfl rfl (any_of HT_.out (by kernel_rfl)) (fun _ _ _ h => h) (Or.inl ⟨by rfl, ?_⟩) ?_ ?_
        rotate_left
        · intro w'
          go_simp
          with_reducible rfl
        rotate_left
        · simp only [Act.put, List.setIfInBounds_toArray, List.set_cons_zero, List.set_cons_succ, i64_w, i32_w]
          rfl
        refine pure_ (i := 11) (N := some 56) (v := ?_) (a' := ?_) #[true, true, true, true, true, true, true, true, true, true, true, true, false, false, false, false, false, false, false, false, false, false, false, false, false, false, false, false, false, false, false, false] rfl rfl (any_of HT_.out (by kernel_rfl)) (fun _ _ _ h => h) (Or.inl ⟨by rfl, ?_⟩) ?_ ?_
        rotate_left
        · intro w'
          go_simp
          with_reducible rfl
        rotate_left
        · simp only [Act.put, List.setIfInBounds_toArray, List.set_cons_zero, List.set_cons_succ, i64_w, i32_w]
          rfl
        refine pure_ (i := 12) (N := some 57) (v := ?_) (a' := ?_) #[true, true, true, true, true, true, true, true, true, true, true, true, true, false, false, false, false, false, false, false, false, false, false, false, false, false, false, false, false, false, false, false] rfl rfl (any_of HT_.out (by kernel_rfl)) (fun _ _ _ h => h) (Or.inl ⟨by rfl, ?_⟩) ?_ ?_
        rotate_left
        · intro w'
          go_simp
          with_reducible rfl
        rotate_left
        · simp only [Act.put, List.setIfInBounds_toArray, List.set_cons_zero, List.set_cons_succ, i64_w, i32_w]
          rfl
        refine pure_ (i := 13) (N := some 58) (v := ?_) (a' := ?_) #[true, true, true, true, true, true, true, true, true, true, true, true, true, true, false, false, false, false, false, false, false, false, false, false, false, false, false, false, false, false, false, false] rfl rfl (any_of HT_.out (by kernel_rfl)) (fun _ _ _ h => h) (Or.inl ⟨by rfl, ?_⟩) ?_ ?_
        rotate_left
        · intro w'
          go_simp
          with_reducible rfl
        rotate_left
        · simp only [Act.put, List.setIfInBounds_toArray, List.set_cons_zero, List.set_cons_succ, i64_w, i32_w]
          rfl
        refine pure_ (i := 14) (N := some 59) (v := ?_) (a' := ?_) #[true, true, true, true, true, true, true, true, true, true, true, true, true, true, true, false, false, false, false, false, false, false, false, false, false, false, false, false, false, false, false, false] rfl rfl (any_of HT_.out (by kernel_rfl)) (fun _ _ _ h => h) (Or.inl ⟨by rfl, ?_⟩) ?_ ?_
        rotate_left
        · intro w'
          go_simp
          with_reducible rfl
        rotate_left
        · simp only [Act.put, List.setIfInBounds_toArray, List.set_cons_zero, List.set_cons_succ, i64_w, i32_w]
          rfl
        refine pure_ (i := 15) (N := some 60) (v := ?_) (a' := ?_) #[true, true, true, true, true, true, true, true, true, true, true, true, true, true, true, true, false, false, false, false, false, false, false, false, false, false, false, false, false, false, false, false] rfl rfl (any_of HT_.out (by kernel_rfl)) (fun _ _ _ h => h) (Or.inl ⟨by rfl, ?_⟩) ?_ ?_
        rotate_left
        · intro w'
          go_simp
          with_reducible rfl
        rotate_left
        · simp only [Act.put, List.setIfInBounds_toArray, List.set_cons_zero, List.set_cons_succ, i64_w, i32_w]
          rfl
        refine pure_ (i := 16) (N := some 61) (v := ?_) (a' := ?_) #[true, true, true, true, true, true, true, true, true, true, true, true, true, true, true, true, true, false, false, false, false, false, false, false, false, false, false, false, false, false, false, false] rfl rfl (any_of HT_.out (by kernel_rfl)) (fun _ _ _ h => h) (Or.inl ⟨by rfl, ?_⟩) ?_ ?_
        rotate_left
        · intro w'
          go_simp
          with_reducible rfl
        rotate_left
        · simp only [Act.put, List.setIfInBounds_toArray, List.set_cons_zero, List.set_cons_succ, i64_w, i32_w]
          rfl
        refine pure_ (i := 17) (N := some 62) (v := ?_) (a' := ?_) #[true, true, true, true, true, true, true, true, true, true, true, true, true, true, true, true, true, true, false, false, false, false, false, false, false, false, false, false, false, false, false, false] rfl rfl (any_of HT_.out (by kernel_rfl)) (fun _ _ _ h => h) (Or.inl ⟨by rfl, ?_⟩) ?_ ?_
        rotate_left
        · intro w'
          go_simp
          with_reducible rfl
        rotate_left
        · simp only [Act.put, List.setIfInBounds_toArray, List.set_cons_zero, List.set_cons_succ, i64_w, i32_w]
          rfl
        refine pure_ (i := 18) (N := some 63) (v := ?_) (a' := ?_) #[true, true, true, true, true, true, true, true, true, true, true, true, true, true, true, true, true, true, true, false, false, false, false, false, false, false, false, false, false, false, false, false] rfl rfl (any_of HT_.out (by kernel_rfl)) (fun _ _ _ h => h) (Or.inl ⟨by rfl, ?_⟩) ?_ ?_
        rotate_left
        · intro w'
          go_simp
          with_reducible rfl
        rotate_left
        · simp only [Act.put, List.setIfInBounds_toArray, List.set_cons_zero, List.set_cons_succ, i64_w, i32_w]
          rfl
        refine pure_ (i := 19) (N := some 64) (v := ?_) (a' := ?_) #[true, true, true, true, true, true, true, true, true, true, true, true, true, true, true, true, true, true, true, true, false, false, false, false, false, false, false, false, false, false, false, false] rfl rfl (any_of HT_.out (by kernel_rfl)) (fun _ _ _ h => h) (Or.inl ⟨by rfl, ?_⟩) ?_ ?_
        rotate_left
        · intro w'
          go_simp
          with_reducible rfl
        rotate_left
        · simp only [Act.put, List.setIfInBounds_toArray, List.set_cons_zero, List.set_cons_succ, i64_w, i32_w]
          rfl
        refine pure_ (i := 20) (N := some 65) (v := ?_) (a' := ?_) #[true, true, true, true, true, true, true, true, true, true, true, true, true, true, true, true, true, true, true, true, true, false, false, false, false, false, false, false, false, false, false, false] rfl rfl (any_of HT_.out (by kernel_rfl)) (fun _ _ _ h => h) (Or.inl ⟨by rfl, ?_⟩) ?_ ?_
        rotate_left
        · intro w'
          go_simp
          with_reducible rfl
        rotate_left
        · simp only [Act.put, List.setIfInBounds_toArray, List.set_cons_zero, List.set_cons_succ, i64_w, i32_w]
          rfl
        refine pure_ (i := 21) (N := some 66) (v := ?_) (a' := ?_) #[true, true, true, true, true, true, true, true, true, true, true, true, true, true, true, true, true, true, true, true, true, true, false, false, false, false, false, false, false, false, false, false] rfl rfl (any_of HT_.out (by kernel_rfl)) (fun _ _ _ h => h) (Or.inl ⟨by rfl, ?_⟩) ?_ ?_
        rotate_left
        · intro w'
          go_simp
          with_reducible rfl
        rotate_left
        · simp only [Act.put, List.setIfInBounds_toArray, List.set_cons_zero, List.set_cons_succ, i64_w, i32_w]
          rfl
        refine take_ (i := 22) (N := some 67) (v := ?_) (a' := ?_) #[true, true, true, true, true, true, true, true, true, true, true, true, true, true, true, true, true, true, true, true, true, true, true, false, false, false, false, false, false, false, false, false] rfl rfl (take_ofW HT_.out HW_.out (by kernel_rfl)) (fun _ _ _ h => h) (Or.inl ⟨by rfl, ?_⟩) hHeld ?_ ?_
        rotate_left
        · rintro w' s0
          have m0 := keep_cell s0 k9
          have m1 := keep_cell s0 k10
          go_simp
          with_reducible rfl
        rotate_left
        · simp only [Act.put, List.setIfInBounds_toArray, List.set_cons_zero, List.set_cons_succ, i64_w, i32_w]
          rfl
        refine take_ (i := 23) (N := some 68) (v := ?_) (a' := ?_) #[true, true, true, true, true, true, true, true, true, true, true, true, true, true, true, true, true, true, true, true, true, true, true, true, false, false, false, false, false, false, false, false] rfl rfl (take_ofW HT_.out HW_.out (by kernel_rfl)) (fun _ _ _ h => h) (Or.inl ⟨by rfl, ?_⟩) hHeld ?_ ?_
        rotate_left
        · rintro w' s0
          have m0 := keep_cell s0 k9
          have m1 := keep_cell s0 k10
          go_simp
          with_reducible rfl
        rotate_left
        · simp only [Act.put, List.setIfInBounds_toArray, List.set_cons_zero, List.set_cons_succ, i64_w, i32_w]
          rfl
        refine pure_ (i := 25) (N := some 70) (v := ?_) (a' := ?_) #[true, true, true, true, true, true, true, true, true, true, true, true, true, true, true, true, true, true, true, true, true, true, true, true, false, true, false, false, false, false, false, false] rfl rfl (any_of HT_.out (by kernel_rfl)) (fun _ _ _ h => h) (Or.inl ⟨by rfl, ?_⟩) ?_ ?_
        rotate_left
        · intro w'
          go_simp
          with_reducible rfl
        rotate_left
        · simp only [Act.put, List.setIfInBounds_toArray, List.set_cons_zero, List.set_cons_succ, i64_w, i32_w]
          rfl
        refine take_ (i := 26) (N := some 71) (v := ?_) (a' := ?_) #[true, true, true, true, true, true, true, true, true, true, true, true, true, true, true, true, true, true, true, true, true, true, true, true, false, true, true, false, false, false, false, false] rfl rfl (take_ofW HT_.out HW_.out (by kernel_rfl)) (fun _ _ _ h => h) (Or.inl ⟨by rfl, ?_⟩) hHeld ?_ ?_
        rotate_left
        · rintro w' s0
          have m0 := keep_cell s0 k9
          have m1 := keep_cell s0 k10
          go_simp
          with_reducible rfl
        rotate_left
        · simp only [Act.put, List.setIfInBounds_toArray, List.set_cons_zero, List.set_cons_succ, i64_w, i32_w]
          rfl
        refine pure_ (i := 27) (N := some 72) (v := ?_) (a' := ?_) #[true, true, true, true, true, true, true, true, true, true, true, true, true, true, true, true, true, true, true, true, true, true, true, true, false, true, true, true, false, false, false, false] rfl rfl (any_of HT_.out (by kernel_rfl)) (fun _ _ _ h => h) (Or.inl ⟨by rfl, ?_⟩) ?_ ?_
        rotate_left
        · intro w'
          go_simp
          with_reducible rfl
        rotate_left
        · simp only [Act.put, List.setIfInBounds_toArray, List.set_cons_zero, List.set_cons_succ, i64_w, i32_w]
          rfl
        refine take_ (i := 28) (N := some 73) (v := ?_) (a' := ?_) #[true, true, true, true, true, true, true, true, true, true, true, true, true, true, true, true, true, true, true, true, true, true, true, true, false, true, true, true, true, false, false, false] rfl rfl (take_ofW HT_.out HW_.out (by kernel_rfl)) (fun _ _ _ h => h) (Or.inl ⟨by rfl, ?_⟩) hHeld ?_ ?_
        rotate_left
        · rintro w' s0
          have m0 := keep_cell s0 k9
          have m1 := keep_cell s0 k10
          go_simp
          with_reducible rfl
        rotate_left
        · simp only [Act.put, List.setIfInBounds_toArray, List.set_cons_zero, List.set_cons_succ, i64_w, i32_w]
          rfl
        have hX := hHeld
        refine one_ (i := 24) (N := some 69) #[true, true, true, true, true, true, true, true, true, true, true, true, true, true, true, true, true, true, true, true, true, true, true, true, true, true, true, true, true, false, false, false] rfl rfl (one_of HT_.out (by kernel_rfl)) (by decide) (fun K hK => ?_)
        refine goes_ Try.func23 (by kernel_rfl) rfl #[.agg #[.slice A9 T.length c9], .agg #[.slice A10 U.length c10]] (by rfl) rfl rfl (by (try simp only [List.map_toArray, List.map_cons, List.map_nil]); first | done | rfl) ?_
        refine (HC2.out _ hX).out.mono ?_
        rintro e_ wd ⟨rfl, hb_⟩
        refine ⟨_, rfl, ?_⟩
        replace hX := keep_below hX hb_
        clear hb_
        refine hK.out _ _ hX (fun hHeld => ?_)
        clear hK K
        refine norm_ (a' := ?_) ?_ ?_
        rotate_left
        · first | (show Act.put _ (some 69) _ = _; simp only [Act.put, List.setIfInBounds_toArray, List.set_cons_zero, List.set_cons_succ, i64_w, i32_w]; rfl) | with_reducible rfl
        refine one_ (i := 29) (N := some 74) #[true, true, true, true, true, true, true, true, true, true, true, true, true, true, true, true, true, true, true, true, true, true, true, true, true, true, true, true, true, true, false, false] rfl rfl (one_of HT_.out (by kernel_rfl)) (by decide) (fun K hK => ?_)
        refine goes_ Try.func20 (by kernel_rfl) rfl #[.slice A9 T.length c9, .slice A10 U.length c10] (by rfl) rfl rfl (by (try simp only [List.map_toArray, List.map_cons, List.map_nil]); first | done | rfl) ?_
        refine (HC1.out _ hX).out.mono ?_
        rintro e_ we ⟨rfl, hb_⟩
        refine ⟨_, rfl, ?_⟩
        replace hX := keep_below hX hb_
        clear hb_
        refine hK.out _ _ hX (fun hHeld => ?_)
        clear hK K
        refine norm_ (a' := ?_) ?_ ?_
        rotate_left
        · first | (show Act.put _ (some 74) _ = _; simp only [Act.put, List.setIfInBounds_toArray, List.set_cons_zero, List.set_cons_succ, i64_w, i32_w]; rfl) | with_reducible rfl
        refine pure_ (i := 30) (N := some 75) (v := ?_) (a' := ?_) #[true, true, true, true, true, true, true, true, true, true, true, true, true, true, true, true, true, true, true, true, true, true, true, true, true, true, true, true, true, true, true, false] rfl rfl (any_of HT_.out (by kernel_rfl)) (fun _ _ _ h => h) (Or.inl ⟨by rfl, ?_⟩) ?_ ?_
        rotate_left
        · intro w'
          go_simp
          with_reducible rfl
        rotate_left
        · simp only [Act.put, List.setIfInBounds_toArray, List.set_cons_zero, List.set_cons_succ, i64_w, i32_w]
          rfl
        refine pure_ (i := 31) (N := some 76) (v := ?_) (a' := ?_) #[true, true, true, true, true, true, true, true, true, true, true, true, true, true, true, true, true, true, true, true, true, true, true, true, true, true, true, true, true, true, true, true] rfl rfl (any_of HT_.out (by kernel_rfl)) (fun _ _ _ h => h) (Or.inl ⟨by rfl, ?_⟩) ?_ ?_
        rotate_left
        · intro w'
          go_simp
          with_reducible rfl
        rotate_left
        · simp only [Act.put, List.setIfInBounds_toArray, List.set_cons_zero, List.set_cons_succ, i64_w, i32_w]
          rfl
        refine done_ (done_of HT_.out (by kernel_rfl)) ?_
        have y4 := h4.keep hX
        have y9 := h9.keep hX
        have yO := hO.below hX
        have yR := oR.below hX
        have hBy := keep_below hBc hX
        clear k9 k10 h4 h9 h10 hO hP oR hBc HC1 HC2 hHeld hX
        go_wp2
        go_roundw
        case rel => exact ⟨i + 1, by simp [hw], by omega, by omega, y4, hBy⟩
        case measure => simp [intOf, hw]; omega
      · clear HV
        refine start_ (n := 32) (S := (fun w' => Below wc.heap.size wc w')) (ds := []) #[false, false, false, false, false, false, false, false, false, false, false, false, false, false, false, false, false, false, false, false, false, false, false, false, false, false, false, false, false, false, false, false] (by kernel_rfl) rfl rfl (Below.drew (Below.refl _ _)) (fun hHeld => ?_)
        refine with_tabW tld.tab11 tld.bits11 (fun HT_ HW_ => ?_)
        refine pure_ (i := 0) (N := some 45) (v := ?_) (a' := ?_) #[true, false, false, false, false, false, false, false, false, false, false, false, false, false, false, false, false, false, false, false, false, false, false, false, false, false, false, false, false, false, false, false] rfl rfl (any_of HT_.out (by kernel_rfl)) (fun _ _ _ h => h) (Or.inl ⟨by rfl, ?_⟩) ?_ ?_
        rotate_left
        · intro w'
          go_simp
          with_reducible rfl
        rotate_left
        · simp only [Act.put, List.setIfInBounds_toArray, List.set_cons_zero, List.set_cons_succ, i64_w, i32_w]
          rfl
        refine pure_ (i := 1) (N := some 46) (v := ?_) (a' := ?_) #[true, true, false, false, false, false, false, false, false, false, false, false, false, false, false, false, false, false, false, false, false, false, false, false, false, false, false, false, false, false, false, false] rfl rfl (any_of HT_.out (by kernel_rfl)) (fun _ _ _ h => h) (Or.inl ⟨by rfl, ?_⟩) ?_ ?_
        rotate_left
        · intro w'
          go_simp
          with_reducible rfl
        rotate_left
        · simp only [Act.put, List.setIfInBounds_toArray, List.set_cons_zero, List.set_cons_succ, i64_w, i32_w]
          rfl
        refine pure_ (i := 2) (N := some 47) (v := ?_) (a' := ?_) #[true, true, true, false, false, false, false, false, false, false, false, false, false, false, false, false, false, false, false, false, false, false, false, false, false, false, false, false, false, false, false, false] rfl rfl (any_of HT_.out (by kernel_rfl)) (fun _ _ _ h => h) (Or.inl ⟨by rfl, ?_⟩) ?_ ?_
        rotate_left
        · intro w'
          go_simp
          with_reducible rfl
        rotate_left
        · simp only [Act.put, List.setIfInBounds_toArray, List.set_cons_zero, List.set_cons_succ, i64_w, i32_w]
          rfl
        refine pure_ (i := 3) (N := some 48) (v := ?_) (a' := ?_) #[true, true, true, true, false, false, false, false, false, false, false, false, false, false, false, false, false, false, false, false, false, false, false, false, false, false, false, false, false, false, false, false] rfl rfl (any_of HT_.out (by kernel_rfl)) (fun _ _ _ h => h) (Or.inl ⟨by rfl, ?_⟩) ?_ ?_
        rotate_left
        · intro w'
          go_simp
          with_reducible rfl
        rotate_left
        · simp only [Act.put, List.setIfInBounds_toArray, List.set_cons_zero, List.set_cons_succ, i64_w, i32_w]
          rfl
        refine pure_ (i := 4) (N := some 49) (v := ?_) (a' := ?_) #[true, true, true, true, true, false, false, false, false, false, false, false, false, false, false, false, false, false, false, false, false, false, false, false, false, false, false, false, false, false, false, false] rfl rfl (any_of HT_.out (by kernel_rfl)) (fun _ _ _ h => h) (Or.inl ⟨by rfl, ?_⟩) ?_ ?_
        rotate_left
        · intro w'
          go_simp
          with_reducible rfl
        rotate_left
        · simp only [Act.put, List.setIfInBounds_toArray, List.set_cons_zero, List.set_cons_succ, i64_w, i32_w]
          rfl
        refine pure_ (i := 5) (N := some 50) (v := ?_) (a' := ?_) #[true, true, true, true, true, true, false, false, false, false, false, false, false, false, false, false, false, false, false, false, false, false, false, false, false, false, false, false, false, false, false, false] rfl rfl (any_of HT_.out (by kernel_rfl)) (fun _ _ _ h => h) (Or.inl ⟨by rfl, ?_⟩) ?_ ?_
        rotate_left
        · intro w'
          go_simp
          with_reducible rfl
        rotate_left
        · simp only [Act.put, List.setIfInBounds_toArray, List.set_cons_zero, List.set_cons_succ, i64_w, i32_w]
          rfl
        refine pure_ (i := 6) (N := some 51) (v := ?_) (a' := ?_) #[true, true, true, true, true, true, true, false, false, false, false, false, false, false, false, false, false, false, false, false, false, false, false, false, false, false, false, false, false, false, false, false] rfl rfl (any_of HT_.out (by kernel_rfl)) (fun _ _ _ h => h) (Or.inl ⟨by rfl, ?_⟩) ?_ ?_
        rotate_left
        · intro w'
          go_simp
          with_reducible rfl
        rotate_left
        · simp only [Act.put, List.setIfInBounds_toArray, List.set_cons_zero, List.set_cons_succ, i64_w, i32_w]
          rfl
        refine pure_ (i := 7) (N := some 52) (v := ?_) (a' := ?_) #[true, true, true, true, true, true, true, true, false, false, false, false, false, false, false, false, false, false, false, false, false, false, false, false, false, false, false, false, false, false, false, false] rfl rfl (any_of HT_.out (by kernel_rfl)) (fun _ _ _ h => h) (Or.inl ⟨by rfl, ?_⟩) ?_ ?_
        rotate_left
        · intro w'
          go_simp
          with_reducible rfl
        rotate_left
        · simp only [Act.put, List.setIfInBounds_toArray, List.set_cons_zero, List.set_cons_succ, i64_w, i32_w]
          rfl
        refine pure_ (i := 8) (N := some 53) (v := undef) (a' := ?_) #[true, true, true, true, true, true, true, true, true, false, false, false, false, false, false, false, false, false, false, false, false, false, false, false, false, false, false, false, false, false, false, false] rfl rfl (any_of HT_.out (by kernel_rfl)) (fun _ _ _ h => h) (Or.inr ⟨by rfl, rfl⟩) ?_ ?_
        rotate_left
        · simp only [Act.put, List.setIfInBounds_toArray, List.set_cons_zero, List.set_cons_succ]
          rfl
        refine pure_ (i := 9) (N := some 54) (v := undef) (a' := ?_) #[true, true, true, true, true, true, true, true, true, true, false, false, false, false, false, false, false, false, false, false, false, false, false, false, false, false, false, false, false, false, false, false] rfl rfl (any_of HT_.out (by kernel_rfl)) (fun _ _ _ h => h) (Or.inr ⟨by rfl, rfl⟩) ?_ ?_
        rotate_left
        · simp only [Act.put, List.setIfInBounds_toArray, List.set_cons_zero, List.set_cons_succ]
          rfl
        refine pure_ (i := 10) (N := some 55) (v := undef) (a' := ?_) #[true, true, true, true, true, true, true, true, true, true, true, false, false, false, false, false, false, false, false, false, false, false, false, false, false, false, false, false, false, false, false, false] rfl rfl (any_of HT_.out (by kernel_rfl)) (fun _ _ _ h => h) (Or.inr ⟨by rfl, rfl⟩) ?_ ?_
        rotate_left
        · simp only [Act.put, List.setIfInBounds_toArray, List.set_cons_zero, List.set_cons_succ]
          rfl
        refine pure_ (i := 11) (N := some 56) (v := undef) (a' := ?_) #[true, true, true, true, true, true, true, true, true, true, true, true, false, false, false, false, false, false, false, false, false, false, false, false, false, false, false, false, false, false, false, false] rfl rfl (any_of HT_.out (by kernel_rfl)) (fun _ _ _ h => h) (Or.inr ⟨by rfl, rfl⟩) ?_ ?_
        rotate_left
        · simp only [Act.put, List.setIfInBounds_toArray, List.set_cons_zero, List.set_cons_succ]
          rfl
        refine pure_ (i := 12) (N := some 57) (v := undef) (a' := ?_) #[true, true, true, true, true, true, true, true, true, true, true, true, true, false, false, false, false, false, false, false, false, false, false, false, false, false, false, false, false, false, false, false] rfl rfl (any_of HT_.out (by kernel_rfl)) (fun _ _ _ h => h) (Or.inr ⟨by rfl, rfl⟩) ?_ ?_
        rotate_left
        · simp only [Act.put, List.setIfInBounds_toArray, List.set_cons_zero, List.set_cons_succ]
          rfl
        refine pure_ (i := 13) (N := some 58) (v := undef) (a' := ?_) #[true, true, true, true, true, true, true, true, true, true, true, true, true, true, false, false, false, false, false, false, false, false, false, false, false, false, false, false, false, false, false, false] rfl rfl (any_of HT_.out (by kernel_rfl)) (fun _ _ _ h => h) (Or.inr ⟨by rfl, rfl⟩) ?_ ?_
        rotate_left
        · simp only [Act.put, List.setIfInBounds_toArray, List.set_cons_zero, List.set_cons_succ]
          rfl
        refine pure_ (i := 14) (N := some 59) (v := undef) (a' := ?_) #[true, true, true, true, true, true, true, true, true, true, true, true, true, true, true, false, false, false, false, false, false, false, false, false, false, false, false, false, false, false, false, false] rfl rfl (any_of HT_.out (by kernel_rfl)) (fun _ _ _ h => h) (Or.inr ⟨by rfl, rfl⟩) ?_ ?_
        rotate_left
        · simp only [Act.put, List.setIfInBounds_toArray, List.set_cons_zero, List.set_cons_succ]
          rfl
        refine pure_ (i := 15) (N := some 60) (v := undef) (a' := ?_) #[true, true, true, true, true, true, true, true, true, true, true, true, true, true, true, true, false, false, false, false, false, false, false, false, false, false, false, false, false, false, false, false] rfl rfl (any_of HT_.out (by kernel_rfl)) (fun _ _ _ h => h) (Or.inr ⟨by rfl, rfl⟩) ?_ ?_
        rotate_left
        · simp only [Act.put, List.setIfInBounds_toArray, List.set_cons_zero, List.set_cons_succ]
          rfl
        refine pure_ (i := 16) (N := some 61) (v := undef) (a' := ?_) #[true, true, true, true, true, true, true, true, true, true, true, true, true, true, true, true, true, false, false, false, false, false, false, false, false, false, false, false, false, false, false, false] rfl rfl (any_of HT_.out (by kernel_rfl)) (fun _ _ _ h => h) (Or.inr ⟨by rfl, rfl⟩) ?_ ?_
        rotate_left
        · simp only [Act.put, List.setIfInBounds_toArray, List.set_cons_zero, List.set_cons_succ]
          rfl
        refine pure_ (i := 17) (N := some 62) (v := undef) (a' := ?_) #[true, true, true, true, true, true, true, true, true, true, true, true, true, true, true, true, true, true, false, false, false, false, false, false, false, false, false, false, false, false, false, false] rfl rfl (any_of HT_.out (by kernel_rfl)) (fun _ _ _ h => h) (Or.inr ⟨by rfl, rfl⟩) ?_ ?_
        rotate_left
        · simp only [Act.put, List.setIfInBounds_toArray, List.set_cons_zero, List.set_cons_succ]
          rfl
        refine pure_ (i := 18) (N := some 63) (v := undef) (a' := ?_) #[true, true, true, true, true, true, true, true, true, true, true, true, true, true, true, true, true, true, true, false, false, false, false, false, false, false, false, false, false, false, false, false] rfl rfl (any_of HT_.out (by kernel_rfl)) (fun _ _ _ h => h) (Or.inr ⟨by rfl, rfl⟩) ?_ ?_
        rotate_left
        · simp only [Act.put, List.setIfInBounds_toArray, List.set_cons_zero, List.set_cons_succ]
          rfl
        refine pure_ (i := 19) (N := some 64) (v := ?_) (a' := ?_) #[true, true, true, true, true, true, true, true, true, true, true, true, true, true, true, true, true, true, true, true, false, false, false, false, false, false, false, false, false, false, false, false] rfl rfl (any_of HT_.out (by kernel_rfl)) (fun _ _ _ h => h) (Or.inl ⟨by rfl, ?_⟩) ?_ ?_
        rotate_left
        · intro w'
          go_simp
          with_reducible rfl
        rotate_left
        · simp only [Act.put, List.setIfInBounds_toArray, List.set_cons_zero, List.set_cons_succ, i64_w, i32_w]
          rfl
        refine pure_ (i := 20) (N := some 65) (v := ?_) (a' := ?_) #[true, true, true, true, true, true, true, true, true, true, true, true, true, true, true, true, true, true, true, true, true, false, false, false, false, false, false, false, false, false, false, false] rfl rfl (any_of HT_.out (by kernel_rfl)) (fun _ _ _ h => h) (Or.inl ⟨by rfl, ?_⟩) ?_ ?_
        rotate_left
        · intro w'
          go_simp
          with_reducible rfl
        rotate_left
        · simp only [Act.put, List.setIfInBounds_toArray, List.set_cons_zero, List.set_cons_succ, i64_w, i32_w]
          rfl
        refine pure_ (i := 21) (N := some 66) (v := ?_) (a' := ?_) #[true, true, true, true, true, true, true, true, true, true, true, true, true, true, true, true, true, true, true, true, true, true, false, false, false, false, false, false, false, false, false, false] rfl rfl (any_of HT_.out (by kernel_rfl)) (fun _ _ _ h => h) (Or.inl ⟨by rfl, ?_⟩) ?_ ?_
        rotate_left
        · intro w'
          go_simp
          with_reducible rfl
        rotate_left
        · simp only [Act.put, List.setIfInBounds_toArray, List.set_cons_zero, List.set_cons_succ, i64_w, i32_w]
          rfl
        refine take_ (i := 22) (N := some 67) (v := ?_) (a' := ?_) #[true, true, true, true, true, true, true, true, true, true, true, true, true, true, true, true, true, true, true, true, true, true, true, false, false, false, false, false, false, false, false, false] rfl rfl (take_ofW HT_.out HW_.out (by kernel_rfl)) (fun _ _ _ h => h) (Or.inl ⟨by rfl, ?_⟩) hHeld ?_ ?_
        rotate_left
        · rintro w' s0
          have m0 := keep_cell s0 k9
          have m1 := keep_cell s0 k10
          go_simp
          with_reducible rfl
        rotate_left
        · simp only [Act.put, List.setIfInBounds_toArray, List.set_cons_zero, List.set_cons_succ, i64_w, i32_w]
          rfl
        refine take_ (i := 23) (N := some 68) (v := ?_) (a' := ?_) #[true, true, true, true, true, true, true, true, true, true, true, true, true, true, true, true, true, true, true, true, true, true, true, true, false, false, false, false, false, false, false, false] rfl rfl (take_ofW HT_.out HW_.out (by kernel_rfl)) (fun _ _ _ h => h) (Or.inl ⟨by rfl, ?_⟩) hHeld ?_ ?_
        rotate_left
        · rintro w' s0
          have m0 := keep_cell s0 k9
          have m1 := keep_cell s0 k10
          go_simp
          with_reducible rfl
        rotate_left
        · simp only [Act.put, List.setIfInBounds_toArray, List.set_cons_zero, List.set_cons_succ, i64_w, i32_w]
          rfl
        refine pure_ (i := 25) (N := some 70) (v := ?_) (a' := ?_) #[true, true, true, true, true, true, true, true, true, true, true, true, true, true, true, true, true, true, true, true, true, true, true, true, false, true, false, false, false, false, false, false] rfl rfl (any_of HT_.out (by kernel_rfl)) (fun _ _ _ h => h) (Or.inl ⟨by rfl, ?_⟩) ?_ ?_
        rotate_left
        · intro w'
          go_simp
          with_reducible rfl
        rotate_left
        · simp only [Act.put, List.setIfInBounds_toArray, List.set_cons_zero, List.set_cons_succ, i64_w, i32_w]
          rfl
        refine take_ (i := 26) (N := some 71) (v := ?_) (a' := ?_) #[true, true, true, true, true, true, true, true, true, true, true, true, true, true, true, true, true, true, true, true, true, true, true, true, false, true, true, false, false, false, false, false] rfl rfl (take_ofW HT_.out HW_.out (by kernel_rfl)) (fun _ _ _ h => h) (Or.inl ⟨by rfl, ?_⟩) hHeld ?_ ?_
        rotate_left
        · rintro w' s0
          have m0 := keep_cell s0 k9
          have m1 := keep_cell s0 k10
          go_simp
          with_reducible rfl
        rotate_left
        · simp only [Act.put, List.setIfInBounds_toArray, List.set_cons_zero, List.set_cons_succ, i64_w, i32_w]
          rfl
        refine pure_ (i := 27) (N := some 72) (v := ?_) (a' := ?_) #[true, true, true, true, true, true, true, true, true, true, true, true, true, true, true, true, true, true, true, true, true, true, true, true, false, true, true, true, false, false, false, false] rfl rfl (any_of HT_.out (by kernel_rfl)) (fun _ _ _ h => h) (Or.inl ⟨by rfl, ?_⟩) ?_ ?_
        rotate_left
        · intro w'
          go_simp
          with_reducible rfl
        rotate_left
        · simp only [Act.put, List.setIfInBounds_toArray, List.set_cons_zero, List.set_cons_succ, i64_w, i32_w]
          rfl
        refine take_ (i := 28) (N := some 73) (v := ?_) (a' := ?_) #[true, true, true, true, true, true, true, true, true, true, true, true, true, true, true, true, true, true, true, true, true, true, true, true, false, true, true, true, true, false, false, false] rfl rfl (take_ofW HT_.out HW_.out (by kernel_rfl)) (fun _ _ _ h => h) (Or.inl ⟨by rfl, ?_⟩) hHeld ?_ ?_
        rotate_left
        · rintro w' s0
          have m0 := keep_cell s0 k9
          have m1 := keep_cell s0 k10
          go_simp
          with_reducible rfl
        rotate_left
        · simp only [Act.put, List.setIfInBounds_toArray, List.set_cons_zero, List.set_cons_succ, i64_w, i32_w]
          rfl
        have hX := hHeld
        refine one_ (i := 24) (N := some 69) #[true, true, true, true, true, true, true, true, true, true, true, true, true, true, true, true, true, true, true, true, true, true, true, true, true, true, true, true, true, false, false, false] rfl rfl (one_of HT_.out (by kernel_rfl)) (by decide) (fun K hK => ?_)
        refine goes_ Try.func23 (by kernel_rfl) rfl #[.agg #[.slice A9 T.length c9], .agg #[.slice A10 U.length c10]] (by rfl) rfl rfl (by (try simp only [List.map_toArray, List.map_cons, List.map_nil]); first | done | rfl) ?_
        refine (HC2.out _ hX).out.mono ?_
        rintro e_ wd ⟨rfl, hb_⟩
        refine ⟨_, rfl, ?_⟩
        replace hX := keep_below hX hb_
        clear hb_
        refine hK.out _ _ hX (fun hHeld => ?_)
        clear hK K
        refine norm_ (a' := ?_) ?_ ?_
        rotate_left
        · first | (show Act.put _ (some 69) _ = _; simp only [Act.put, List.setIfInBounds_toArray, List.set_cons_zero, List.set_cons_succ, i64_w, i32_w]; rfl) | with_reducible rfl
        refine one_ (i := 29) (N := some 74) #[true, true, true, true, true, true, true, true, true, true, true, true, true, true, true, true, true, true, true, true, true, true, true, true, true, true, true, true, true, true, false, false] rfl rfl (one_of HT_.out (by kernel_rfl)) (by decide) (fun K hK => ?_)
        refine goes_ Try.func20 (by kernel_rfl) rfl #[.slice A9 T.length c9, .slice A10 U.length c10] (by rfl) rfl rfl (by (try simp only [List.map_toArray, List.map_cons, List.map_nil]); first | done | rfl) ?_
        refine (HC1.out _ hX).out.mono ?_
        rintro e_ we ⟨rfl, hb_⟩
        refine ⟨_, rfl, ?_⟩
        replace hX := keep_below hX hb_
        clear hb_
        refine hK.out _ _ hX (fun hHeld => ?_)
        clear hK K
        refine norm_ (a' := ?_) ?_ ?_
        rotate_left
        · first | (show Act.put _ (some 74) _ = _; simp only [Act.put, List.setIfInBounds_toArray, List.set_cons_zero, List.set_cons_succ, i64_w, i32_w]; rfl) | with_reducible rfl
        refine pure_ (i := 30) (N := some 75) (v := ?_) (a' := ?_) #[true, true, true, true, true, true, true, true, true, true, true, true, true, true, true, true, true, true, true, true, true, true, true, true, true, true, true, true, true, true, true, false] rfl rfl (any_of HT_.out (by kernel_rfl)) (fun _ _ _ h => h) (Or.inl ⟨by rfl, ?_⟩) ?_ ?_
        rotate_left
        · intro w'
          go_simp
          with_reducible rfl
        rotate_left
        · simp only [Act.put, List.setIfInBounds_toArray, List.set_cons_zero, List.set_cons_succ, i64_w, i32_w]
          rfl
        refine pure_ (i := 31) (N := some 76) (v := ?_) (a' := ?_) #[true, true, true, true, true, true, true, true, true, true, true, true, true, true, true, true, true, true, true, true, true, true, true, true, true, true, true, true, true, true, true, true] rfl rfl (any_of HT_.out (by kernel_rfl)) (fun _ _ _ h => h) (Or.inl ⟨by rfl, ?_⟩) ?_ ?_
        rotate_left
        · intro w'
          go_simp
          with_reducible rfl
        rotate_left
        · simp only [Act.put, List.setIfInBounds_toArray, List.set_cons_zero, List.set_cons_succ, i64_w, i32_w]
          rfl
        refine done_ (done_of HT_.out (by kernel_rfl)) ?_
        have y4 := h4.keep hX
        have y9 := h9.keep hX
        have yO := hO.below hX
        have yR := oR.below hX
        have hBy := keep_below hBc hX
        clear k9 k10 h4 h9 h10 hO hP oR hBc HC1 HC2 hHeld hX
        have k0 := y4.cell 0
        have k1 := y4.cell 1
        have k2 := y4.cell 2
        have k3 := y4.cell 3
        simp at k0 k1 k2 k3
        go_wp2_with (go_at_call 26; (with_reducible refine (boxc_call k Hw.out _).out.mono ?_); rintro e wf ⟨rfl, bf⟩; have x4 := y4.keep bf; have hBx := keep_below hBy bf)
        go_roundw
        case rel => exact ⟨i + 1, by simp [hw], by omega, by omega, x4, hBx⟩
        case measure => simp [intOf, hw]; omega
      · clear HV
        refine start_ (n := 32) (S := (fun w' => Below wc.heap.size wc w')) (ds := []) #[false, false, false, false, false, false, false, false, false, false, false, false, false, false, false, false, false, false, false, false, false, false, false, false, false, false, false, false, false, false, false, false] (by kernel_rfl) rfl rfl (Below.drew (Below.refl _ _)) (fun hHeld => ?_)
        refine with_tabW tld.tab11 tld.bits11 (fun HT_ HW_ => ?_)
        refine pure_ (i := 0) (N := some 45) (v := ?_) (a' := ?_) #[true, false, false, false, false, false, false, false, false, false, false, false, false, false, false, false, false, false, false, false, false, false, false, false, false, false, false, false, false, false, false, false] rfl rfl (any_of HT_.out (by kernel_rfl)) (fun _ _ _ h => h) (Or.inl ⟨by rfl, ?_⟩) ?_ ?_
        rotate_left
        · intro w'
          go_simp
          with_reducible rfl
        rotate_left
        · simp only [Act.put, List.setIfInBounds_toArray, List.set_cons_zero, List.set_cons_succ, i64_w, i32_w]
          rfl
        refine pure_ (i := 1) (N := some 46) (v := ?_) (a' := ?_) #[true, true, false, false, false, false, false, false, false, false, false, false, false, false, false, false, false, false, false, false, false, false, false, false, false, false, false, false, false, false, false, false] rfl rfl (any_of HT_.out (by kernel_rfl)) (fun _ _ _ h => h) (Or.inl ⟨by rfl, ?_⟩) ?_ ?_
        rotate_left
        · intro w'
          go_simp
          with_reducible rfl
        rotate_left
        · simp only [Act.put, List.setIfInBounds_toArray, List.set_cons_zero, List.set_cons_succ, i64_w, i32_w]
          rfl
        refine pure_ (i := 2) (N := some 47) (v := ?_) (a' := ?_) #[true, true, true, false, false, false, false, false, false, false, false, false, false, false, false, false, false, false, false, false, false, false, false, false, false, false, false, false, false, false, false, false] rfl rfl (any_of HT_.out (by kernel_rfl)) (fun _ _ _ h => h) (Or.inl ⟨by rfl, ?_⟩) ?_ ?_
        rotate_left
        · intro w'
          go_simp
          with_reducible rfl
        rotate_left
        · simp only [Act.put, List.setIfInBounds_toArray, List.set_cons_zero, List.set_cons_succ, i64_w, i32_w]
          rfl
        refine pure_ (i := 3) (N := some 48) (v := ?_) (a' := ?_) #[true, true, true, true, false, false, false, false, false, false, false, false, false, false, false, false, false, false, false, false, false, false, false, false, false, false, false, false, false, false, false, false] rfl rfl (any_of HT_.out (by kernel_rfl)) (fun _ _ _ h => h) (Or.inl ⟨by rfl, ?_⟩) ?_ ?_
        rotate_left
        · intro w'
          go_simp
          with_reducible rfl
        rotate_left
        · simp only [Act.put, List.setIfInBounds_toArray, List.set_cons_zero, List.set_cons_succ, i64_w, i32_w]
          rfl
        refine pure_ (i := 4) (N := some 49) (v := ?_) (a' := ?_) #[true, true, true, true, true, false, false, false, false, false, false, false, false, false, false, false, false, false, false, false, false, false, false, false, false, false, false, false, false, false, false, false] rfl rfl (any_of HT_.out (by kernel_rfl)) (fun _ _ _ h => h) (Or.inl ⟨by rfl, ?_⟩) ?_ ?_
        rotate_left
        · intro w'
          go_simp
          with_reducible rfl
        rotate_left
        · simp only [Act.put, List.setIfInBounds_toArray, List.set_cons_zero, List.set_cons_succ, i64_w, i32_w]
          rfl
        refine pure_ (i := 5) (N := some 50) (v := ?_) (a' := ?_) #[true, true, true, true, true, true, false, false, false, false, false, false, false, false, false, false, false, false, false, false, false, false, false, false, false, false, false, false, false, false, false, false] rfl rfl (any_of HT_.out (by kernel_rfl)) (fun _ _ _ h => h) (Or.inl ⟨by rfl, ?_⟩) ?_ ?_
        rotate_left
        · intro w'
          go_simp
          with_reducible rfl
        rotate_left
        · simp only [Act.put, List.setIfInBounds_toArray, List.set_cons_zero, List.set_cons_succ, i64_w, i32_w]
          rfl
        refine pure_ (i := 6) (N := some 51) (v := ?_) (a' := ?_) #[true, true, true, true, true, true, true, false, false, false, false, false, false, false, false, false, false, false, false, false, false, false, false, false, false, false, false, false, false, false, false, false] rfl rfl (any_of HT_.out (by kernel_rfl)) (fun _ _ _ h => h) (Or.inl ⟨by rfl, ?_⟩) ?_ ?_
        rotate_left
        · intro w'
          go_simp
          with_reducible rfl
        rotate_left
        · simp only [Act.put, List.setIfInBounds_toArray, List.set_cons_zero, List.set_cons_succ, i64_w, i32_w]
          rfl
        refine pure_ (i := 7) (N := some 52) (v := ?_) (a' := ?_) #[true, true, true, true, true, true, true, true, false, false, false, false, false, false, false, false, false, false, false, false, false, false, false, false, false, false, false, false, false, false, false, false] rfl rfl (any_of HT_.out (by kernel_rfl)) (fun _ _ _ h => h) (Or.inl ⟨by rfl, ?_⟩) ?_ ?_
        rotate_left
        · intro w'
          go_simp
          with_reducible rfl
        rotate_left
        · simp only [Act.put, List.setIfInBounds_toArray, List.set_cons_zero, List.set_cons_succ, i64_w, i32_w]
          rfl
        refine pure_ (i := 8) (N := some 53) (v := undef) (a' := ?_) #[true, true, true, true, true, true, true, true, true, false, false, false, false, false, false, false, false, false, false, false, false, false, false, false, false, false, false, false, false, false, false, false] rfl rfl (any_of HT_.out (by kernel_rfl)) (fun _ _ _ h => h) (Or.inr ⟨by rfl, rfl⟩) ?_ ?_
        rotate_left
        · simp only [Act.put, List.setIfInBounds_toArray, List.set_cons_zero, List.set_cons_succ]
          rfl
        refine pure_ (i := 9) (N := some 54) (v := undef) (a' := ?_) #[true, true, true, true, true, true, true, true, true, true, false, false, false, false, false, false, false, false, false, false, false, false, false, false, false, false, false, false, false, false, false, false] rfl rfl (any_of HT_.out (by kernel_rfl)) (fun _ _ _ h => h) (Or.inr ⟨by rfl, rfl⟩) ?_ ?_
        rotate_left
        · simp only [Act.put, List.setIfInBounds_toArray, List.set_cons_zero, List.set_cons_succ]
          rfl
        refine pure_ (i := 10) (N := some 55) (v := undef) (a' := ?_) #[true, true, true, true, true, true, true, true, true, true, true, false, false, false, false, false, false, false, false, false, false, false, false, false, false, false, false, false, false, false, false, false] rfl rfl (any_of HT_.out (by kernel_rfl)) (fun _ _ _ h => h) (Or.inr ⟨by rfl, rfl⟩) ?_ ?_
        rotate_left
        · simp only [Act.put, List.setIfInBounds_toArray, List.set_cons_zero, List.set_cons_succ]
          rfl
        refine pure_ (i := 11) (N := some 56) (v := undef) (a' := ?_) #[true, true, true, true, true, true, true, true, true, true, true, true, false, false, false, false, false, false, false, false, false, false, false, false, false, false, false, false, false, false, false, false] rfl rfl (any_of HT_.out (by kernel_rfl)) (fun _ _ _ h => h) (Or.inr ⟨by rfl, rfl⟩) ?_ ?_
        rotate_left
        · simp only [Act.put, List.setIfInBounds_toArray, List.set_cons_zero, List.set_cons_succ]
          rfl
        refine pure_ (i := 12) (N := some 57) (v := undef) (a' := ?_) #[true, true, true, true, true, true, true, true, true, true, true, true, true, false, false, false, false, false, false, false, false, false, false, false, false, false, false, false, false, false, false, false] rfl rfl (any_of HT_.out (by kernel_rfl)) (fun _ _ _ h => h) (Or.inr ⟨by rfl, rfl⟩) ?_ ?_
        rotate_left
        · simp only [Act.put, List.setIfInBounds_toArray, List.set_cons_zero, List.set_cons_succ]
          rfl
        refine pure_ (i := 13) (N := some 58) (v := undef) (a' := ?_) #[true, true, true, true, true, true, true, true, true, true, true, true, true, true, false, false, false, false, false, false, false, false, false, false, false, false, false, false, false, false, false, false] rfl rfl (any_of HT_.out (by kernel_rfl)) (fun _ _ _ h => h) (Or.inr ⟨by rfl, rfl⟩) ?_ ?_
        rotate_left
        · simp only [Act.put, List.setIfInBounds_toArray, List.set_cons_zero, List.set_cons_succ]
          rfl
        refine pure_ (i := 14) (N := some 59) (v := undef) (a' := ?_) #[true, true, true, true, true, true, true, true, true, true, true, true, true, true, true, false, false, false, false, false, false, false, false, false, false, false, false, false, false, false, false, false] rfl rfl (any_of HT_.out (by kernel_rfl)) (fun _ _ _ h => h) (Or.inr ⟨by rfl, rfl⟩) ?_ ?_
        rotate_left
        · simp only [Act.put, List.setIfInBounds_toArray, List.set_cons_zero, List.set_cons_succ]
          rfl
        refine pure_ (i := 15) (N := some 60) (v := undef) (a' := ?_) #[true, true, true, true, true, true, true, true, true, true, true, true, true, true, true, true, false, false, false, false, false, false, false, false, false, false, false, false, false, false, false, false] rfl rfl (any_of HT_.out (by kernel_rfl)) (fun _ _ _ h => h) (Or.inr ⟨by rfl, rfl⟩) ?_ ?_
        rotate_left
        · simp only [Act.put, List.setIfInBounds_toArray, List.set_cons_zero, List.set_cons_succ]
          rfl
        refine pure_ (i := 16) (N := some 61) (v := undef) (a' := ?_) #[true, true, true, true, true, true, true, true, true, true, true, true, true, true, true, true, true, false, false, false, false, false, false, false, false, false, false, false, false, false, false, false] rfl rfl (any_of HT_.out (by kernel_rfl)) (fun _ _ _ h => h) (Or.inr ⟨by rfl, rfl⟩) ?_ ?_
        rotate_left
        · simp only [Act.put, List.setIfInBounds_toArray, List.set_cons_zero, List.set_cons_succ]
          rfl
        refine pure_ (i := 17) (N := some 62) (v := undef) (a' := ?_) #[true, true, true, true, true, true, true, true, true, true, true, true, true, true, true, true, true, true, false, false, false, false, false, false, false, false, false, false, false, false, false, false] rfl rfl (any_of HT_.out (by kernel_rfl)) (fun _ _ _ h => h) (Or.inr ⟨by rfl, rfl⟩) ?_ ?_
        rotate_left
        · simp only [Act.put, List.setIfInBounds_toArray, List.set_cons_zero, List.set_cons_succ]
          rfl
        refine pure_ (i := 18) (N := some 63) (v := undef) (a' := ?_) #[true, true, true, true, true, true, true, true, true, true, true, true, true, true, true, true, true, true, true, false, false, false, false, false, false, false, false, false, false, false, false, false] rfl rfl (any_of HT_.out (by kernel_rfl)) (fun _ _ _ h => h) (Or.inr ⟨by rfl, rfl⟩) ?_ ?_
        rotate_left
        · simp only [Act.put, List.setIfInBounds_toArray, List.set_cons_zero, List.set_cons_succ]
          rfl
        refine pure_ (i := 19) (N := some 64) (v := ?_) (a' := ?_) #[true, true, true, true, true, true, true, true, true, true, true, true, true, true, true, true, true, true, true, true, false, false, false, false, false, false, false, false, false, false, false, false] rfl rfl (any_of HT_.out (by kernel_rfl)) (fun _ _ _ h => h) (Or.inl ⟨by rfl, ?_⟩) ?_ ?_
        rotate_left
        · intro w'
          go_simp
          with_reducible rfl
        rotate_left
        · simp only [Act.put, List.setIfInBounds_toArray, List.set_cons_zero, List.set_cons_succ, i64_w, i32_w]
          rfl
        refine pure_ (i := 20) (N := some 65) (v := ?_) (a' := ?_) #[true, true, true, true, true, true, true, true, true, true, true, true, true, true, true, true, true, true, true, true, true, false, false, false, false, false, false, false, false, false, false, false] rfl rfl (any_of HT_.out (by kernel_rfl)) (fun _ _ _ h => h) (Or.inl ⟨by rfl, ?_⟩) ?_ ?_
        rotate_left
        · intro w'
          go_simp
          with_reducible rfl
        rotate_left
        · simp only [Act.put, List.setIfInBounds_toArray, List.set_cons_zero, List.set_cons_succ, i64_w, i32_w]
          rfl
        refine pure_ (i := 21) (N := some 66) (v := ?_) (a' := ?_) #[true, true, true, true, true, true, true, true, true, true, true, true, true, true, true, true, true, true, true, true, true, true, false, false, false, false, false, false, false, false, false, false] rfl rfl (any_of HT_.out (by kernel_rfl)) (fun _ _ _ h => h) (Or.inl ⟨by rfl, ?_⟩) ?_ ?_
        rotate_left
        · intro w'
          go_simp
          with_reducible rfl
        rotate_left
        · simp only [Act.put, List.setIfInBounds_toArray, List.set_cons_zero, List.set_cons_succ, i64_w, i32_w]
          rfl
        refine take_ (i := 22) (N := some 67) (v := ?_) (a' := ?_) #[true, true, true, true, true, true, true, true, true, true, true, true, true, true, true, true, true, true, true, true, true, true, true, false, false, false, false, false, false, false, false, false] rfl rfl (take_ofW HT_.out HW_.out (by kernel_rfl)) (fun _ _ _ h => h) (Or.inl ⟨by rfl, ?_⟩) hHeld ?_ ?_
        rotate_left
        · rintro w' s0
          have m0 := keep_cell s0 k9
          have m1 := keep_cell s0 k10
          go_simp
          with_reducible rfl
        rotate_left
        · simp only [Act.put, List.setIfInBounds_toArray, List.set_cons_zero, List.set_cons_succ, i64_w, i32_w]
          rfl
        refine take_ (i := 23) (N := some 68) (v := ?_) (a' := ?_) #[true, true, true, true, true, true, true, true, true, true, true, true, true, true, true, true, true, true, true, true, true, true, true, true, false, false, false, false, false, false, false, false] rfl rfl (take_ofW HT_.out HW_.out (by kernel_rfl)) (fun _ _ _ h => h) (Or.inl ⟨by rfl, ?_⟩) hHeld ?_ ?_
        rotate_left
        · rintro w' s0
          have m0 := keep_cell s0 k9
          have m1 := keep_cell s0 k10
          go_simp
          with_reducible rfl
        rotate_left
        · simp only [Act.put, List.setIfInBounds_toArray, List.set_cons_zero, List.set_cons_succ, i64_w, i32_w]
          rfl
        refine pure_ (i := 25) (N := some 70) (v := ?_) (a' := ?_) #[true, true, true, true, true, true, true, true, true, true, true, true, true, true, true, true, true, true, true, true, true, true, true, true, false, true, false, false, false, false, false, false] rfl rfl (any_of HT_.out (by kernel_rfl)) (fun _ _ _ h => h) (Or.inl ⟨by rfl, ?_⟩) ?_ ?_
        rotate_left
        · intro w'
          go_simp
          with_reducible rfl
        rotate_left
        · simp only [Act.put, List.setIfInBounds_toArray, List.set_cons_zero, List.set_cons_succ, i64_w, i32_w]
          rfl
        refine take_ (i := 26) (N := some 71) (v := ?_) (a' := ?_) #[true, true, true, true, true, true, true, true, true, true, true, true, true, true, true, true, true, true, true, true, true, true, true, true, false, true, true, false, false, false, false, false] rfl rfl (take_ofW HT_.out HW_.out (by kernel_rfl)) (fun _ _ _ h => h) (Or.inl ⟨by rfl, ?_⟩) hHeld ?_ ?_
        rotate_left
        · rintro w' s0
          have m0 := keep_cell s0 k9
          have m1 := keep_cell s0 k10
          go_simp
          with_reducible rfl
        rotate_left
        · simp only [Act.put, List.setIfInBounds_toArray, List.set_cons_zero, List.set_cons_succ, i64_w, i32_w]
          rfl
        refine pure_ (i := 27) (N := some 72) (v := ?_) (a' := ?_) #[true, true, true, true, true, true, true, true, true, true, true, true, true, true, true, true, true, true, true, true, true, true, true, true, false, true, true, true, false, false, false, false] rfl rfl (any_of HT_.out (by kernel_rfl)) (fun _ _ _ h => h) (Or.inl ⟨by rfl, ?_⟩) ?_ ?_
        rotate_left
        · intro w'
          go_simp
          with_reducible rfl
        rotate_left
        · simp only [Act.put, List.setIfInBounds_toArray, List.set_cons_zero, List.set_cons_succ, i64_w, i32_w]
          rfl
        refine take_ (i := 28) (N := some 73) (v := ?_) (a' := ?_) #[true, true, true, true, true, true, true, true, true, true, true, true, true, true, true, true, true, true, true, true, true, true, true, true, false, true, true, true, true, false, false, false] rfl rfl (take_ofW HT_.out HW_.out (by kernel_rfl)) (fun _ _ _ h => h) (Or.inl ⟨by rfl, ?_⟩) hHeld ?_ ?_
        rotate_left
        · rintro w' s0
          have m0 := keep_cell s0 k9
          have m1 := keep_cell s0 k10
          go_simp
          with_reducible rfl
        rotate_left
        · simp only [Act.put, List.setIfInBounds_toArray, List.set_cons_zero, List.set_cons_succ, i64_w, i32_w]
          rfl
        have hX := hHeld
        refine one_ (i := 24) (N := some 69) #[true, true, true, true, true, true, true, true, true, true, true, true, true, true, true, true, true, true, true, true, true, true, true, true, true, true, true, true, true, false, false, false] rfl rfl (one_of HT_.out (by kernel_rfl)) (by decide) (fun K hK => ?_)
        refine goes_ Try.func23 (by kernel_rfl) rfl #[.agg #[.slice A9 T.length c9], .agg #[.slice A10 U.length c10]] (by rfl) rfl rfl (by (try simp only [List.map_toArray, List.map_cons, List.map_nil]); first | done | rfl) ?_
        refine (HC2.out _ hX).out.mono ?_
        rintro e_ wd ⟨rfl, hb_⟩
        refine ⟨_, rfl, ?_⟩
        replace hX := keep_below hX hb_
        clear hb_
        refine hK.out _ _ hX (fun hHeld => ?_)
        clear hK K
        refine norm_ (a' := ?_) ?_ ?_
        rotate_left
        · first | (show Act.put _ (some 69) _ = _; simp only [Act.put, List.setIfInBounds_toArray, List.set_cons_zero, List.set_cons_succ, i64_w, i32_w]; rfl) | with_reducible rfl
        refine one_ (i := 29) (N := some 74) #[true, true, true, true, true, true, true, true, true, true, true, true, true, true, true, true, true, true, true, true, true, true, true, true, true, true, true, true, true, true, false, false] rfl rfl (one_of HT_.out (by kernel_rfl)) (by decide) (fun K hK => ?_)
        refine goes_ Try.func20 (by kernel_rfl) rfl #[.slice A9 T.length c9, .slice A10 U.length c10] (by rfl) rfl rfl (by (try simp only [List.map_toArray, List.map_cons, List.map_nil]); first | done | rfl) ?_
        refine (HC1.out _ hX).out.mono ?_
        rintro e_ we ⟨rfl, hb_⟩
        refine ⟨_, rfl, ?_⟩
        replace hX := keep_below hX hb_
        clear hb_
        refine hK.out _ _ hX (fun hHeld => ?_)
        clear hK K
        refine norm_ (a' := ?_) ?_ ?_
        rotate_left
        · first | (show Act.put _ (some 74) _ = _; simp only [Act.put, List.setIfInBounds_toArray, List.set_cons_zero, List.set_cons_succ, i64_w, i32_w]; rfl) | with_reducible rfl
        refine pure_ (i := 30) (N := some 75) (v := ?_) (a' := ?_) #[true, true, true, true, true, true, true, true, true, true, true, true, true, true, true, true, true, true, true, true, true, true, true, true, true, true, true, true, true, true, true, false] rfl rfl (any_of HT_.out (by kernel_rfl)) (fun _ _ _ h => h) (Or.inl ⟨by rfl, ?_⟩) ?_ ?_
        rotate_left
        · intro w'
          go_simp
          with_reducible rfl
        rotate_left
        · simp only [Act.put, List.setIfInBounds_toArray, List.set_cons_zero, List.set_cons_succ, i64_w, i32_w]
          rfl
        refine pure_ (i := 31) (N := some 76) (v := ?_) (a' := ?_) #[true, true, true, true, true, true, true, true, true, true, true, true, true, true, true, true, true, true, true, true, true, true, true, true, true, true, true, true, true, true, true, true] rfl rfl (any_of HT_.out (by kernel_rfl)) (fun _ _ _ h => h) (Or.inl ⟨by rfl, ?_⟩) ?_ ?_
        rotate_left
        · intro w'
          go_simp
          with_reducible rfl
        rotate_left
        · simp only [Act.put, List.setIfInBounds_toArray, List.set_cons_zero, List.set_cons_succ, i64_w, i32_w]
          rfl
        refine done_ (done_of HT_.out (by kernel_rfl)) ?_
        have y4 := h4.keep hX
        have y9 := h9.keep hX
        have yO := hO.below hX
        have yR := oR.below hX
        have hBy := keep_below hBc hX
        clear k9 k10 h4 h9 h10 hO hP oR hBc HC1 HC2 hHeld hX
        have k0 := y4.cell 0
        have k1 := y4.cell 1
        have k2 := y4.cell 2
        have k3 := y4.cell 3
        simp at k0 k1 k2 k3
        have k9 := y9.cell 0
        simp at k9
        obtain ⟨M, hM⟩ : ∃ M, T.filter (meetB k) = M := ⟨_, rfl⟩
        have nM : M.length ≤ 1000 := by rw [← hM]; exact Nat.le_trans (List.length_filter_le _ _) nT
        have HC3 := Lib.hid (fun (W : World) (h : Below we.heap.size we W) => rmeetsc_call k nT (yO.CL.below h))
        simp only [hM] at HC3 yR ⊢
        clear hM
        go_wp2_with (first
          | (go_at_call 26; (with_reducible refine (boxc_call k Hw.out _).out.mono ?_); rintro e wf ⟨rfl, bf⟩; have x4 := y4.keep bf; have x9 := y9.keep bf; have xR := yR.below bf; have hBx := keep_below hBy bf; clear k0 k1 k2 k3 k9; have k0 := x4.cell 0; have k1 := x4.cell 1; have k2 := x4.cell 2; have k3 := x4.cell 3; have k9 := x9.cell 0; simp at k0 k1 k2 k3 k9)
          | (go_at_call 27; (with_reducible refine (HC3.out _ bf).out.mono ?_); rintro e wg ⟨A12, c12, rfl, oM, bg⟩; have z4 := x4.keep bg; have zR := xR.below bg; have hBg := keep_below hBx bg)
          | (go_at_call 20; (with_reducible refine (rowsc_call nM zR.CL oM.CL).out.mono ?_); rintro e wh ⟨rfl, bh⟩; have v4 := z4.keep bh; have hBh := keep_below hBg bh))
        go_roundw
        case rel => exact ⟨i + 1, by simp [hw], by omega, by omega, v4, hBh⟩
        case measure => simp [intOf, hw]; omega
    · have hd : decide ((i : Int) < (l0.length : Int)) = false := decide_eq_false (by omega)
      have p1 : ((i : Int) < (l0.length : Int)) = False := eq_false (by omega)
      rename_i hK0
      have HK0 := Lib.hid hK0
      clear hK0
      go_wp2
      refine HK0.out _ _ ?_
      exact tells_two A2 c2 l2 w _ HR2.out hB _ _ _ _ _ _ _ _ _ _ _ _ _ _ _ _ _ _ _ _ _ _ _ _ _ _ _ _ _ _ _ _ _ _ _ _ _ _ _ _ _ _ _ _ _ _ _ _ _ _ _ _ _ _ _ _ _ _ _ _ _ _ _ _ _ _ _ _ _ _ _ _ _ _ _ _ _ _ _ _ _ _ _ _ _ _ _ _ _ _ _ _ _ _ _ _ _ _ _ _ _ _ _ _ _ _ _ _ _ _ _ _ _ _ _ _ _ _ _ _ _ _ _ _ _ _ _ _ _ _ _ _ _ _ _ _ _ _ _ _ _
end Go.Proofs.Ytknlbfandkmeiaa.M
