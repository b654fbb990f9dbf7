/- What the row of this claim reaches. No condition. -/
import Derived.Test.YtfggjefncnhikaaZVG3
set_option linter.unusedVariables false
set_option linter.unusedSimpArgs false
namespace Go.Proofs.Ytfggjefncnhikaa.V
open Go.RowKit Go.Proofs.YtfggjefncnhikaaW.PrintWords Go.Proofs.YtfggjefncnhikaaW.PrintLast Go.Proofs.YtfggjefncnhikaaW.PrintMore
attribute [local go_sem high] eqA61
attribute [local go_sem] beq_self_eq_true
structure Mem (w W : World) (a : Int) (A : Option Addr) (n c : Nat) (A1 : Option Addr) (n1 c1 : Nat) (own : Int) (reads : Bool) (snap x0 x1 y0 y1 row : Int) : Prop where
  p : Blk W w.heap.size 25 #[.int .u64 a, .slice A n c]
  q : Blk W (w.heap.size + 1) 51 #[.slice A1 n1 c1]
  r : Blk W (w.heap.size + 1 + 1) 53 #[.int .u64 own, .bool reads, .int .u64 snap, .int .i64 x0, .int .i64 x1, .int .i64 y0, .int .i64 y1, .int .u32 row]
  b : Below w.heap.size w W
section
variable {w W W' : World} {a : Int} {A : Option Addr} {n c : Nat} {A1 : Option Addr} {n1 c1 : Nat} {own : Int} {reads : Bool} {snap x0 x1 y0 y1 row : Int}
theorem Mem.keep (h : Mem w W a A n c A1 n1 c1 own reads snap x0 x1 y0 y1 row) (hb : Below W.heap.size W W') : Mem w W' a A n c A1 n1 c1 own reads snap x0 x1 y0 y1 row :=
  ⟨h.p.keep hb, h.q.keep hb, h.r.keep hb, keep_below h.b hb⟩
theorem Mem.w0 (h : Mem w W a A n c A1 n1 c1 own reads snap x0 x1 y0 y1 row) : W.cell? ⟨w.heap.size, 0, none⟩ = some (.int .u64 a) ∧ W.cell? ⟨w.heap.size, 1, none⟩ = some (.slice A n c) := ⟨h.p.cell 0, h.p.cell 1⟩
theorem Mem.w1 (h : Mem w W a A n c A1 n1 c1 own reads snap x0 x1 y0 y1 row) : W.cell? ⟨w.heap.size + 1, 0, none⟩ = some (.slice A1 n1 c1) := h.q.cell 0
theorem Mem.w2 (h : Mem w W a A n c A1 n1 c1 own reads snap x0 x1 y0 y1 row) : W.cell? ⟨w.heap.size + 1 + 1, 0, none⟩ = some (.int .u64 own) ∧ W.cell? ⟨w.heap.size + 1 + 1, 1, none⟩ = some (.bool reads) ∧ W.cell? ⟨w.heap.size + 1 + 1, 2, none⟩ = some (.int .u64 snap) ∧ W.cell? ⟨w.heap.size + 1 + 1, 3, none⟩ = some (.int .i64 x0) ∧ W.cell? ⟨w.heap.size + 1 + 1, 4, none⟩ = some (.int .i64 x1) ∧ W.cell? ⟨w.heap.size + 1 + 1, 5, none⟩ = some (.int .i64 y0) ∧ W.cell? ⟨w.heap.size + 1 + 1, 6, none⟩ = some (.int .i64 y1) ∧ W.cell? ⟨w.heap.size + 1 + 1, 7, none⟩ = some (.int .u32 row) :=
  ⟨h.r.cell 0, h.r.cell 1, h.r.cell 2, h.r.cell 3, h.r.cell 4, h.r.cell 5, h.r.cell 6, h.r.cell 7⟩
end
abbrev zeroS : S61 := ⟨⟨0, 0⟩, ⟨0, 0, 0, ⟨0, 0, 0, 0⟩, 0⟩⟩
structure Ways (rb bx al th : Bool) (xs ys all inw : List S61) (e g h row : Int) (z : S61) : Prop where
  w1 : rb = false → xs = [] ∧ ys = [] ∧ e = 270 ∧ g = 270 ∧ h = 270 ∧ z = zeroS ∧ th = false
  w2 : rb = true → bx = false → g = 2 ∧ ys = []
  w3 : rb = true → al = false → xs = [] ∧ z = zeroS ∧ th = false ∧ e = 200 ∧ h = 200
  w3b : rb = true → al = false → bx = true → g = 200 ∧ ys = []
  w4 : rb = true → al = true → e = 0 ∧ h = 0
  w4b : rb = true → al = true → bx = true → g = 0
  w5 : rb = true → al = true → ∀ x, all.find? (fun x => x.f1.f0 == row) = some x → z = x ∧ th = true
  w5b : rb = true → al = true → all.find? (fun x => x.f1.f0 == row) = none → z = zeroS ∧ th = false
  w6 : all.length ≤ 300
def r8.T8 : Bool × List (List Nat × List Nat) := (true, [([], []), ([0], [0]), ([], []), ([2], [2]), ([], []), ([4, 1], [4]), ([], []), ([6], [6]), ([1, 3, 5, 7, 5], [1, 3, 5, 7]), ([8], [8]), ([9], [9]), ([9], [9]), ([9], [9]), ([], []), ([13, 10, 8, 0, 1, 2, 3, 4, 5, 6, 7, 8, 9, 10, 13], [10, 13]), ([11, 14, 0, 1, 2, 3, 4, 5, 6, 7, 8, 9, 10, 11, 13, 14], [11]), ([12, 15, 0, 1, 2, 3, 4, 5, 6, 7, 8, 9, 10, 11, 12, 13, 14, 15], [12])])
def r8.B8 : List Nat := [0, 1, 0, 4, 0, 19, 0, 64, 255, 511, 1023, 1023, 1023, 0, 10239, 28671, 65535]
theorem r8.tab8 : rtab .any (opsOf Try.f8 8) = r8.T8 := by kernel_rfl
theorem r8.bits8 : waitsOk r8.T8.2 r8.B8 = true := by kernel_rfl
section
set_option maxHeartbeats 8000000 in
set_option maxRecDepth 100000 in
theorem reg8_any (a0_0 : Int) (A0_1 : Option Addr) (c0_1 : Nat) (l0_1 : List S44) (A1 : Option Addr) (c1 : Nat) (l1 : List S61) (own : Int) (reads : Bool) (snap x0 x1 y0 y1 row : Int) (w : World) (xs ys : List S61) (e g h : Int) (z : S61) (th : Bool) (Ax : Option Addr) (cx : Nat) (Ay : Option Addr) (cy : Nat) (wy : World) (u12 u13 u14 u15 u16 u17 u18 u19 u20 u21 u22 u23 u24 u25 u26 u27 u28 u29 u30 u31 u32 u33 u34 u35 u36 u37 u38 u39 u40 u41 u42 u43 u44 u45 u46 u47 u48 u49 u50 u51 u52 u53 u54 u55 u56 u57 u58 u59 u60 u61 u62 u63 u64 u65 u66 u67 u68 u69 u70 u71 u72 u73 u74 u75 u76 u77 u78 u79 u80 u81 u82 u83 u84 u85 u86 u87 u88 u89 u90 u91 u92 u93 u94 u95 u96 u97 u98 u99 u100 u101 u102 u103 u104 u105 u106 u107 u108 u109 u110 u111 u112 u113 u114 u115 u116 u117 u118 u119 u120 u121 u122 u123 u124 u125 u126 u127 u128 u129 u130 u131 u132 u133 u134 u135 u136 u137 u138 u139 u140 u141 u142 u143 u144 u145 u146 u147 u148 u149 u150 u151 u152 u153 u154 u155 u156 u157 u158 u159 u160 u161 u162 u163 u164 u165 u166 u167 u168 u169 u170 u171 u172 u173 u174 u175 u176 u177 u178 u179 u180 u181 u182 u183 u184 u185 u186 u187 u188 u189 u190 u191 u192 u193 u194 u195 u196 u197 u198 u199 u200 u201 u202 u203 u204 u205 u206 u207 u208 : Value)
    (hcp : ∀ W, Below w.heap.size w W → Hid (Calls Try.prog 11 #[.agg #[.int .u64 a0_0, .slice A0_1 l0_1.length c0_1]] W fun e w' => ∃ v1_ : Value, e = .returned (.agg #[.int .u64 a0_0, v1_]) ∧ Kd.R k44 44 w' W.heap.size (fun _ => True) v1_ l0_1 ∧ Below W.heap.size W w'))
    (how : ∀ W, Below w.heap.size w W → W.cell? ⟨w.heap.size + 1, 0, none⟩ = some (.slice A1 l1.length c1) → Hid (Calls Try.prog 20 #[.pointer (some ⟨w.heap.size + 1, 0, none⟩)] W fun e w' => ∃ v : Value, e = .returned v ∧ Kd.R k61 61 w' W.heap.size (fun _ => True) v l1 ∧ Below W.heap.size W w'))
    (hon : ∀ (A0 : Option Addr) (c0 : Nat) (A2 : Option Addr) (c2 : Nat) (W : World), Kd.C k44 W A0 l0_1.length l0_1 → l0_1.length ≤ c0 → Kd.C k61 W A2 l1.length l1 → l1.length ≤ c2 → Hid (Calls Try.prog 23 #[.agg #[.int .u64 a0_0, .slice A0 l0_1.length c0], .agg #[.int .u64 own, .bool reads, .int .u64 snap], .slice A2 l1.length c2, .int .u32 row] W fun e w' => e = .returned (.tuple #[stored z, .bool th, .int .i64 h]) ∧ Below W.heap.size W w'))
    (hMy : Mem w wy a0_0 A0_1 l0_1.length c0_1 A1 l1.length c1 own reads snap x0 x1 y0 y1 row) (K : Act → World → Prop)
    (hK : ∀ (gz : Nat) (wz : World) (v15 v16 v17 : Value) (u18 u19 u20 u21 u22 u23 u24 u25 u26 u27 u28 u29 u30 u31 u32 u33 u34 u35 u36 u37 u38 u39 u40 u41 u42 u43 u44 u45 u46 u47 u48 u49 u50 u51 u52 u53 u54 u55 u56 u57 u58 u59 u60 u61 u62 u63 u64 u65 u66 u67 u68 u69 u70 u71 u72 u73 u74 u75 u76 u77 u78 u79 u80 u81 u82 u83 u84 u85 u86 u87 u88 u89 u90 u91 u92 u93 u94 u95 u96 u97 u98 u99 u100 u101 u102 u103 u104 u105 u106 u107 u108 u109 u110 u111 u112 u113 u114 u115 u116 u117 u118 u119 u120 u121 u122 u123 u124 u125 u126 u127 u128 u129 u130 u131 u132 u133 u134 u135 u136 u137 u138 u139 u140 u141 u142 u143 u144 u145 u146 u147 u148 u149 u150 u151 u152 u153 u154 u155 u156 u157 u158 u159 u160 u161 u162 u163 u164 u165 u166 u167 u168 u169 u170 u171 u172 u173 u174 u175 u176 u177 u178 u179 u180 u181 u182 u183 u184 u185 u186 u187 u188 u189 u190 u191 u192 u193 u194 u195 u196 u197 u198 u199 u200 u201 u202 u203 u204 u205 u206 u207 u208 : Value), Blk wz gz 61 (cellsOf z).toArray → wy.heap.size ≤ gz → Below wy.heap.size wy wz → K ⟨#[.agg #[.int .u64 a0_0, .slice A0_1 l0_1.length c0_1], .slice A1 l1.length c1, .agg #[.int .u64 own, .bool reads, .int .u64 snap, .int .i64 x0, .int .i64 x1, .int .i64 y0, .int .i64 y1, .int .u32 row], .pointer (some ⟨w.heap.size, 0, none⟩), .pointer (some ⟨w.heap.size + 1, 0, none⟩), .pointer (some ⟨w.heap.size + 1 + 1, 0, none⟩), .bool false, .func (.func 20) #[] #[.pointer (some ⟨w.heap.size + 1, 0, none⟩)], .slice Ax xs.length cx, .int .i64 e, .slice Ay ys.length cy, .int .i64 g, .pointer (some ⟨gz, 0, none⟩), .bool th, .int .i64 h, v15, v16, v17, u18, u19, u20, u21, u22, u23, u24, u25, u26, u27, u28, u29, u30, u31, u32, u33, u34, u35, u36, u37, u38, u39, u40, u41, u42, u43, u44, u45, u46, u47, u48, u49, u50, u51, u52, u53, u54, u55, u56, u57, u58, u59, u60, u61, u62, u63, u64, u65, u66, u67, u68, u69, u70, u71, u72, u73, u74, u75, u76, u77, u78, u79, u80, u81, u82, u83, u84, u85, u86, u87, u88, u89, u90, u91, u92, u93, u94, u95, u96, u97, u98, u99, u100, u101, u102, u103, u104, u105, u106, u107, u108, u109, u110, u111, u112, u113, u114, u115, u116, u117, u118, u119, u120, u121, u122, u123, u124, u125, u126, u127, u128, u129, u130, u131, u132, u133, u134, u135, u136, u137, u138, u139, u140, u141, u142, u143, u144, u145, u146, u147, u148, u149, u150, u151, u152, u153, u154, u155, u156, u157, u158, u159, u160, u161, u162, u163, u164, u165, u166, u167, u168, u169, u170, u171, u172, u173, u174, u175, u176, u177, u178, u179, u180, u181, u182, u183, u184, u185, u186, u187, u188, u189, u190, u191, u192, u193, u194, u195, u196, u197, u198, u199, u200, u201, u202, u203, u204, u205, u206, u207, u208], []⟩ wz) :
    (Code.region 8 #[{ dst := some 53, op := Go.Op.load 25 (Go.Operand.tmp 3), type := 25, pos := "law.go:66", after := #[], guard := none }, { dst := some 54, op := Go.Op.call { callee := Go.Callee.value (Go.Operand.func 11), args := #[Go.Operand.tmp 53], argTypes := #[25] }, type := 25, pos := "law.go:66", after := #[{ on := 0, ground := Go.Ground.data }], guard := none }, { dst := some 55, op := Go.Op.fieldAddr 53 (Go.Operand.tmp 5) 0, type := 0, pos := "law.go:66", after := #[], guard := none }, { dst := some 56, op := Go.Op.load 27 (Go.Operand.tmp 55), type := 27, pos := "law.go:66", after := #[{ on := 2, ground := Go.Ground.data }], guard := none }, { dst := some 57, op := Go.Op.move (Go.Operand.tmp 7), type := 54, pos := "law.go:66", after := #[], guard := none }, { dst := some 58, op := Go.Op.call { callee := Go.Callee.value (Go.Operand.tmp 57), args := #[], argTypes := #[] }, type := 51, pos := "law.go:66", after := #[{ on := 4, ground := Go.Ground.data }, { on := 1, ground := Go.Ground.chain }], guard := none }, { dst := some 59, op := Go.Op.fieldAddr 53 (Go.Operand.tmp 5) 2, type := 0, pos := "law.go:66", after := #[], guard := none }, { dst := some 60, op := Go.Op.load 28 (Go.Operand.tmp 59), type := 28, pos := "law.go:66", after := #[{ on := 6, ground := Go.Ground.data }], guard := none }, { dst := some 61, op := Go.Op.call { callee := Go.Callee.value (Go.Operand.func 23), args := #[Go.Operand.tmp 54, Go.Operand.tmp 56, Go.Operand.tmp 58, Go.Operand.tmp 60], argTypes := #[25, 27, 51, 28] }, type := 62, pos := "law.go:66", after := #[{ on := 1, ground := Go.Ground.data }, { on := 3, ground := Go.Ground.data }, { on := 5, ground := Go.Ground.data }, { on := 7, ground := Go.Ground.data }, { on := 5, ground := Go.Ground.chain }], guard := none }, { dst := some 52, op := Go.Op.move (Go.Operand.tmp 61), type := 62, pos := "law.go:66", after := #[{ on := 8, ground := Go.Ground.data }], guard := none }, { dst := some 62, op := Go.Op.extract (Go.Operand.tmp 52) 0, type := 61, pos := "law.go:66", after := #[{ on := 9, ground := Go.Ground.data }], guard := none }, { dst := some 63, op := Go.Op.extract (Go.Operand.tmp 52) 1, type := 4, pos := "law.go:66", after := #[{ on := 9, ground := Go.Ground.data }, { on := 14, ground := Go.Ground.gcOnly Go.Departure.lateStores }], guard := none }, { dst := some 64, op := Go.Op.extract (Go.Operand.tmp 52) 2, type := 34, pos := "law.go:66", after := #[{ on := 9, ground := Go.Ground.data }, { on := 15, ground := Go.Ground.gcOnly Go.Departure.lateStores }], guard := none }, { dst := some 12, op := Go.Op.alloc 61, type := 0, pos := "law.go:66", after := #[], guard := none }, { dst := none, op := Go.Op.store 61 (Go.Operand.tmp 12) (Go.Operand.tmp 62), type := 0, pos := "law.go:66", after := #[{ on := 13, ground := Go.Ground.data }, { on := 10, ground := Go.Ground.data }, { on := 8, ground := Go.Ground.chain }, { on := 0, ground := Go.Ground.phase }, { on := 1, ground := Go.Ground.phase }, { on := 2, ground := Go.Ground.phase }, { on := 3, ground := Go.Ground.phase }, { on := 4, ground := Go.Ground.phase }, { on := 5, ground := Go.Ground.phase }, { on := 6, ground := Go.Ground.phase }, { on := 7, ground := Go.Ground.phase }, { on := 8, ground := Go.Ground.phase }, { on := 9, ground := Go.Ground.phase }, { on := 10, ground := Go.Ground.phase }, { on := 11, ground := Go.Ground.textOnly Go.Departure.lateStores }, { on := 12, ground := Go.Ground.textOnly Go.Departure.lateStores }, { on := 13, ground := Go.Ground.phase }], guard := none }, { dst := some 13, op := Go.Op.assign (Go.Operand.tmp 63), type := 4, pos := "law.go:66", after := #[{ on := 11, ground := Go.Ground.data }, { on := 14, ground := Go.Ground.chain }, { on := 0, ground := Go.Ground.phase }, { on := 1, ground := Go.Ground.phase }, { on := 2, ground := Go.Ground.phase }, { on := 3, ground := Go.Ground.phase }, { on := 4, ground := Go.Ground.phase }, { on := 5, ground := Go.Ground.phase }, { on := 6, ground := Go.Ground.phase }, { on := 7, ground := Go.Ground.phase }, { on := 8, ground := Go.Ground.phase }, { on := 9, ground := Go.Ground.phase }, { on := 10, ground := Go.Ground.phase }, { on := 11, ground := Go.Ground.phase }, { on := 12, ground := Go.Ground.textOnly Go.Departure.lateStores }, { on := 13, ground := Go.Ground.phase }, { on := 14, ground := Go.Ground.phase }], guard := none }, { dst := some 14, op := Go.Op.assign (Go.Operand.tmp 64), type := 34, pos := "law.go:66", after := #[{ on := 12, ground := Go.Ground.data }, { on := 15, ground := Go.Ground.chain }, { on := 0, ground := Go.Ground.phase }, { on := 1, ground := Go.Ground.phase }, { on := 2, ground := Go.Ground.phase }, { on := 3, ground := Go.Ground.phase }, { on := 4, ground := Go.Ground.phase }, { on := 5, ground := Go.Ground.phase }, { on := 6, ground := Go.Ground.phase }, { on := 7, ground := Go.Ground.phase }, { on := 8, ground := Go.Ground.phase }, { on := 9, ground := Go.Ground.phase }, { on := 10, ground := Go.Ground.phase }, { on := 11, ground := Go.Ground.phase }, { on := 12, ground := Go.Ground.phase }, { on := 13, ground := Go.Ground.phase }, { on := 14, ground := Go.Ground.phase }, { on := 15, ground := Go.Ground.phase }], guard := none }] true).wp Try.prog (Exit.then K (bodyPost Try.prog Try.f8 fun e w' => e = .returned (.bool true) ∧ Below w.heap.size w w')) ⟨#[.agg #[.int .u64 a0_0, .slice A0_1 l0_1.length c0_1], .slice A1 l1.length c1, .agg #[.int .u64 own, .bool reads, .int .u64 snap, .int .i64 x0, .int .i64 x1, .int .i64 y0, .int .i64 y1, .int .u32 row], .pointer (some ⟨w.heap.size, 0, none⟩), .pointer (some ⟨w.heap.size + 1, 0, none⟩), .pointer (some ⟨w.heap.size + 1 + 1, 0, none⟩), .bool false, .func (.func 20) #[] #[.pointer (some ⟨w.heap.size + 1, 0, none⟩)], .slice Ax xs.length cx, .int .i64 e, .slice Ay ys.length cy, .int .i64 g, u12, u13, u14, u15, u16, u17, u18, u19, u20, u21, u22, u23, u24, u25, u26, u27, u28, u29, u30, u31, u32, u33, u34, u35, u36, u37, u38, u39, u40, u41, u42, u43, u44, u45, u46, u47, u48, u49, u50, u51, u52, u53, u54, u55, u56, u57, u58, u59, u60, u61, u62, u63, u64, u65, u66, u67, u68, u69, u70, u71, u72, u73, u74, u75, u76, u77, u78, u79, u80, u81, u82, u83, u84, u85, u86, u87, u88, u89, u90, u91, u92, u93, u94, u95, u96, u97, u98, u99, u100, u101, u102, u103, u104, u105, u106, u107, u108, u109, u110, u111, u112, u113, u114, u115, u116, u117, u118, u119, u120, u121, u122, u123, u124, u125, u126, u127, u128, u129, u130, u131, u132, u133, u134, u135, u136, u137, u138, u139, u140, u141, u142, u143, u144, u145, u146, u147, u148, u149, u150, u151, u152, u153, u154, u155, u156, u157, u158, u159, u160, u161, u162, u163, u164, u165, u166, u167, u168, u169, u170, u171, u172, u173, u174, u175, u176, u177, u178, u179, u180, u181, u182, u183, u184, u185, u186, u187, u188, u189, u190, u191, u192, u193, u194, u195, u196, u197, u198, u199, u200, u201, u202, u203, u204, u205, u206, u207, u208], []⟩ wy := by
  have HM := Lib.hid hMy
  obtain ⟨k0, k1⟩ := hMy.w0
  have k2 := hMy.w1
  obtain ⟨k3, k4, k5, k6, k7, k8, k9, k10⟩ := hMy.w2
  have hM : Hid (Mem w wy a0_0 A0_1 l0_1.length c0_1 A1 l1.length c1 own reads snap x0 x1 y0 y1 row) := HM
  clear hMy HM
  refine start_ (n := 17) (S := (fun w' => Below wy.heap.size wy w')) (ds := [14]) #[false, false, false, false, false, false, false, false, false, false, false, false, false, false, false, false, false] (by kernel_rfl) rfl rfl (Below.drew (Below.refl _ _)) (fun hHeld => ?_)
  refine with_tabW r8.tab8 r8.bits8 (fun HT_ HW_ => ?_)
  refine take_ (i := 0) (N := some 53) (v := ?_) (a' := ?_) #[true, false, false, false, false, false, false, false, false, false, false, false, false, false, false, false, false] rfl rfl (take_ofW HT_.out HW_.out (by kernel_rfl)) (fun _ _ _ h => h) (Or.inl ⟨by rfl, ?_⟩) hHeld ?_ ?_
  rotate_left
  · rintro w' s0
    have j0 := keep_cell s0 k0
    have j1 := keep_cell s0 k1
    have j2 := keep_cell s0 k2
    have j3 := keep_cell s0 k3
    have j4 := keep_cell s0 k4
    have j5 := keep_cell s0 k5
    have j6 := keep_cell s0 k10
    go_simp
    with_reducible rfl
  rotate_left
  · simp only [Act.put, List.setIfInBounds_toArray, List.set_cons_zero, List.set_cons_succ, i64_w, i32_w]
    rfl
  refine pure_ (i := 2) (N := some 55) (v := ?_) (a' := ?_) #[true, false, true, false, false, false, false, false, false, false, false, false, false, false, false, false, false] rfl rfl (any_of HT_.out (by kernel_rfl)) (fun _ _ _ h => h) (Or.inl ⟨by rfl, ?_⟩) ?_ ?_
  rotate_left
  · intro w'
    go_simp
    with_reducible rfl
  rotate_left
  · simp only [Act.put, List.setIfInBounds_toArray, List.set_cons_zero, List.set_cons_succ, i64_w, i32_w]
    rfl
  refine take_ (i := 3) (N := some 56) (v := ?_) (a' := ?_) #[true, false, true, true, false, false, false, false, false, false, false, false, false, false, false, false, false] rfl rfl (take_ofW HT_.out HW_.out (by kernel_rfl)) (fun _ _ _ h => h) (Or.inl ⟨by rfl, ?_⟩) hHeld ?_ ?_
  rotate_left
  · rintro w' s0
    have j0 := keep_cell s0 k0
    have j1 := keep_cell s0 k1
    have j2 := keep_cell s0 k2
    have j3 := keep_cell s0 k3
    have j4 := keep_cell s0 k4
    have j5 := keep_cell s0 k5
    have j6 := keep_cell s0 k10
    go_simp
    with_reducible rfl
  rotate_left
  · simp only [Act.put, List.setIfInBounds_toArray, List.set_cons_zero, List.set_cons_succ, i64_w, i32_w]
    rfl
  refine pure_ (i := 4) (N := some 57) (v := ?_) (a' := ?_) #[true, false, true, true, true, false, false, false, false, false, false, false, false, false, false, false, false] rfl rfl (any_of HT_.out (by kernel_rfl)) (fun _ _ _ h => h) (Or.inl ⟨by rfl, ?_⟩) ?_ ?_
  rotate_left
  · intro w'
    go_simp
    with_reducible rfl
  rotate_left
  · simp only [Act.put, List.setIfInBounds_toArray, List.set_cons_zero, List.set_cons_succ, i64_w, i32_w]
    rfl
  refine pure_ (i := 6) (N := some 59) (v := ?_) (a' := ?_) #[true, false, true, true, true, false, true, false, false, false, false, false, false, false, false, false, false] rfl rfl (any_of HT_.out (by kernel_rfl)) (fun _ _ _ h => h) (Or.inl ⟨by rfl, ?_⟩) ?_ ?_
  rotate_left
  · intro w'
    go_simp
    with_reducible rfl
  rotate_left
  · simp only [Act.put, List.setIfInBounds_toArray, List.set_cons_zero, List.set_cons_succ, i64_w, i32_w]
    rfl
  refine take_ (i := 7) (N := some 60) (v := ?_) (a' := ?_) #[true, false, true, true, true, false, true, true, false, false, false, false, false, false, false, false, false] rfl rfl (take_ofW HT_.out HW_.out (by kernel_rfl)) (fun _ _ _ h => h) (Or.inl ⟨by rfl, ?_⟩) hHeld ?_ ?_
  rotate_left
  · rintro w' s0
    have j0 := keep_cell s0 k0
    have j1 := keep_cell s0 k1
    have j2 := keep_cell s0 k2
    have j3 := keep_cell s0 k3
    have j4 := keep_cell s0 k4
    have j5 := keep_cell s0 k5
    have j6 := keep_cell s0 k10
    go_simp
    with_reducible rfl
  rotate_left
  · simp only [Act.put, List.setIfInBounds_toArray, List.set_cons_zero, List.set_cons_succ, i64_w, i32_w]
    rfl
  have hB := hHeld
  refine two_ (i := 1) (j := 13) (Ni := some 54) (Nj := some 12) #[true, true, true, true, true, false, true, true, false, false, false, false, false, false, false, false, false] #[true, false, true, true, true, false, true, true, false, false, false, false, false, true, false, false, false] rfl rfl rfl rfl (two_of HT_.out (by kernel_rfl)) (by decide) (by decide) (fun K hK => ?_) (fun K hK => ?_)
  · skip
    refine goes_ Try.func11 (by kernel_rfl) rfl #[.agg #[.int .u64 a0_0, .slice A0_1 l0_1.length c0_1]] (by rfl) rfl rfl (by (try simp only [List.map_toArray, List.map_cons, List.map_nil]); first | done | rfl) ?_
    refine (hcp _ (keep_below hM.out.b hB)).out.mono ?_
    rintro e w2 ⟨v1, rfl, hv1, hb2⟩
    refine ⟨_, rfl, ?_⟩
    obtain ⟨Ac, cc, rfl, hcc, hCc⟩ := Kd.R_reads hv1
    clear hv1
    replace hB := keep_below hB hb2
    clear hb2
    refine hK.out _ _ hB (fun hHeld => ?_)
    clear hK K
    refine norm_ (a' := ?_) ?_ ?_
    rotate_left
    · first | (show Act.put _ (some 54) _ = _; simp only [Act.put, List.setIfInBounds_toArray, List.set_cons_zero, List.set_cons_succ, i64_w, i32_w]; rfl) | with_reducible rfl
    refine two_ (i := 5) (j := 13) (Ni := some 58) (Nj := some 12) #[true, true, true, true, true, true, true, true, false, false, false, false, false, false, false, false, false] #[true, true, true, true, true, false, true, true, false, false, false, false, false, true, false, false, false] rfl rfl rfl rfl (two_of HT_.out (by kernel_rfl)) (by decide) (by decide) (fun K hK => ?_) (fun K hK => ?_)
    · skip
      refine goesC0 Try.func20 (by kernel_rfl) rfl #[.pointer (some ⟨w.heap.size + 1, 0, none⟩)] (by rfl) rfl rfl (by rfl) ?_
      refine ((how _ (keep_below hM.out.b hB) (keep_cell hB hM.out.w1)).out).mono ?_
      rintro e w2 ⟨v1, rfl, hv1, hb2⟩
      refine ⟨_, rfl, ?_⟩
      obtain ⟨Ao, co, rfl, hco, hCo⟩ := Kd.R_reads hv1
      clear hv1
      replace hB := keep_below hB hb2
      replace hCc := Kd.C_below hCc hb2
      clear hb2
      refine hK.out _ _ hB (fun hHeld => ?_)
      clear hK K
      refine norm_ (a' := ?_) ?_ ?_
      rotate_left
      · first | (show Act.put _ (some 58) _ = _; simp only [Act.put, List.setIfInBounds_toArray, List.set_cons_zero, List.set_cons_succ, i64_w, i32_w]; rfl) | with_reducible rfl
      refine two_ (i := 8) (j := 13) (Ni := some 61) (Nj := some 12) #[true, true, true, true, true, true, true, true, true, false, false, false, false, false, false, false, false] #[true, true, true, true, true, true, true, true, false, false, false, false, false, true, false, false, false] rfl rfl rfl rfl (two_of HT_.out (by kernel_rfl)) (by decide) (by decide) (fun K hK => ?_) (fun K hK => ?_)
      · skip
        refine goes_ Try.func23 (by kernel_rfl) rfl #[.agg #[.int .u64 a0_0, .slice Ac l0_1.length cc], .agg #[.int .u64 own, .bool reads, .int .u64 snap], .slice Ao l1.length co, .int .u32 row] (by rfl) rfl rfl (by (try simp only [List.map_toArray, List.map_cons, List.map_nil]); first | done | rfl) ?_
        refine ((hon Ac cc Ao co _ hCc hcc hCo hco).out).mono ?_
        rintro e w2 ⟨rfl, hb2⟩
        refine ⟨_, rfl, ?_⟩
        clear hCc hCo
        replace hB := keep_below hB hb2
        clear hb2
        refine hK.out _ _ hB (fun hHeld => ?_)
        clear hK K
        refine norm_ (a' := ?_) ?_ ?_
        rotate_left
        · first | (show Act.put _ (some 61) _ = _; simp only [Act.put, List.setIfInBounds_toArray, List.set_cons_zero, List.set_cons_succ, i64_w, i32_w]; rfl) | with_reducible rfl
        refine pure_ (i := 9) (N := some 52) (v := ?_) (a' := ?_) #[true, true, true, true, true, true, true, true, true, true, false, false, false, false, false, false, false] rfl rfl (any_of HT_.out (by kernel_rfl)) (fun _ _ _ h => h) (Or.inl ⟨by rfl, ?_⟩) ?_ ?_
        rotate_left
        · intro w'
          go_simp
          with_reducible rfl
        rotate_left
        · simp only [Act.put, List.setIfInBounds_toArray, List.set_cons_zero, List.set_cons_succ, i64_w, i32_w]
          rfl
        refine pure_ (i := 10) (N := some 62) (v := ?_) (a' := ?_) #[true, true, true, true, true, true, true, true, true, true, true, false, false, false, false, false, false] rfl rfl (any_of HT_.out (by kernel_rfl)) (fun _ _ _ h => h) (Or.inl ⟨by rfl, ?_⟩) ?_ ?_
        rotate_left
        · intro w'
          go_simp
          with_reducible rfl
        rotate_left
        · simp only [Act.put, List.setIfInBounds_toArray, List.set_cons_zero, List.set_cons_succ, i64_w, i32_w]
          rfl
        refine pure_ (i := 11) (N := some 63) (v := ?_) (a' := ?_) #[true, true, true, true, true, true, true, true, true, true, true, true, false, false, false, false, false] rfl rfl (any_of HT_.out (by kernel_rfl)) (fun _ _ _ h => h) (Or.inl ⟨by rfl, ?_⟩) ?_ ?_
        rotate_left
        · intro w'
          go_simp
          with_reducible rfl
        rotate_left
        · simp only [Act.put, List.setIfInBounds_toArray, List.set_cons_zero, List.set_cons_succ, i64_w, i32_w]
          rfl
        refine pure_ (i := 12) (N := some 64) (v := ?_) (a' := ?_) #[true, true, true, true, true, true, true, true, true, true, true, true, true, false, false, false, false] rfl rfl (any_of HT_.out (by kernel_rfl)) (fun _ _ _ h => h) (Or.inl ⟨by rfl, ?_⟩) ?_ ?_
        rotate_left
        · intro w'
          go_simp
          with_reducible rfl
        rotate_left
        · simp only [Act.put, List.setIfInBounds_toArray, List.set_cons_zero, List.set_cons_succ, i64_w, i32_w]
          rfl
        refine one_ (i := 13) (N := some 12) #[true, true, true, true, true, true, true, true, true, true, true, true, true, true, false, false, false] rfl rfl (one_of HT_.out (by kernel_rfl)) (by decide) (fun K hK => ?_)
        refine box_step ?hg (N := 12) ?hd (cs := zeroC) (t := 61) ?hr ?_; (case hd => rfl); (case hg => rfl); (case hr => first | (go_simp; done) | (go_simp; rfl))
        intro gz hg_ w1_ b_z0 hb_
        have l_z : wy.heap.size ≤ gz := by rw [hg_]; exact hB.size
        have b_z : Blk w1_ gz 61 zeroC := b_z0
        clear b_z0
        replace hB := keep_below hB hb_
        clear hb_ hg_
        refine hK.out _ _ hB (fun hHeld => ?_)
        clear hK K
        refine norm_ (a' := ?_) ?_ ?_
        rotate_left
        · first | (show Act.put _ (some 12) _ = _; simp only [Act.put, List.setIfInBounds_toArray, List.set_cons_zero, List.set_cons_succ, i64_w, i32_w]; rfl) | with_reducible rfl
        clear hHeld
        have u0 := b_z.cell 0
        have u1 := b_z.cell 1
        have u2 := b_z.cell 2
        have u3 := b_z.cell 3
        have u4 := b_z.cell 4
        have u5 := b_z.cell 5
        have u6 := b_z.cell 6
        have u7 := b_z.cell 7
        have u8 := b_z.cell 8
        have u9 := b_z.cell 9
        have z0 := b_z.frozen 0
        have z1 := b_z.frozen 1
        have z2 := b_z.frozen 2
        have z3 := b_z.frozen 3
        have z4 := b_z.frozen 4
        have z5 := b_z.frozen 5
        have z6 := b_z.frozen 6
        have z7 := b_z.frozen 7
        have z8 := b_z.frozen 8
        have z9 := b_z.frozen 9
        simp at u0 u1 u2 u3 u4 u5 u6 u7 u8 u9
        refine last_ (i := 14) (N := none) #[true, true, true, true, true, true, true, true, true, true, true, true, true, true, true, false, false] rfl rfl (one_of HT_.out (by kernel_rfl)) (by decide) (fun K hK => ?_)
        refine skip_ (w1 := ?_) (by rfl) rfl ?_ ?_
        rotate_left
        · go_simp
          with_reducible rfl
        refine hK.out _ _ ?_
        clear hK K
        clear u0 z0 u1 z1 u2 z2 u3 z3 u4 z4 u5 z5 u6 z6 u7 z7 u8 z8 u9 z9
        replace hB := below10 z hB l_z
        replace b_z := set10 z b_z
        refine pure_ (i := 15) (N := some 13) (v := ?_) (a' := ?_) #[true, true, true, true, true, true, true, true, true, true, true, true, true, true, true, true, false] rfl rfl (any_of HT_.out (by kernel_rfl)) (fun _ _ _ h => h) (Or.inl ⟨by rfl, ?_⟩) ?_ ?_
        rotate_left
        · intro w'
          go_simp
          with_reducible rfl
        rotate_left
        · simp only [Act.put, List.setIfInBounds_toArray, List.set_cons_zero, List.set_cons_succ, i64_w, i32_w]
          rfl
        refine pure_ (i := 16) (N := some 14) (v := ?_) (a' := ?_) #[true, true, true, true, true, true, true, true, true, true, true, true, true, true, true, true, true] rfl rfl (any_of HT_.out (by kernel_rfl)) (fun _ _ _ h => h) (Or.inl ⟨by rfl, ?_⟩) ?_ ?_
        rotate_left
        · intro w'
          go_simp
          with_reducible rfl
        rotate_left
        · simp only [Act.put, List.setIfInBounds_toArray, List.set_cons_zero, List.set_cons_succ, i64_w, i32_w]
          rfl
        refine done_ (done_of HT_.out (by kernel_rfl)) ?_
        exact hK _ _ _ _ _ _ _ _ _ _ _ _ _ _ _ _ _ _ _ _ _ _ _ _ _ _ _ _ _ _ _ _ _ _ _ _ _ _ _ _ _ _ _ _ _ _ _ _ _ _ _ _ _ _ _ _ _ _ _ _ _ _ _ _ _ _ _ _ _ _ _ _ _ _ _ _ _ _ _ _ _ _ _ _ _ _ _ _ _ _ _ _ _ _ _ _ _ _ _ _ _ _ _ _ _ _ _ _ _ _ _ _ _ _ _ _ _ _ _ _ _ _ _ _ _ _ _ _ _ _ _ _ _ _ _ _ _ _ _ _ _ _ _ _ _ _ _ _ _ _ _ _ _ _ _ _ _ _ _ _ _ _ _ _ _ _ _ _ _ _ _ _ _ _ _ _ _ _ _ _ _ _ _ _ _ _ _ _ _ _ _ _ _ _ _ _ b_z l_z hB
      · skip
        refine box_step ?hg (N := 12) ?hd (cs := zeroC) (t := 61) ?hr ?_; (case hd => rfl); (case hg => rfl); (case hr => first | (go_simp; done) | (go_simp; rfl))
        intro gz hg_ w1_ b_z0 hb_
        have l_z : wy.heap.size ≤ gz := by rw [hg_]; exact hB.size
        have b_z : Blk w1_ gz 61 zeroC := b_z0
        clear b_z0
        replace hB := keep_below hB hb_
        replace hCc := Kd.C_below hCc hb_
        replace hCo := Kd.C_below hCo hb_
        clear hb_ hg_
        refine hK.out _ _ hB (fun hHeld => ?_)
        clear hK K
        refine norm_ (a' := ?_) ?_ ?_
        rotate_left
        · first | (show Act.put _ (some 12) _ = _; simp only [Act.put, List.setIfInBounds_toArray, List.set_cons_zero, List.set_cons_succ, i64_w, i32_w]; rfl) | with_reducible rfl
        refine one_ (i := 8) (N := some 61) #[true, true, true, true, true, true, true, true, true, false, false, false, false, true, false, false, false] rfl rfl (one_of HT_.out (by kernel_rfl)) (by decide) (fun K hK => ?_)
        refine goes_ Try.func23 (by kernel_rfl) rfl #[.agg #[.int .u64 a0_0, .slice Ac l0_1.length cc], .agg #[.int .u64 own, .bool reads, .int .u64 snap], .slice Ao l1.length co, .int .u32 row] (by rfl) rfl rfl (by (try simp only [List.map_toArray, List.map_cons, List.map_nil]); first | done | rfl) ?_
        refine ((hon Ac cc Ao co _ hCc hcc hCo hco).out).mono ?_
        rintro e w2 ⟨rfl, hb2⟩
        refine ⟨_, rfl, ?_⟩
        clear hCc hCo
        replace hB := keep_below hB hb2
        replace b_z := b_z.keep hb2
        clear hb2
        refine hK.out _ _ hB (fun hHeld => ?_)
        clear hK K
        refine norm_ (a' := ?_) ?_ ?_
        rotate_left
        · first | (show Act.put _ (some 61) _ = _; simp only [Act.put, List.setIfInBounds_toArray, List.set_cons_zero, List.set_cons_succ, i64_w, i32_w]; rfl) | with_reducible rfl
        refine pure_ (i := 9) (N := some 52) (v := ?_) (a' := ?_) #[true, true, true, true, true, true, true, true, true, true, false, false, false, true, false, false, false] rfl rfl (any_of HT_.out (by kernel_rfl)) (fun _ _ _ h => h) (Or.inl ⟨by rfl, ?_⟩) ?_ ?_
        rotate_left
        · intro w'
          go_simp
          with_reducible rfl
        rotate_left
        · simp only [Act.put, List.setIfInBounds_toArray, List.set_cons_zero, List.set_cons_succ, i64_w, i32_w]
          rfl
        refine pure_ (i := 10) (N := some 62) (v := ?_) (a' := ?_) #[true, true, true, true, true, true, true, true, true, true, true, false, false, true, false, false, false] rfl rfl (any_of HT_.out (by kernel_rfl)) (fun _ _ _ h => h) (Or.inl ⟨by rfl, ?_⟩) ?_ ?_
        rotate_left
        · intro w'
          go_simp
          with_reducible rfl
        rotate_left
        · simp only [Act.put, List.setIfInBounds_toArray, List.set_cons_zero, List.set_cons_succ, i64_w, i32_w]
          rfl
        refine pure_ (i := 11) (N := some 63) (v := ?_) (a' := ?_) #[true, true, true, true, true, true, true, true, true, true, true, true, false, true, false, false, false] rfl rfl (any_of HT_.out (by kernel_rfl)) (fun _ _ _ h => h) (Or.inl ⟨by rfl, ?_⟩) ?_ ?_
        rotate_left
        · intro w'
          go_simp
          with_reducible rfl
        rotate_left
        · simp only [Act.put, List.setIfInBounds_toArray, List.set_cons_zero, List.set_cons_succ, i64_w, i32_w]
          rfl
        refine pure_ (i := 12) (N := some 64) (v := ?_) (a' := ?_) #[true, true, true, true, true, true, true, true, true, true, true, true, true, true, false, false, false] rfl rfl (any_of HT_.out (by kernel_rfl)) (fun _ _ _ h => h) (Or.inl ⟨by rfl, ?_⟩) ?_ ?_
        rotate_left
        · intro w'
          go_simp
          with_reducible rfl
        rotate_left
        · simp only [Act.put, List.setIfInBounds_toArray, List.set_cons_zero, List.set_cons_succ, i64_w, i32_w]
          rfl
        clear hHeld
        have u0 := b_z.cell 0
        have u1 := b_z.cell 1
        have u2 := b_z.cell 2
        have u3 := b_z.cell 3
        have u4 := b_z.cell 4
        have u5 := b_z.cell 5
        have u6 := b_z.cell 6
        have u7 := b_z.cell 7
        have u8 := b_z.cell 8
        have u9 := b_z.cell 9
        have z0 := b_z.frozen 0
        have z1 := b_z.frozen 1
        have z2 := b_z.frozen 2
        have z3 := b_z.frozen 3
        have z4 := b_z.frozen 4
        have z5 := b_z.frozen 5
        have z6 := b_z.frozen 6
        have z7 := b_z.frozen 7
        have z8 := b_z.frozen 8
        have z9 := b_z.frozen 9
        simp at u0 u1 u2 u3 u4 u5 u6 u7 u8 u9
        refine last_ (i := 14) (N := none) #[true, true, true, true, true, true, true, true, true, true, true, true, true, true, true, false, false] rfl rfl (one_of HT_.out (by kernel_rfl)) (by decide) (fun K hK => ?_)
        refine skip_ (w1 := ?_) (by rfl) rfl ?_ ?_
        rotate_left
        · go_simp
          with_reducible rfl
        refine hK.out _ _ ?_
        clear hK K
        clear u0 z0 u1 z1 u2 z2 u3 z3 u4 z4 u5 z5 u6 z6 u7 z7 u8 z8 u9 z9
        replace hB := below10 z hB l_z
        replace b_z := set10 z b_z
        refine pure_ (i := 15) (N := some 13) (v := ?_) (a' := ?_) #[true, true, true, true, true, true, true, true, true, true, true, true, true, true, true, true, false] rfl rfl (any_of HT_.out (by kernel_rfl)) (fun _ _ _ h => h) (Or.inl ⟨by rfl, ?_⟩) ?_ ?_
        rotate_left
        · intro w'
          go_simp
          with_reducible rfl
        rotate_left
        · simp only [Act.put, List.setIfInBounds_toArray, List.set_cons_zero, List.set_cons_succ, i64_w, i32_w]
          rfl
        refine pure_ (i := 16) (N := some 14) (v := ?_) (a' := ?_) #[true, true, true, true, true, true, true, true, true, true, true, true, true, true, true, true, true] rfl rfl (any_of HT_.out (by kernel_rfl)) (fun _ _ _ h => h) (Or.inl ⟨by rfl, ?_⟩) ?_ ?_
        rotate_left
        · intro w'
          go_simp
          with_reducible rfl
        rotate_left
        · simp only [Act.put, List.setIfInBounds_toArray, List.set_cons_zero, List.set_cons_succ, i64_w, i32_w]
          rfl
        refine done_ (done_of HT_.out (by kernel_rfl)) ?_
        exact hK _ _ _ _ _ _ _ _ _ _ _ _ _ _ _ _ _ _ _ _ _ _ _ _ _ _ _ _ _ _ _ _ _ _ _ _ _ _ _ _ _ _ _ _ _ _ _ _ _ _ _ _ _ _ _ _ _ _ _ _ _ _ _ _ _ _ _ _ _ _ _ _ _ _ _ _ _ _ _ _ _ _ _ _ _ _ _ _ _ _ _ _ _ _ _ _ _ _ _ _ _ _ _ _ _ _ _ _ _ _ _ _ _ _ _ _ _ _ _ _ _ _ _ _ _ _ _ _ _ _ _ _ _ _ _ _ _ _ _ _ _ _ _ _ _ _ _ _ _ _ _ _ _ _ _ _ _ _ _ _ _ _ _ _ _ _ _ _ _ _ _ _ _ _ _ _ _ _ _ _ _ _ _ _ _ _ _ _ _ _ _ _ _ _ _ _ b_z l_z hB
    · skip
      refine box_step ?hg (N := 12) ?hd (cs := zeroC) (t := 61) ?hr ?_; (case hd => rfl); (case hg => rfl); (case hr => first | (go_simp; done) | (go_simp; rfl))
      intro gz hg_ w1_ b_z0 hb_
      have l_z : wy.heap.size ≤ gz := by rw [hg_]; exact hB.size
      have b_z : Blk w1_ gz 61 zeroC := b_z0
      clear b_z0
      replace hB := keep_below hB hb_
      replace hCc := Kd.C_below hCc hb_
      clear hb_ hg_
      refine hK.out _ _ hB (fun hHeld => ?_)
      clear hK K
      refine norm_ (a' := ?_) ?_ ?_
      rotate_left
      · first | (show Act.put _ (some 12) _ = _; simp only [Act.put, List.setIfInBounds_toArray, List.set_cons_zero, List.set_cons_succ, i64_w, i32_w]; rfl) | with_reducible rfl
      refine one_ (i := 5) (N := some 58) #[true, true, true, true, true, true, true, true, false, false, false, false, false, true, false, false, false] rfl rfl (one_of HT_.out (by kernel_rfl)) (by decide) (fun K hK => ?_)
      refine goesC0 Try.func20 (by kernel_rfl) rfl #[.pointer (some ⟨w.heap.size + 1, 0, none⟩)] (by rfl) rfl rfl (by rfl) ?_
      refine ((how _ (keep_below hM.out.b hB) (keep_cell hB hM.out.w1)).out).mono ?_
      rintro e w2 ⟨v1, rfl, hv1, hb2⟩
      refine ⟨_, rfl, ?_⟩
      obtain ⟨Ao, co, rfl, hco, hCo⟩ := Kd.R_reads hv1
      clear hv1
      replace hB := keep_below hB hb2
      replace hCc := Kd.C_below hCc hb2
      replace b_z := b_z.keep hb2
      clear hb2
      refine hK.out _ _ hB (fun hHeld => ?_)
      clear hK K
      refine norm_ (a' := ?_) ?_ ?_
      rotate_left
      · first | (show Act.put _ (some 58) _ = _; simp only [Act.put, List.setIfInBounds_toArray, List.set_cons_zero, List.set_cons_succ, i64_w, i32_w]; rfl) | with_reducible rfl
      refine one_ (i := 8) (N := some 61) #[true, true, true, true, true, true, true, true, true, false, false, false, false, true, false, false, false] rfl rfl (one_of HT_.out (by kernel_rfl)) (by decide) (fun K hK => ?_)
      refine goes_ Try.func23 (by kernel_rfl) rfl #[.agg #[.int .u64 a0_0, .slice Ac l0_1.length cc], .agg #[.int .u64 own, .bool reads, .int .u64 snap], .slice Ao l1.length co, .int .u32 row] (by rfl) rfl rfl (by (try simp only [List.map_toArray, List.map_cons, List.map_nil]); first | done | rfl) ?_
      refine ((hon Ac cc Ao co _ hCc hcc hCo hco).out).mono ?_
      rintro e w2 ⟨rfl, hb2⟩
      refine ⟨_, rfl, ?_⟩
      clear hCc hCo
      replace hB := keep_below hB hb2
      replace b_z := b_z.keep hb2
      clear hb2
      refine hK.out _ _ hB (fun hHeld => ?_)
      clear hK K
      refine norm_ (a' := ?_) ?_ ?_
      rotate_left
      · first | (show Act.put _ (some 61) _ = _; simp only [Act.put, List.setIfInBounds_toArray, List.set_cons_zero, List.set_cons_succ, i64_w, i32_w]; rfl) | with_reducible rfl
      refine pure_ (i := 9) (N := some 52) (v := ?_) (a' := ?_) #[true, true, true, true, true, true, true, true, true, true, false, false, false, true, false, false, false] rfl rfl (any_of HT_.out (by kernel_rfl)) (fun _ _ _ h => h) (Or.inl ⟨by rfl, ?_⟩) ?_ ?_
      rotate_left
      · intro w'
        go_simp
        with_reducible rfl
      rotate_left
      · simp only [Act.put, List.setIfInBounds_toArray, List.set_cons_zero, List.set_cons_succ, i64_w, i32_w]
        rfl
      refine pure_ (i := 10) (N := some 62) (v := ?_) (a' := ?_) #[true, true, true, true, true, true, true, true, true, true, true, false, false, true, false, false, false] rfl rfl (any_of HT_.out (by kernel_rfl)) (fun _ _ _ h => h) (Or.inl ⟨by rfl, ?_⟩) ?_ ?_
      rotate_left
      · intro w'
        go_simp
        with_reducible rfl
      rotate_left
      · simp only [Act.put, List.setIfInBounds_toArray, List.set_cons_zero, List.set_cons_succ, i64_w, i32_w]
        rfl
      refine pure_ (i := 11) (N := some 63) (v := ?_) (a' := ?_) #[true, true, true, true, true, true, true, true, true, true, true, true, false, true, false, false, false] rfl rfl (any_of HT_.out (by kernel_rfl)) (fun _ _ _ h => h) (Or.inl ⟨by rfl, ?_⟩) ?_ ?_
      rotate_left
      · intro w'
        go_simp
        with_reducible rfl
      rotate_left
      · simp only [Act.put, List.setIfInBounds_toArray, List.set_cons_zero, List.set_cons_succ, i64_w, i32_w]
        rfl
      refine pure_ (i := 12) (N := some 64) (v := ?_) (a' := ?_) #[true, true, true, true, true, true, true, true, true, true, true, true, true, true, false, false, false] rfl rfl (any_of HT_.out (by kernel_rfl)) (fun _ _ _ h => h) (Or.inl ⟨by rfl, ?_⟩) ?_ ?_
      rotate_left
      · intro w'
        go_simp
        with_reducible rfl
      rotate_left
      · simp only [Act.put, List.setIfInBounds_toArray, List.set_cons_zero, List.set_cons_succ, i64_w, i32_w]
        rfl
      clear hHeld
      have u0 := b_z.cell 0
      have u1 := b_z.cell 1
      have u2 := b_z.cell 2
      have u3 := b_z.cell 3
      have u4 := b_z.cell 4
      have u5 := b_z.cell 5
      have u6 := b_z.cell 6
      have u7 := b_z.cell 7
      have u8 := b_z.cell 8
      have u9 := b_z.cell 9
      have z0 := b_z.frozen 0
      have z1 := b_z.frozen 1
      have z2 := b_z.frozen 2
      have z3 := b_z.frozen 3
      have z4 := b_z.frozen 4
      have z5 := b_z.frozen 5
      have z6 := b_z.frozen 6
      have z7 := b_z.frozen 7
      have z8 := b_z.frozen 8
      have z9 := b_z.frozen 9
      simp at u0 u1 u2 u3 u4 u5 u6 u7 u8 u9
      refine last_ (i := 14) (N := none) #[true, true, true, true, true, true, true, true, true, true, true, true, true, true, true, false, false] rfl rfl (one_of HT_.out (by kernel_rfl)) (by decide) (fun K hK => ?_)
      refine skip_ (w1 := ?_) (by rfl) rfl ?_ ?_
      rotate_left
      · go_simp
        with_reducible rfl
      refine hK.out _ _ ?_
      clear hK K
      clear u0 z0 u1 z1 u2 z2 u3 z3 u4 z4 u5 z5 u6 z6 u7 z7 u8 z8 u9 z9
      replace hB := below10 z hB l_z
      replace b_z := set10 z b_z
      refine pure_ (i := 15) (N := some 13) (v := ?_) (a' := ?_) #[true, true, true, true, true, true, true, true, true, true, true, true, true, true, true, true, false] rfl rfl (any_of HT_.out (by kernel_rfl)) (fun _ _ _ h => h) (Or.inl ⟨by rfl, ?_⟩) ?_ ?_
      rotate_left
      · intro w'
        go_simp
        with_reducible rfl
      rotate_left
      · simp only [Act.put, List.setIfInBounds_toArray, List.set_cons_zero, List.set_cons_succ, i64_w, i32_w]
        rfl
      refine pure_ (i := 16) (N := some 14) (v := ?_) (a' := ?_) #[true, true, true, true, true, true, true, true, true, true, true, true, true, true, true, true, true] rfl rfl (any_of HT_.out (by kernel_rfl)) (fun _ _ _ h => h) (Or.inl ⟨by rfl, ?_⟩) ?_ ?_
      rotate_left
      · intro w'
        go_simp
        with_reducible rfl
      rotate_left
      · simp only [Act.put, List.setIfInBounds_toArray, List.set_cons_zero, List.set_cons_succ, i64_w, i32_w]
        rfl
      refine done_ (done_of HT_.out (by kernel_rfl)) ?_
      exact hK _ _ _ _ _ _ _ _ _ _ _ _ _ _ _ _ _ _ _ _ _ _ _ _ _ _ _ _ _ _ _ _ _ _ _ _ _ _ _ _ _ _ _ _ _ _ _ _ _ _ _ _ _ _ _ _ _ _ _ _ _ _ _ _ _ _ _ _ _ _ _ _ _ _ _ _ _ _ _ _ _ _ _ _ _ _ _ _ _ _ _ _ _ _ _ _ _ _ _ _ _ _ _ _ _ _ _ _ _ _ _ _ _ _ _ _ _ _ _ _ _ _ _ _ _ _ _ _ _ _ _ _ _ _ _ _ _ _ _ _ _ _ _ _ _ _ _ _ _ _ _ _ _ _ _ _ _ _ _ _ _ _ _ _ _ _ _ _ _ _ _ _ _ _ _ _ _ _ _ _ _ _ _ _ _ _ _ _ _ _ _ _ _ _ _ _ b_z l_z hB
  · skip
    refine box_step ?hg (N := 12) ?hd (cs := zeroC) (t := 61) ?hr ?_; (case hd => rfl); (case hg => rfl); (case hr => first | (go_simp; done) | (go_simp; rfl))
    intro gz hg_ w1_ b_z0 hb_
    have l_z : wy.heap.size ≤ gz := by rw [hg_]; exact hB.size
    have b_z : Blk w1_ gz 61 zeroC := b_z0
    clear b_z0
    replace hB := keep_below hB hb_
    clear hb_ hg_
    refine hK.out _ _ hB (fun hHeld => ?_)
    clear hK K
    refine norm_ (a' := ?_) ?_ ?_
    rotate_left
    · first | (show Act.put _ (some 12) _ = _; simp only [Act.put, List.setIfInBounds_toArray, List.set_cons_zero, List.set_cons_succ, i64_w, i32_w]; rfl) | with_reducible rfl
    refine one_ (i := 1) (N := some 54) #[true, true, true, true, true, false, true, true, false, false, false, false, false, true, false, false, false] rfl rfl (one_of HT_.out (by kernel_rfl)) (by decide) (fun K hK => ?_)
    refine goes_ Try.func11 (by kernel_rfl) rfl #[.agg #[.int .u64 a0_0, .slice A0_1 l0_1.length c0_1]] (by rfl) rfl rfl (by (try simp only [List.map_toArray, List.map_cons, List.map_nil]); first | done | rfl) ?_
    refine (hcp _ (keep_below hM.out.b hB)).out.mono ?_
    rintro e w2 ⟨v1, rfl, hv1, hb2⟩
    refine ⟨_, rfl, ?_⟩
    obtain ⟨Ac, cc, rfl, hcc, hCc⟩ := Kd.R_reads hv1
    clear hv1
    replace hB := keep_below hB hb2
    replace b_z := b_z.keep hb2
    clear hb2
    refine hK.out _ _ hB (fun hHeld => ?_)
    clear hK K
    refine norm_ (a' := ?_) ?_ ?_
    rotate_left
    · first | (show Act.put _ (some 54) _ = _; simp only [Act.put, List.setIfInBounds_toArray, List.set_cons_zero, List.set_cons_succ, i64_w, i32_w]; rfl) | with_reducible rfl
    refine one_ (i := 5) (N := some 58) #[true, true, true, true, true, true, true, true, false, false, false, false, false, true, false, false, false] rfl rfl (one_of HT_.out (by kernel_rfl)) (by decide) (fun K hK => ?_)
    refine goesC0 Try.func20 (by kernel_rfl) rfl #[.pointer (some ⟨w.heap.size + 1, 0, none⟩)] (by rfl) rfl rfl (by rfl) ?_
    refine ((how _ (keep_below hM.out.b hB) (keep_cell hB hM.out.w1)).out).mono ?_
    rintro e w2 ⟨v1, rfl, hv1, hb2⟩
    refine ⟨_, rfl, ?_⟩
    obtain ⟨Ao, co, rfl, hco, hCo⟩ := Kd.R_reads hv1
    clear hv1
    replace hB := keep_below hB hb2
    replace hCc := Kd.C_below hCc hb2
    replace b_z := b_z.keep hb2
    clear hb2
    refine hK.out _ _ hB (fun hHeld => ?_)
    clear hK K
    refine norm_ (a' := ?_) ?_ ?_
    rotate_left
    · first | (show Act.put _ (some 58) _ = _; simp only [Act.put, List.setIfInBounds_toArray, List.set_cons_zero, List.set_cons_succ, i64_w, i32_w]; rfl) | with_reducible rfl
    refine one_ (i := 8) (N := some 61) #[true, true, true, true, true, true, true, true, true, false, false, false, false, true, false, false, false] rfl rfl (one_of HT_.out (by kernel_rfl)) (by decide) (fun K hK => ?_)
    refine goes_ Try.func23 (by kernel_rfl) rfl #[.agg #[.int .u64 a0_0, .slice Ac l0_1.length cc], .agg #[.int .u64 own, .bool reads, .int .u64 snap], .slice Ao l1.length co, .int .u32 row] (by rfl) rfl rfl (by (try simp only [List.map_toArray, List.map_cons, List.map_nil]); first | done | rfl) ?_
    refine ((hon Ac cc Ao co _ hCc hcc hCo hco).out).mono ?_
    rintro e w2 ⟨rfl, hb2⟩
    refine ⟨_, rfl, ?_⟩
    clear hCc hCo
    replace hB := keep_below hB hb2
    replace b_z := b_z.keep hb2
    clear hb2
    refine hK.out _ _ hB (fun hHeld => ?_)
    clear hK K
    refine norm_ (a' := ?_) ?_ ?_
    rotate_left
    · first | (show Act.put _ (some 61) _ = _; simp only [Act.put, List.setIfInBounds_toArray, List.set_cons_zero, List.set_cons_succ, i64_w, i32_w]; rfl) | with_reducible rfl
    refine pure_ (i := 9) (N := some 52) (v := ?_) (a' := ?_) #[true, true, true, true, true, true, true, true, true, true, false, false, false, true, false, false, false] rfl rfl (any_of HT_.out (by kernel_rfl)) (fun _ _ _ h => h) (Or.inl ⟨by rfl, ?_⟩) ?_ ?_
    rotate_left
    · intro w'
      go_simp
      with_reducible rfl
    rotate_left
    · simp only [Act.put, List.setIfInBounds_toArray, List.set_cons_zero, List.set_cons_succ, i64_w, i32_w]
      rfl
    refine pure_ (i := 10) (N := some 62) (v := ?_) (a' := ?_) #[true, true, true, true, true, true, true, true, true, true, true, false, false, true, false, false, false] rfl rfl (any_of HT_.out (by kernel_rfl)) (fun _ _ _ h => h) (Or.inl ⟨by rfl, ?_⟩) ?_ ?_
    rotate_left
    · intro w'
      go_simp
      with_reducible rfl
    rotate_left
    · simp only [Act.put, List.setIfInBounds_toArray, List.set_cons_zero, List.set_cons_succ, i64_w, i32_w]
      rfl
    refine pure_ (i := 11) (N := some 63) (v := ?_) (a' := ?_) #[true, true, true, true, true, true, true, true, true, true, true, true, false, true, false, false, false] rfl rfl (any_of HT_.out (by kernel_rfl)) (fun _ _ _ h => h) (Or.inl ⟨by rfl, ?_⟩) ?_ ?_
    rotate_left
    · intro w'
      go_simp
      with_reducible rfl
    rotate_left
    · simp only [Act.put, List.setIfInBounds_toArray, List.set_cons_zero, List.set_cons_succ, i64_w, i32_w]
      rfl
    refine pure_ (i := 12) (N := some 64) (v := ?_) (a' := ?_) #[true, true, true, true, true, true, true, true, true, true, true, true, true, true, false, false, false] rfl rfl (any_of HT_.out (by kernel_rfl)) (fun _ _ _ h => h) (Or.inl ⟨by rfl, ?_⟩) ?_ ?_
    rotate_left
    · intro w'
      go_simp
      with_reducible rfl
    rotate_left
    · simp only [Act.put, List.setIfInBounds_toArray, List.set_cons_zero, List.set_cons_succ, i64_w, i32_w]
      rfl
    clear hHeld
    have u0 := b_z.cell 0
    have u1 := b_z.cell 1
    have u2 := b_z.cell 2
    have u3 := b_z.cell 3
    have u4 := b_z.cell 4
    have u5 := b_z.cell 5
    have u6 := b_z.cell 6
    have u7 := b_z.cell 7
    have u8 := b_z.cell 8
    have u9 := b_z.cell 9
    have z0 := b_z.frozen 0
    have z1 := b_z.frozen 1
    have z2 := b_z.frozen 2
    have z3 := b_z.frozen 3
    have z4 := b_z.frozen 4
    have z5 := b_z.frozen 5
    have z6 := b_z.frozen 6
    have z7 := b_z.frozen 7
    have z8 := b_z.frozen 8
    have z9 := b_z.frozen 9
    simp at u0 u1 u2 u3 u4 u5 u6 u7 u8 u9
    refine last_ (i := 14) (N := none) #[true, true, true, true, true, true, true, true, true, true, true, true, true, true, true, false, false] rfl rfl (one_of HT_.out (by kernel_rfl)) (by decide) (fun K hK => ?_)
    refine skip_ (w1 := ?_) (by rfl) rfl ?_ ?_
    rotate_left
    · go_simp
      with_reducible rfl
    refine hK.out _ _ ?_
    clear hK K
    clear u0 z0 u1 z1 u2 z2 u3 z3 u4 z4 u5 z5 u6 z6 u7 z7 u8 z8 u9 z9
    replace hB := below10 z hB l_z
    replace b_z := set10 z b_z
    refine pure_ (i := 15) (N := some 13) (v := ?_) (a' := ?_) #[true, true, true, true, true, true, true, true, true, true, true, true, true, true, true, true, false] rfl rfl (any_of HT_.out (by kernel_rfl)) (fun _ _ _ h => h) (Or.inl ⟨by rfl, ?_⟩) ?_ ?_
    rotate_left
    · intro w'
      go_simp
      with_reducible rfl
    rotate_left
    · simp only [Act.put, List.setIfInBounds_toArray, List.set_cons_zero, List.set_cons_succ, i64_w, i32_w]
      rfl
    refine pure_ (i := 16) (N := some 14) (v := ?_) (a' := ?_) #[true, true, true, true, true, true, true, true, true, true, true, true, true, true, true, true, true] rfl rfl (any_of HT_.out (by kernel_rfl)) (fun _ _ _ h => h) (Or.inl ⟨by rfl, ?_⟩) ?_ ?_
    rotate_left
    · intro w'
      go_simp
      with_reducible rfl
    rotate_left
    · simp only [Act.put, List.setIfInBounds_toArray, List.set_cons_zero, List.set_cons_succ, i64_w, i32_w]
      rfl
    refine done_ (done_of HT_.out (by kernel_rfl)) ?_
    exact hK _ _ _ _ _ _ _ _ _ _ _ _ _ _ _ _ _ _ _ _ _ _ _ _ _ _ _ _ _ _ _ _ _ _ _ _ _ _ _ _ _ _ _ _ _ _ _ _ _ _ _ _ _ _ _ _ _ _ _ _ _ _ _ _ _ _ _ _ _ _ _ _ _ _ _ _ _ _ _ _ _ _ _ _ _ _ _ _ _ _ _ _ _ _ _ _ _ _ _ _ _ _ _ _ _ _ _ _ _ _ _ _ _ _ _ _ _ _ _ _ _ _ _ _ _ _ _ _ _ _ _ _ _ _ _ _ _ _ _ _ _ _ _ _ _ _ _ _ _ _ _ _ _ _ _ _ _ _ _ _ _ _ _ _ _ _ _ _ _ _ _ _ _ _ _ _ _ _ _ _ _ _ _ _ _ _ _ _ _ _ _ _ _ _ _ _ b_z l_z hB
end
end Go.Proofs.Ytfggjefncnhikaa.V
