/- What the row of this claim reaches. No condition. -/
import Derived.Test.YtiamkgoajkfofaaDoorXX1
import Derived.Test.YtiamkgoajkfofaaDoorXSq
set_option linter.unusedVariables false
set_option linter.unusedSimpArgs false
namespace Go.Proofs.YtiamkgoajkfofaaDoor.S
open Go.RowKit Go.Proofs.YtiamkgoajkfofaaDoorW.PrintWords Go.Proofs.YtiamkgoajkfofaaDoorW.PrintLast Go.Proofs.YtiamkgoajkfofaaDoorW.PrintMore
attribute [local go_sem high] eqA27 eqA25
def opEq (x0 : Int) (x1 : Bool) (x2 x3 x4 x5 x6 x7 : Int) (p : Int × Bool × Int × Int × Int × Int × Int × Int) : Bool := x0 == p.1 && (x1 == p.2.1 && (x2 == p.2.2.1 && ((x3 == p.2.2.2.1 && (x4 == p.2.2.2.2.1 && (x5 == p.2.2.2.2.2.1 && (x6 == p.2.2.2.2.2.2.1)))) && (x7 == p.2.2.2.2.2.2.2))))
def busyTail (k : Nat) (a0_0 : Int) (a0_1 : Int) (a0_2 : Bool) (a0_3 : Int) (a0_4 : Int) (a0_5 : Bool) (a0_6 : Int) (a0_7 : Int) (a0_8 : Int) (a0_9 : Int) (a0_10 : Int) (a0_11 : Int) (a0_12 : Int) (a0_13 : Int) (a0_14 : Int) (a0_15 : Int) (a0_16 : Int) (l0_17 : List (S63)) (l0_18 : List Int) (l0_19 : List Int) : Option Bool :=
  (if a0_4 = 4 ∧ a0_12 = 1 then (cursor_Check.f a0_13 a0_14 a0_15 a0_16 l0_17 l0_18).bind fun e2 => some (decide (e2 = 0) && (a0_13 == a0_7 && (a0_14 == a0_8 && (a0_15 == a0_9 && (a0_16 == a0_10))))) else session_none.f k a0_13 a0_14 a0_15 a0_16 l0_17 l0_18).bind fun b =>
    if b = true then (if a0_4 = 4 ∧ a0_12 = 2 then (if 0 < l0_19.length then session_rises_uint32.f k l0_19 else some false) else some (decide (l0_19.length = 0))) else some false
def busyF (k : Nat) (a0_0 : Int) (a0_1 : Int) (a0_2 : Bool) (a0_3 : Int) (a0_4 : Int) (a0_5 : Bool) (a0_6 : Int) (a0_7 : Int) (a0_8 : Int) (a0_9 : Int) (a0_10 : Int) (a0_11 : Int) (a0_12 : Int) (a0_13 : Int) (a0_14 : Int) (a0_15 : Int) (a0_16 : Int) (l0_17 : List (S63)) (l0_18 : List Int) (l0_19 : List Int) (a1 : Bool) (a2 : Bool) : Option Bool :=
  if (if a0_4 = 1 then a2 else a1) = true then
    (session_plain.f a0_4 a0_5 a0_6 a0_7 a0_8 a0_9 a0_10 a0_11).bind fun p => if opEq a0_4 a0_5 a0_6 a0_7 a0_8 a0_9 a0_10 a0_11 p = true then
      (session_refuse.f k (if a0_4 = 1 then 1 else 2) 0 (if a0_4 = 1 then false else a0_2) 0 0 false 0 0 0 0 0 0 0 0 0 0 0 [] [] [] 1 a0_4 a0_5 a0_6 a0_7 a0_8 a0_9 a0_10 a0_11).bind fun e => if e = 0 then
        if a0_12 < 0 ∨ 3 < a0_12 then some false else
        if 0 ≤ a0_4 ∧ a0_4 < 7 then (if tabF a0_4 a0_12 = 0 then some false else if a0_4 = 4 ∧ a0_12 = 2 ∧ a0_2 = true then some false else busyTail k a0_0 a0_1 a0_2 a0_3 a0_4 a0_5 a0_6 a0_7 a0_8 a0_9 a0_10 a0_11 a0_12 a0_13 a0_14 a0_15 a0_16 l0_17 l0_18 l0_19) else none
      else some false
    else some false
  else some false
section
set_option maxHeartbeats 8000000 in
set_option maxRecDepth 100000 in
theorem busy_rest6 (k : Nat) (a0_0 : Int) (a0_1 : Int) (a0_2 : Bool) (a0_3 : Int) (a0_4 : Int) (a0_5 : Bool) (a0_6 : Int) (a0_7 : Int) (a0_8 : Int) (a0_9 : Int) (a0_10 : Int) (a0_11 : Int) (a0_12 : Int) (a0_13 : Int) (a0_14 : Int) (a0_15 : Int) (a0_16 : Int) (A0_17 : Option Addr) (c0_17 : Nat) (l0_17 : List (S63)) (A0_18 : Option Addr) (c0_18 : Nat) (l0_18 : List Int) (A0_19 : Option Addr) (c0_19 : Nat) (l0_19 : List Int) (a1 a2 : Bool) (r : Bool) (w W : World) (u4 u5 u7 u8 u9 u10 u11 u12 u13 u14 u15 u16 u17 u18 u19 u20 u21 u22 u23 u24 u25 u26 u27 u28 u29 u30 u31 u32 u33 u34 u35 u36 u37 u38 u39 u40 u41 u42 u43 u44 u45 u46 u47 u48 u49 u50 u51 u52 u53 u54 u55 u56 u57 u58 u59 u60 u61 u62 u63 u64 u65 u66 u67 u68 u69 u70 u71 u72 u73 u74 u75 u76 u77 u78 u79 u80 u81 u82 u83 u84 u85 u86 u87 u88 u89 u90 u91 u92 u93 u94 u95 u96 u97 u98 u99 u100 u101 u102 u103 u104 u105 u106 u107 u108 u109 u110 u111 : Value) (hr0_17 : Kd.C k63 W A0_17 l0_17.length l0_17) (hc0_17 : l0_17.length ≤ c0_17) (hr0_18 : Kd.C (Kd.int .u32) W A0_18 l0_18.length l0_18) (hc0_18 : l0_18.length ≤ c0_18) (hr0_19 : Kd.C (Kd.int .u32) W A0_19 l0_19.length l0_19) (hc0_19 : l0_19.length ≤ c0_19)
  (hB : Below w.heap.size w W) (b0 : Blk W w.heap.size 33 #[.int .i64 a0_0,.int .u64 a0_1,.bool a0_2,.int .u64 a0_3,.int .i64 a0_4,.bool a0_5,.int .u32 a0_6,.int .i64 a0_7,.int .i64 a0_8,.int .i64 a0_9,.int .i64 a0_10,.int .i64 a0_11,.int .i64 a0_12,.int .i64 a0_13,.int .i64 a0_14,.int .i64 a0_15,.int .i64 a0_16,.slice A0_17 l0_17.length c0_17,.slice A0_18 l0_18.length c0_18,.slice A0_19 l0_19.length c0_19]) (h : (if a0_4 = 4∧a0_12 = 2∧a0_2 = true then some false else busyTail k a0_0 a0_1 a0_2 a0_3 a0_4 a0_5 a0_6 a0_7 a0_8 a0_9 a0_10 a0_11 a0_12 a0_13 a0_14 a0_15 a0_16 l0_17 l0_18 l0_19) = some r) :
  ((Go.Code.region 6 #[{ dst:=some 56,op:=Go.Op.fieldAddr 33 (Go.Operand.tmp 3) 4,type:=0,pos:="session.go:108",after:=#[],guard:=none },{ dst:=some 57,op:=Go.Op.fieldAddr 27 (Go.Operand.tmp 56) 0,type:=0,pos:="session.go:108",after:=#[{ on:=0,ground:=Go.Ground.data }],guard:=none },{ dst:=some 58,op:=Go.Op.load 3 (Go.Operand.tmp 57),type:=3,pos:="session.go:108",after:=#[{ on:=1,ground:=Go.Ground.data }],guard:=none },{ dst:=some 59,op:=Go.Op.binOp Go.BinOp.eql 3 (Go.Operand.tmp 58) (Go.Operand.const (Go.Value.int Go.IntKind.i64 4)) 3,type:=4,pos:="session.go:108",after:=#[{ on:=2,ground:=Go.Ground.data }],guard:=none },{ dst:=some 8,op:=Go.Op.assign (Go.Operand.tmp 59),type:=4,pos:="session.go:108",after:=#[{ on:=3,ground:=Go.Ground.data },{ on:=0,ground:=Go.Ground.phase },{ on:=1,ground:=Go.Ground.phase },{ on:=2,ground:=Go.Ground.phase },{ on:=3,ground:=Go.Ground.phase }],guard:=none }] false).seq (((Go.Code.region 7 #[{ dst:=some 60,op:=Go.Op.move (Go.Operand.tmp 8),type:=4,pos:="session.go:109",after:=#[],guard:=none },{ dst:=some 61,op:=Go.Op.move (Go.Operand.tmp 60),type:=4,pos:="session.go:109",after:=#[{ on:=0,ground:=Go.Ground.data }],guard:=none },{ dst:=some 62,op:=Go.Op.fieldAddr 33 (Go.Operand.tmp 3) 5,type:=0,pos:="session.go:109",after:=#[{ on:=1,ground:=Go.Ground.guard }],guard:=some (1,true) },{ dst:=some 63,op:=Go.Op.load 3 (Go.Operand.tmp 62),type:=3,pos:="session.go:109",after:=#[{ on:=2,ground:=Go.Ground.data },{ on:=1,ground:=Go.Ground.guard }],guard:=some (1,true) },{ dst:=some 64,op:=Go.Op.binOp Go.BinOp.eql 3 (Go.Operand.tmp 63) (Go.Operand.const (Go.Value.int Go.IntKind.i64 2)) 3,type:=4,pos:="session.go:109",after:=#[{ on:=3,ground:=Go.Ground.data },{ on:=1,ground:=Go.Ground.guard }],guard:=some (1,true) },{ dst:=some 65,op:=Go.Op.pick (Go.Operand.tmp 61) (Go.Operand.tmp 64) (Go.Operand.const (Go.Value.bool false)),type:=4,pos:="session.go:109",after:=#[{ on:=1,ground:=Go.Ground.data },{ on:=4,ground:=Go.Ground.data }],guard:=none },{ dst:=some 66,op:=Go.Op.move (Go.Operand.tmp 65),type:=4,pos:="session.go:109",after:=#[{ on:=5,ground:=Go.Ground.data },{ on:=1,ground:=Go.Ground.chain }],guard:=none },{ dst:=some 67,op:=Go.Op.fieldAddr 33 (Go.Operand.tmp 3) 2,type:=0,pos:="session.go:109",after:=#[{ on:=6,ground:=Go.Ground.guard }],guard:=some (6,true) },{ dst:=some 68,op:=Go.Op.load 4 (Go.Operand.tmp 67),type:=4,pos:="session.go:109",after:=#[{ on:=7,ground:=Go.Ground.data },{ on:=6,ground:=Go.Ground.guard }],guard:=some (6,true) },{ dst:=some 69,op:=Go.Op.pick (Go.Operand.tmp 66) (Go.Operand.tmp 68) (Go.Operand.const (Go.Value.bool false)),type:=4,pos:="session.go:109",after:=#[{ on:=6,ground:=Go.Ground.data },{ on:=8,ground:=Go.Ground.data }],guard:=none }] false).seq (Go.Code.cond (Go.Operand.tmp 69) ((Go.Code.region 8 #[{ dst:=some 6,op:=Go.Op.assign (Go.Operand.const (Go.Value.bool false)),type:=4,pos:="session.go:110",after:=#[],guard:=none }] false).seq Go.Code.ret) Go.Code.skip)).seq (((Go.Code.region 9 #[{ dst:=some 70,op:=Go.Op.move (Go.Operand.tmp 8),type:=4,pos:="session.go:112",after:=#[],guard:=none },{ dst:=some 71,op:=Go.Op.move (Go.Operand.tmp 70),type:=4,pos:="session.go:112",after:=#[{ on:=0,ground:=Go.Ground.data }],guard:=none },{ dst:=some 72,op:=Go.Op.fieldAddr 33 (Go.Operand.tmp 3) 5,type:=0,pos:="session.go:112",after:=#[{ on:=1,ground:=Go.Ground.guard }],guard:=some (1,true) },{ dst:=some 73,op:=Go.Op.load 3 (Go.Operand.tmp 72),type:=3,pos:="session.go:112",after:=#[{ on:=2,ground:=Go.Ground.data },{ on:=1,ground:=Go.Ground.guard }],guard:=some (1,true) },{ dst:=some 74,op:=Go.Op.binOp Go.BinOp.eql 3 (Go.Operand.tmp 73) (Go.Operand.const (Go.Value.int Go.IntKind.i64 1)) 3,type:=4,pos:="session.go:112",after:=#[{ on:=3,ground:=Go.Ground.data },{ on:=1,ground:=Go.Ground.guard }],guard:=some (1,true) },{ dst:=some 75,op:=Go.Op.pick (Go.Operand.tmp 71) (Go.Operand.tmp 74) (Go.Operand.const (Go.Value.bool false)),type:=4,pos:="session.go:112",after:=#[{ on:=1,ground:=Go.Ground.data },{ on:=4,ground:=Go.Ground.data }],guard:=none }] false).seq (Go.Code.cond (Go.Operand.tmp 75) ((Go.Code.region 10 #[{ dst:=some 76,op:=Go.Op.fieldAddr 33 (Go.Operand.tmp 3) 6,type:=0,pos:="session.go:113",after:=#[],guard:=none },{ dst:=some 77,op:=Go.Op.load 31 (Go.Operand.tmp 76),type:=31,pos:="session.go:113",after:=#[{ on:=0,ground:=Go.Ground.data }],guard:=none },{ dst:=some 78,op:=Go.Op.call { callee:=Go.Callee.value (Go.Operand.func 45),args:=#[Go.Operand.tmp 77],argTypes:=#[31] },type:=36,pos:="session.go:113",after:=#[{ on:=1,ground:=Go.Ground.data }],guard:=none },{ dst:=some 79,op:=Go.Op.binOp Go.BinOp.neq 36 (Go.Operand.tmp 78) (Go.Operand.const (Go.Value.int Go.IntKind.i64 0)) 36,type:=4,pos:="session.go:113",after:=#[{ on:=2,ground:=Go.Ground.data }],guard:=none },{ dst:=some 80,op:=Go.Op.move (Go.Operand.tmp 79),type:=4,pos:="session.go:113",after:=#[{ on:=3,ground:=Go.Ground.data },{ on:=2,ground:=Go.Ground.chain }],guard:=none },{ dst:=some 81,op:=Go.Op.fieldAddr 33 (Go.Operand.tmp 3) 6,type:=0,pos:="session.go:113",after:=#[{ on:=4,ground:=Go.Ground.guard }],guard:=some (4,false) },{ dst:=some 82,op:=Go.Op.fieldAddr 31 (Go.Operand.tmp 81) 0,type:=0,pos:="session.go:113",after:=#[{ on:=5,ground:=Go.Ground.data },{ on:=4,ground:=Go.Ground.guard }],guard:=some (4,false) },{ dst:=some 83,op:=Go.Op.load 25 (Go.Operand.tmp 82),type:=25,pos:="session.go:113",after:=#[{ on:=6,ground:=Go.Ground.data },{ on:=4,ground:=Go.Ground.guard }],guard:=some (4,false) },{ dst:=some 84,op:=Go.Op.fieldAddr 33 (Go.Operand.tmp 3) 4,type:=0,pos:="session.go:113",after:=#[{ on:=4,ground:=Go.Ground.guard }],guard:=some (4,false) },{ dst:=some 85,op:=Go.Op.fieldAddr 27 (Go.Operand.tmp 84) 3,type:=0,pos:="session.go:113",after:=#[{ on:=8,ground:=Go.Ground.data },{ on:=4,ground:=Go.Ground.guard }],guard:=some (4,false) },{ dst:=some 86,op:=Go.Op.load 25 (Go.Operand.tmp 85),type:=25,pos:="session.go:113",after:=#[{ on:=9,ground:=Go.Ground.data },{ on:=4,ground:=Go.Ground.guard }],guard:=some (4,false) },{ dst:=some 87,op:=Go.Op.binOp Go.BinOp.neq 25 (Go.Operand.tmp 83) (Go.Operand.tmp 86) 25,type:=4,pos:="session.go:113",after:=#[{ on:=7,ground:=Go.Ground.data },{ on:=10,ground:=Go.Ground.data },{ on:=4,ground:=Go.Ground.guard }],guard:=some (4,false) },{ dst:=some 88,op:=Go.Op.pick (Go.Operand.tmp 80) (Go.Operand.const (Go.Value.bool true)) (Go.Operand.tmp 87),type:=4,pos:="session.go:113",after:=#[{ on:=4,ground:=Go.Ground.data },{ on:=11,ground:=Go.Ground.data }],guard:=none }] false).seq (Go.Code.cond (Go.Operand.tmp 88) ((Go.Code.region 11 #[{ dst:=some 6,op:=Go.Op.assign (Go.Operand.const (Go.Value.bool false)),type:=4,pos:="session.go:114",after:=#[],guard:=none }] false).seq Go.Code.ret) Go.Code.skip)) ((Go.Code.region 12 #[{ dst:=some 89,op:=Go.Op.fieldAddr 33 (Go.Operand.tmp 3) 6,type:=0,pos:="session.go:116",after:=#[],guard:=none },{ dst:=some 90,op:=Go.Op.load 31 (Go.Operand.tmp 89),type:=31,pos:="session.go:116",after:=#[{ on:=0,ground:=Go.Ground.data }],guard:=none },{ dst:=some 91,op:=Go.Op.call { callee:=Go.Callee.value (Go.Operand.func 61),args:=#[Go.Operand.tmp 90],argTypes:=#[31] },type:=4,pos:="session.go:116",after:=#[{ on:=1,ground:=Go.Ground.data }],guard:=none },{ dst:=some 92,op:=Go.Op.unOp Go.UnOp.not 4 (Go.Operand.tmp 91),type:=4,pos:="session.go:116",after:=#[{ on:=2,ground:=Go.Ground.data }],guard:=none }] false).seq (Go.Code.cond (Go.Operand.tmp 92) ((Go.Code.region 13 #[{ dst:=some 6,op:=Go.Op.assign (Go.Operand.const (Go.Value.bool false)),type:=4,pos:="session.go:117",after:=#[],guard:=none }] false).seq Go.Code.ret) Go.Code.skip)))).seq (((Go.Code.region 14 #[{ dst:=some 93,op:=Go.Op.move (Go.Operand.tmp 8),type:=4,pos:="session.go:119",after:=#[],guard:=none },{ dst:=some 94,op:=Go.Op.move (Go.Operand.tmp 93),type:=4,pos:="session.go:119",after:=#[{ on:=0,ground:=Go.Ground.data }],guard:=none },{ dst:=some 95,op:=Go.Op.fieldAddr 33 (Go.Operand.tmp 3) 5,type:=0,pos:="session.go:119",after:=#[{ on:=1,ground:=Go.Ground.guard }],guard:=some (1,true) },{ dst:=some 96,op:=Go.Op.load 3 (Go.Operand.tmp 95),type:=3,pos:="session.go:119",after:=#[{ on:=2,ground:=Go.Ground.data },{ on:=1,ground:=Go.Ground.guard }],guard:=some (1,true) },{ dst:=some 97,op:=Go.Op.binOp Go.BinOp.eql 3 (Go.Operand.tmp 96) (Go.Operand.const (Go.Value.int Go.IntKind.i64 2)) 3,type:=4,pos:="session.go:119",after:=#[{ on:=3,ground:=Go.Ground.data },{ on:=1,ground:=Go.Ground.guard }],guard:=some (1,true) },{ dst:=some 98,op:=Go.Op.pick (Go.Operand.tmp 94) (Go.Operand.tmp 97) (Go.Operand.const (Go.Value.bool false)),type:=4,pos:="session.go:119",after:=#[{ on:=1,ground:=Go.Ground.data },{ on:=4,ground:=Go.Ground.data }],guard:=none }] false).seq (Go.Code.cond (Go.Operand.tmp 98) ((Go.Code.region 15 #[{ dst:=some 99,op:=Go.Op.fieldAddr 33 (Go.Operand.tmp 3) 7,type:=0,pos:="session.go:120",after:=#[],guard:=none },{ dst:=some 100,op:=Go.Op.load 29 (Go.Operand.tmp 99),type:=29,pos:="session.go:120",after:=#[{ on:=0,ground:=Go.Ground.data }],guard:=none },{ dst:=some 101,op:=Go.Op.call { callee:=Go.Callee.builtin Go.Builtin.len,args:=#[Go.Operand.tmp 100],argTypes:=#[29] },type:=3,pos:="session.go:120",after:=#[{ on:=1,ground:=Go.Ground.data }],guard:=none },{ dst:=some 102,op:=Go.Op.binOp Go.BinOp.gtr 3 (Go.Operand.tmp 101) (Go.Operand.const (Go.Value.int Go.IntKind.i64 0)) 3,type:=4,pos:="session.go:120",after:=#[{ on:=2,ground:=Go.Ground.data }],guard:=none },{ dst:=some 103,op:=Go.Op.move (Go.Operand.tmp 102),type:=4,pos:="session.go:120",after:=#[{ on:=3,ground:=Go.Ground.data }],guard:=none },{ dst:=some 104,op:=Go.Op.fieldAddr 33 (Go.Operand.tmp 3) 7,type:=0,pos:="session.go:120",after:=#[{ on:=4,ground:=Go.Ground.guard }],guard:=some (4,true) },{ dst:=some 105,op:=Go.Op.load 29 (Go.Operand.tmp 104),type:=29,pos:="session.go:120",after:=#[{ on:=5,ground:=Go.Ground.data },{ on:=4,ground:=Go.Ground.guard }],guard:=some (4,true) },{ dst:=some 106,op:=Go.Op.call { callee:=Go.Callee.value (Go.Operand.func 46),args:=#[Go.Operand.tmp 105],argTypes:=#[29] },type:=4,pos:="session.go:120",after:=#[{ on:=6,ground:=Go.Ground.data },{ on:=4,ground:=Go.Ground.chain },{ on:=4,ground:=Go.Ground.guard }],guard:=some (4,true) },{ dst:=some 107,op:=Go.Op.pick (Go.Operand.tmp 103) (Go.Operand.tmp 106) (Go.Operand.const (Go.Value.bool false)),type:=4,pos:="session.go:120",after:=#[{ on:=4,ground:=Go.Ground.data },{ on:=7,ground:=Go.Ground.data }],guard:=none },{ dst:=some 6,op:=Go.Op.assign (Go.Operand.tmp 107),type:=4,pos:="session.go:120",after:=#[{ on:=8,ground:=Go.Ground.data },{ on:=7,ground:=Go.Ground.chain },{ on:=0,ground:=Go.Ground.phase },{ on:=1,ground:=Go.Ground.phase },{ on:=2,ground:=Go.Ground.phase },{ on:=3,ground:=Go.Ground.phase },{ on:=4,ground:=Go.Ground.phase },{ on:=5,ground:=Go.Ground.phase },{ on:=6,ground:=Go.Ground.phase },{ on:=7,ground:=Go.Ground.phase },{ on:=8,ground:=Go.Ground.phase }],guard:=none }] false).seq Go.Code.ret) Go.Code.skip)).seq ((Go.Code.region 16 #[{ dst:=some 108,op:=Go.Op.fieldAddr 33 (Go.Operand.tmp 3) 7,type:=0,pos:="session.go:122",after:=#[],guard:=none },{ dst:=some 109,op:=Go.Op.load 29 (Go.Operand.tmp 108),type:=29,pos:="session.go:122",after:=#[{ on:=0,ground:=Go.Ground.data }],guard:=none },{ dst:=some 110,op:=Go.Op.call { callee:=Go.Callee.builtin Go.Builtin.len,args:=#[Go.Operand.tmp 109],argTypes:=#[29] },type:=3,pos:="session.go:122",after:=#[{ on:=1,ground:=Go.Ground.data }],guard:=none },{ dst:=some 111,op:=Go.Op.binOp Go.BinOp.eql 3 (Go.Operand.tmp 110) (Go.Operand.const (Go.Value.int Go.IntKind.i64 0)) 3,type:=4,pos:="session.go:122",after:=#[{ on:=2,ground:=Go.Ground.data }],guard:=none },{ dst:=some 6,op:=Go.Op.assign (Go.Operand.tmp 111),type:=4,pos:="session.go:122",after:=#[{ on:=3,ground:=Go.Ground.data },{ on:=0,ground:=Go.Ground.phase },{ on:=1,ground:=Go.Ground.phase },{ on:=2,ground:=Go.Ground.phase },{ on:=3,ground:=Go.Ground.phase }],guard:=none }] false).seq Go.Code.ret))))).wp Tryd.prog (bodyPost Tryd.prog Tryd.f54 fun e w' => e = .returned (.bool r)∧Below w.heap.size w w') ⟨#[.agg #[.int .i64 a0_0,.int .u64 a0_1,.bool a0_2,.int .u64 a0_3,.int .i64 a0_4,.bool a0_5,.int .u32 a0_6,.int .i64 a0_7,.int .i64 a0_8,.int .i64 a0_9,.int .i64 a0_10,.int .i64 a0_11,.int .i64 a0_12,.int .i64 a0_13,.int .i64 a0_14,.int .i64 a0_15,.int .i64 a0_16,.slice A0_17 l0_17.length c0_17,.slice A0_18 l0_18.length c0_18,.slice A0_19 l0_19.length c0_19],.bool a1,.bool a2,.pointer (some ⟨w.heap.size,0,none⟩),u4,u5,.bool false,u7,u8,u9,u10,u11,u12,u13,u14,u15,u16,u17,u18,u19,u20,u21,u22,u23,u24,u25,u26,u27,u28,u29,u30,u31,u32,u33,u34,u35,u36,u37,u38,u39,u40,u41,u42,u43,u44,u45,u46,u47,u48,u49,u50,u51,u52,u53,u54,u55,u56,u57,u58,u59,u60,u61,u62,u63,u64,u65,u66,u67,u68,u69,u70,u71,u72,u73,u74,u75,u76,u77,u78,u79,u80,u81,u82,u83,u84,u85,u86,u87,u88,u89,u90,u91,u92,u93,u94,u95,u96,u97,u98,u99,u100,u101,u102,u103,u104,u105,u106,u107,u108,u109,u110,u111],[]⟩ W:=by
 have k2:=b0.cell 2
 have k4:=b0.cell 4
 have k7:=b0.cell 7
 have k8:=b0.cell 8
 have k9:=b0.cell 9
 have k10:=b0.cell 10
 have k12:=b0.cell 12
 have k13:=b0.cell 13
 have k14:=b0.cell 14
 have k15:=b0.cell 15
 have k16:=b0.cell 16
 have k17:=b0.cell 17
 have k18:=b0.cell 18
 have k19:=b0.cell 19
 simp at k2 k4 k7 k8 k9 k10 k12 k13 k14 k15 k16 k17 k18 k19
 have HS:=Lib.hid hr0_17
 have HU:=Lib.hid hr0_18
 have HN:=Lib.hid hr0_19
 have n19 : ∀ W' : World,Below W.heap.size W W'→W'.cell? ⟨w.heap.size,19,none⟩ = some (.slice A0_19 l0_19.length c0_19)∧W'.cell? ⟨w.heap.size,12,none⟩ = some (.int .i64 a0_12):=fun W' hb => ⟨keep_cell hb k19,keep_cell hb k12⟩
 clear hr0_17 hr0_18 hr0_19
 obtain ⟨d,hd⟩ : ∃ d,decide (l0_19.length = 0) = d:=⟨_,rfl⟩
 have hd2 : ((l0_19.length : Int) == 0) = d:=by rw [← hd];by_cases hh : l0_19.length = 0 <;> simp [hh]
 have HD:=Lib.hid hd
 clear hd
 by_cases g1 : a0_4 = 4∧a0_12 = 2∧a0_2 = true
 ·rw [if_pos g1] at h
  obtain ⟨e1,e2,e3⟩:=g1
  subst e1 e2 e3
  injection h with h
  subst h
  go_wp2
  go_ret
  exact ⟨rfl,hB⟩
 rw [if_neg g1] at h
 unfold busyTail at h
 obtain ⟨b,hb,h⟩:=Option.bind_eq_some_iff.1 h
 have HB:=Lib.hid hb
 have HH:=Lib.hid h
 clear h hb
 -- the first test
 have t7 : ((a0_4 == 4) && (a0_12 == 2) && a0_2) = false:=by
  cases hx : a0_2
  ·simp
  ·simp;intro h4 h2;exact g1 ⟨h4,h2,hx⟩
 clear g1
 have hb:=HB.out
 have h:=HH.out
 by_cases q : a0_4 = 4
 ·subst q
  by_cases p2 : a0_12 = 2
  ·subst p2
   have hr2 : a0_2 = false:=by simpa using t7
   subst hr2
   rw [if_neg (by omega)] at hb
   have HC:=Lib.hid (session_none.calls k a0_13 a0_14 a0_15 a0_16 A0_17 c0_17 l0_17 A0_18 c0_18 l0_18 b W HS.out hc0_17 HU.out hc0_18 hb)
   clear hb HB HH
   cases b
   ·rw [if_neg (by simp)] at h
    injection h with h
    subst h
    go_wp2_with (go_at_call 61;(with_reducible refine HC.out.mono ?_);rintro e w1 ⟨rfl,hb1⟩)
    go_ret
    exact ⟨rfl,keep_below hB hb1⟩
   ·rw [if_pos rfl,if_pos ⟨rfl,rfl⟩] at h
    by_cases hl : 0 < l0_19.length
    ·rw [if_pos hl] at h
     have HRi:=fun (W' : World) (hb : Below W.heap.size W W') => Lib.hid (session_rises_uint32.calls k A0_19 c0_19 l0_19 r W' (Kd.C_below HN.out hb) hc0_19 h)
     have d0 : decide (0 < (l0_19.length : Int)) = true:=decide_eq_true (by omega)
     have d0n : decide (0 < l0_19.length) = true:=decide_eq_true hl
     clear h hl
     go_wp2_with (first
      | (go_at_call 61;(with_reducible refine HC.out.mono ?_);rintro e w1 ⟨rfl,hb1⟩;obtain ⟨k20,k21⟩:=n19 _ hb1)
      | (go_at_call 46;(with_reducible refine (HRi _ hb1).out.mono ?_);rintro e w2 ⟨rfl,hb2⟩))
     all_goals (go_ret;exact ⟨rfl,keep_below (keep_below hB hb1) hb2.below⟩)
    ·rw [if_neg hl] at h
     injection h with h
     subst h
     have d0 : decide (0 < (l0_19.length : Int)) = false:=decide_eq_false (by omega)
     have d0n : decide (0 < l0_19.length) = false:=decide_eq_false hl
     clear hl
     go_wp2_with (go_at_call 61;(with_reducible refine HC.out.mono ?_);rintro e w1 ⟨rfl,hb1⟩;obtain ⟨k20,k21⟩:=n19 _ hb1)
     go_ret
     exact ⟨rfl,keep_below hB hb1⟩
  have m2 : (a0_12 == 2) = false:=beq_eq_false_iff_ne.mpr p2
  by_cases p1 : a0_12 = 1
  ·subst p1
   rw [if_pos ⟨rfl,rfl⟩] at hb
   obtain ⟨e2,he,hb⟩:=Option.bind_eq_some_iff.1 hb
   injection hb with hb
   have HC:=Lib.hid (cursor_Check.calls a0_13 a0_14 a0_15 a0_16 A0_17 c0_17 l0_17 A0_18 c0_18 l0_18 e2 W HS.out hc0_17 HU.out hc0_18 he)
   clear he HB HH
   have n13 : ∀ W' : World,Below W.heap.size W W'→W'.cell? ⟨w.heap.size,13,none⟩ = some (.int .i64 a0_13)∧W'.cell? ⟨w.heap.size,14,none⟩ = some (.int .i64 a0_14)∧W'.cell? ⟨w.heap.size,15,none⟩ = some (.int .i64 a0_15)∧W'.cell? ⟨w.heap.size,16,none⟩ = some (.int .i64 a0_16)∧W'.cell? ⟨w.heap.size,7,none⟩ = some (.int .i64 a0_7)∧W'.cell? ⟨w.heap.size,8,none⟩ = some (.int .i64 a0_8)∧W'.cell? ⟨w.heap.size,9,none⟩ = some (.int .i64 a0_9)∧W'.cell? ⟨w.heap.size,10,none⟩ = some (.int .i64 a0_10):=fun W' hb => ⟨keep_cell hb k13,keep_cell hb k14,keep_cell hb k15,keep_cell hb k16,keep_cell hb k7,keep_cell hb k8,keep_cell hb k9,keep_cell hb k10⟩
   by_cases h2 : e2 = 0
   ·subst h2
    obtain ⟨bw,hbw⟩ : ∃ bw,(a0_13 == a0_7 && (a0_14 == a0_8 && (a0_15 == a0_9 && (a0_16 == a0_10)))) = bw:=⟨_,rfl⟩
    rw [hbw] at hb
    simp only [decide_true,Bool.true_and] at hb
    subst hb
    cases bw
    ·rw [if_neg (by simp)] at h
     injection h with h
     subst h
     go_wp2_with (go_at_call 45;(with_reducible refine HC.out.mono ?_);rintro e w1 ⟨rfl,hb1⟩;obtain ⟨j0,j1,j2,j3,j4,j5,j6,j7⟩:=n13 _ hb1)
     go_ret
     exact ⟨rfl,keep_below hB hb1⟩
    ·rw [if_pos rfl,if_neg (fun hh => p2 hh.2),HD.out] at h
     injection h with h
     subst h
     go_wp2_with (go_at_call 45;(with_reducible refine HC.out.mono ?_);rintro e w1 ⟨rfl,hb1⟩;obtain ⟨j0,j1,j2,j3,j4,j5,j6,j7⟩:=n13 _ hb1;obtain ⟨k20,k21⟩:=n19 _ hb1)
     go_ret
     exact ⟨rfl,keep_below hB hb1⟩
   ·have h3 : (e2 != 0) = true:=bne_iff_ne.mpr h2
    have hb' : b = false:=by rw [← hb];simp [h2]
    subst hb'
    clear hb h2
    rw [if_neg (by simp)] at h
    injection h with h
    subst h
    go_wp2_with (go_at_call 45;(with_reducible refine HC.out.mono ?_);rintro e w1 ⟨rfl,hb1⟩)
    go_ret
    exact ⟨rfl,keep_below hB hb1⟩
  have m1 : (a0_12 == 1) = false:=beq_eq_false_iff_ne.mpr p1
  rw [if_neg (fun hh => p1 hh.2)] at hb
  have HC:=Lib.hid (session_none.calls k a0_13 a0_14 a0_15 a0_16 A0_17 c0_17 l0_17 A0_18 c0_18 l0_18 b W HS.out hc0_17 HU.out hc0_18 hb)
  clear hb HB HH
  cases b
  ·rw [if_neg (by simp)] at h
   injection h with h
   subst h
   go_wp2_with (go_at_call 61;(with_reducible refine HC.out.mono ?_);rintro e w1 ⟨rfl,hb1⟩)
   go_ret
   exact ⟨rfl,keep_below hB hb1⟩
  ·rw [if_pos rfl,if_neg (fun hh => p2 hh.2),HD.out] at h
   injection h with h
   subst h
   go_wp2_with (go_at_call 61;(with_reducible refine HC.out.mono ?_);rintro e w1 ⟨rfl,hb1⟩;obtain ⟨k20,k21⟩:=n19 _ hb1)
   go_ret
   exact ⟨rfl,keep_below hB hb1⟩
 ·have q1 : (a0_4 == 4) = false:=beq_eq_false_iff_ne.mpr q
  rw [if_neg (fun hh => q hh.1)] at hb
  have HC:=Lib.hid (session_none.calls k a0_13 a0_14 a0_15 a0_16 A0_17 c0_17 l0_17 A0_18 c0_18 l0_18 b W HS.out hc0_17 HU.out hc0_18 hb)
  clear hb HB HH
  cases b
  ·rw [if_neg (by simp)] at h
   injection h with h
   subst h
   go_wp2_with (go_at_call 61;(with_reducible refine HC.out.mono ?_);rintro e w1 ⟨rfl,hb1⟩)
   go_ret
   exact ⟨rfl,keep_below hB hb1⟩
  ·rw [if_pos rfl,if_neg (fun hh => q hh.1),HD.out] at h
   injection h with h
   subst h
   go_wp2_with (go_at_call 61;(with_reducible refine HC.out.mono ?_);rintro e w1 ⟨rfl,hb1⟩;obtain ⟨k20,k21⟩:=n19 _ hb1)
   go_ret
   exact ⟨rfl,keep_below hB hb1⟩
def busyMid (k : Nat) (a0_0 : Int) (a0_1 : Int) (a0_2 : Bool) (a0_3 : Int) (a0_4 : Int) (a0_5 : Bool) (a0_6 : Int) (a0_7 : Int) (a0_8 : Int) (a0_9 : Int) (a0_10 : Int) (a0_11 : Int) (a0_12 : Int) (a0_13 : Int) (a0_14 : Int) (a0_15 : Int) (a0_16 : Int) (l0_17 : List (S63)) (l0_18 : List Int) (l0_19 : List Int) (t : Bool) (st : Int) (rd : Bool) : Option Bool :=
  if t = true then (session_plain.f a0_4 a0_5 a0_6 a0_7 a0_8 a0_9 a0_10 a0_11).bind fun p => if opEq a0_4 a0_5 a0_6 a0_7 a0_8 a0_9 a0_10 a0_11 p = true then
      (session_refuse.f k st 0 rd 0 0 false 0 0 0 0 0 0 0 0 0 0 0 [] [] [] 1 a0_4 a0_5 a0_6 a0_7 a0_8 a0_9 a0_10 a0_11).bind fun e => if e = 0 then
        if a0_12 < 0 ∨ 3 < a0_12 then some false else
        if 0 ≤ a0_4 ∧ a0_4 < 7 then (if tabF a0_4 a0_12 = 0 then some false else if a0_4 = 4 ∧ a0_12 = 2 ∧ a0_2 = true then some false else busyTail k a0_0 a0_1 a0_2 a0_3 a0_4 a0_5 a0_6 a0_7 a0_8 a0_9 a0_10 a0_11 a0_12 a0_13 a0_14 a0_15 a0_16 l0_17 l0_18 l0_19) else none
      else some false
    else some false
  else some false
def bz4.T4 : Bool × List (List Nat × List Nat) := (true, [([], []), ([0], [0]), ([1], [1]), ([2], [2]), ([3, 2], [2, 3]), ([2], [2]), ([5, 2], [2, 5]), ([6, 2, 2], [2, 6]), ([4, 7, 2], [2, 4, 7]), ([2, 8], [2, 8]), ([9, 7], [9]), ([10], [10]), ([10], [10]), ([12, 10], [10, 12]), ([11, 13, 10, 10], [10, 11, 13]), ([14, 10], [10, 14]), ([10, 15], [10, 15]), ([16, 14], [16]), ([17], [17]), ([18, 17], [17, 18]), ([19, 17], [17, 19]), ([17, 20], [17, 20]), ([21, 17], [21]), ([22], [22]), ([23, 22], [22, 23]), ([24, 22], [22, 24]), ([22, 25], [22, 25]), ([26, 22], [26]), ([27], [27]), ([28, 27], [27, 28]), ([29, 27], [27, 29]), ([27], [27]), ([31, 27], [27, 31]), ([30, 27], [27, 30]), ([33, 32, 27], [27, 32, 33]), ([34, 27], [27, 34]), ([35, 27], [27, 35]), ([27, 36], [27, 36])])
def bz4.B4 : List Nat := [0, 1, 3, 7, 15, 7, 39, 103, 255, 511, 1023, 2047, 2047, 6143, 16383, 32767, 65535, 131071, 262143, 524287, 1048575, 2097151, 4194303, 8388607, 16777215, 33554431, 67108863, 134217727, 268435455, 536870911, 1073741823, 268435455, 2415919103, 2147483647, 17179869183, 34359738367, 68719476735, 137438953471]
theorem bz4.tab4 : rtab .any (opsOf Tryd.f54 4) = bz4.T4 := by kernel_rfl
theorem bz4.bits4 : waitsOk bz4.T4.2 bz4.B4 = true := by kernel_rfl
set_option maxHeartbeats 8000000 in
set_option maxRecDepth 100000 in
theorem busy4_a (k : Nat) (a0_0 : Int) (a0_1 : Int) (a0_2 : Bool) (a0_3 : Int) (a0_4 : Int) (a0_5 : Bool) (a0_6 : Int) (a0_7 : Int) (a0_8 : Int) (a0_9 : Int) (a0_10 : Int) (a0_11 : Int) (a0_12 : Int) (a0_13 : Int) (a0_14 : Int) (a0_15 : Int) (a0_16 : Int) (A0_17 : Option Addr) (c0_17 : Nat) (l0_17 : List (S63)) (A0_18 : Option Addr) (c0_18 : Nat) (l0_18 : List Int) (A0_19 : Option Addr) (c0_19 : Nat) (l0_19 : List Int) (a2 : Bool) (st : Int) (rd : Bool) (w W : World) (u4 u5 u8 u9 u10 u11 u12 u13 u14 u15 u16 u17 u18 u19 u20 u21 u22 u23 u24 u25 u26 u27 u28 u29 u30 u31 u32 u33 u34 u35 u36 u37 u38 u39 u40 u41 u42 u43 u44 u45 u46 u47 u48 u49 u50 u51 u52 u53 u54 u55 u56 u57 u58 u59 u60 u61 u62 u63 u64 u65 u66 u67 u68 u69 u70 u71 u72 u73 u74 u75 u76 u77 u78 u79 u80 u81 u82 u83 u84 u85 u86 u87 u88 u89 u90 u91 u92 u93 u94 u95 u96 u97 u98 u99 u100 u101 u102 u103 u104 u105 u106 u107 u108 u109 u110 u111 : Value) 
  (hB : Below w.heap.size w W) (b0 : Blk W w.heap.size 33 #[.int .i64 a0_0,.int .u64 a0_1,.bool a0_2,.int .u64 a0_3,.int .i64 a0_4,.bool a0_5,.int .u32 a0_6,.int .i64 a0_7,.int .i64 a0_8,.int .i64 a0_9,.int .i64 a0_10,.int .i64 a0_11,.int .i64 a0_12,.int .i64 a0_13,.int .i64 a0_14,.int .i64 a0_15,.int .i64 a0_16,.slice A0_17 l0_17.length c0_17,.slice A0_18 l0_18.length c0_18,.slice A0_19 l0_19.length c0_19]) (b1 : Blk W (w.heap.size+1) 33 #[.int .i64 st,.int .u64 0,.bool rd,.int .u64 0,.int .i64 0,.bool false,.int .u32 0,.int .i64 0,.int .i64 0,.int .i64 0,.int .i64 0,.int .i64 0,.int .i64 0,.int .i64 0,.int .i64 0,.int .i64 0,.int .i64 0,.slice none 0 0,.slice none 0 0,.slice none 0 0]) :
  (((Go.Code.region 4 #[{ dst:=some 18,op:=Go.Op.move (Go.Operand.tmp 1),type:=4,pos:="session.go:105",after:=#[],guard:=none },{ dst:=some 19,op:=Go.Op.unOp Go.UnOp.not 4 (Go.Operand.tmp 18),type:=4,pos:="session.go:105",after:=#[{ on:=0,ground:=Go.Ground.data }],guard:=none },{ dst:=some 20,op:=Go.Op.move (Go.Operand.tmp 19),type:=4,pos:="session.go:105",after:=#[{ on:=1,ground:=Go.Ground.data }],guard:=none },{ dst:=some 21,op:=Go.Op.fieldAddr 33 (Go.Operand.tmp 3) 4,type:=0,pos:="session.go:105",after:=#[{ on:=2,ground:=Go.Ground.guard }],guard:=some (2,false) },{ dst:=some 22,op:=Go.Op.load 27 (Go.Operand.tmp 21),type:=27,pos:="session.go:105",after:=#[{ on:=3,ground:=Go.Ground.data },{ on:=2,ground:=Go.Ground.guard }],guard:=some (2,false) },{ dst:=some 23,op:=Go.Op.fieldAddr 33 (Go.Operand.tmp 3) 4,type:=0,pos:="session.go:105",after:=#[{ on:=2,ground:=Go.Ground.guard }],guard:=some (2,false) },{ dst:=some 24,op:=Go.Op.load 27 (Go.Operand.tmp 23),type:=27,pos:="session.go:105",after:=#[{ on:=5,ground:=Go.Ground.data },{ on:=2,ground:=Go.Ground.guard }],guard:=some (2,false) },{ dst:=some 25,op:=Go.Op.call { callee:=Go.Callee.value (Go.Operand.func 32),args:=#[Go.Operand.tmp 24],argTypes:=#[27] },type:=27,pos:="session.go:105",after:=#[{ on:=6,ground:=Go.Ground.data },{ on:=2,ground:=Go.Ground.chain },{ on:=2,ground:=Go.Ground.guard }],guard:=some (2,false) },{ dst:=some 26,op:=Go.Op.binOp Go.BinOp.neq 27 (Go.Operand.tmp 22) (Go.Operand.tmp 25) 27,type:=4,pos:="session.go:105",after:=#[{ on:=4,ground:=Go.Ground.data },{ on:=7,ground:=Go.Ground.data },{ on:=2,ground:=Go.Ground.guard }],guard:=some (2,false) },{ dst:=some 27,op:=Go.Op.pick (Go.Operand.tmp 20) (Go.Operand.const (Go.Value.bool true)) (Go.Operand.tmp 26),type:=4,pos:="session.go:105",after:=#[{ on:=2,ground:=Go.Ground.data },{ on:=8,ground:=Go.Ground.data }],guard:=none },{ dst:=some 28,op:=Go.Op.move (Go.Operand.tmp 27),type:=4,pos:="session.go:105",after:=#[{ on:=9,ground:=Go.Ground.data },{ on:=7,ground:=Go.Ground.chain }],guard:=none },{ dst:=some 29,op:=Go.Op.load 33 (Go.Operand.tmp 7),type:=33,pos:="session.go:105",after:=#[{ on:=10,ground:=Go.Ground.guard }],guard:=some (10,false) },{ dst:=some 30,op:=Go.Op.fieldAddr 33 (Go.Operand.tmp 3) 4,type:=0,pos:="session.go:105",after:=#[{ on:=10,ground:=Go.Ground.guard }],guard:=some (10,false) },{ dst:=some 31,op:=Go.Op.load 27 (Go.Operand.tmp 30),type:=27,pos:="session.go:105",after:=#[{ on:=12,ground:=Go.Ground.data },{ on:=10,ground:=Go.Ground.guard }],guard:=some (10,false) },{ dst:=some 32,op:=Go.Op.call { callee:=Go.Callee.value (Go.Operand.func 30),args:=#[Go.Operand.tmp 29,Go.Operand.const (Go.Value.int Go.IntKind.i64 1),Go.Operand.tmp 31],argTypes:=#[33,3,27] },type:=36,pos:="session.go:105",after:=#[{ on:=11,ground:=Go.Ground.data },{ on:=13,ground:=Go.Ground.data },{ on:=10,ground:=Go.Ground.chain },{ on:=10,ground:=Go.Ground.guard }],guard:=some (10,false) },{ dst:=some 33,op:=Go.Op.binOp Go.BinOp.neq 36 (Go.Operand.tmp 32) (Go.Operand.const (Go.Value.int Go.IntKind.i64 0)) 36,type:=4,pos:="session.go:105",after:=#[{ on:=14,ground:=Go.Ground.data },{ on:=10,ground:=Go.Ground.guard }],guard:=some (10,false) },{ dst:=some 34,op:=Go.Op.pick (Go.Operand.tmp 28) (Go.Operand.const (Go.Value.bool true)) (Go.Operand.tmp 33),type:=4,pos:="session.go:105",after:=#[{ on:=10,ground:=Go.Ground.data },{ on:=15,ground:=Go.Ground.data }],guard:=none },{ dst:=some 35,op:=Go.Op.move (Go.Operand.tmp 34),type:=4,pos:="session.go:105",after:=#[{ on:=16,ground:=Go.Ground.data },{ on:=14,ground:=Go.Ground.chain }],guard:=none },{ dst:=some 36,op:=Go.Op.fieldAddr 33 (Go.Operand.tmp 3) 5,type:=0,pos:="session.go:105",after:=#[{ on:=17,ground:=Go.Ground.guard }],guard:=some (17,false) },{ dst:=some 37,op:=Go.Op.load 3 (Go.Operand.tmp 36),type:=3,pos:="session.go:105",after:=#[{ on:=18,ground:=Go.Ground.data },{ on:=17,ground:=Go.Ground.guard }],guard:=some (17,false) },{ dst:=some 38,op:=Go.Op.binOp Go.BinOp.lss 3 (Go.Operand.tmp 37) (Go.Operand.const (Go.Value.int Go.IntKind.i64 0)) 3,type:=4,pos:="session.go:105",after:=#[{ on:=19,ground:=Go.Ground.data },{ on:=17,ground:=Go.Ground.guard }],guard:=some (17,false) },{ dst:=some 39,op:=Go.Op.pick (Go.Operand.tmp 35) (Go.Operand.const (Go.Value.bool true)) (Go.Operand.tmp 38),type:=4,pos:="session.go:105",after:=#[{ on:=17,ground:=Go.Ground.data },{ on:=20,ground:=Go.Ground.data }],guard:=none },{ dst:=some 40,op:=Go.Op.move (Go.Operand.tmp 39),type:=4,pos:="session.go:105",after:=#[{ on:=21,ground:=Go.Ground.data },{ on:=17,ground:=Go.Ground.chain }],guard:=none },{ dst:=some 41,op:=Go.Op.fieldAddr 33 (Go.Operand.tmp 3) 5,type:=0,pos:="session.go:105",after:=#[{ on:=22,ground:=Go.Ground.guard }],guard:=some (22,false) },{ dst:=some 42,op:=Go.Op.load 3 (Go.Operand.tmp 41),type:=3,pos:="session.go:105",after:=#[{ on:=23,ground:=Go.Ground.data },{ on:=22,ground:=Go.Ground.guard }],guard:=some (22,false) },{ dst:=some 43,op:=Go.Op.binOp Go.BinOp.gtr 3 (Go.Operand.tmp 42) (Go.Operand.const (Go.Value.int Go.IntKind.i64 3)) 3,type:=4,pos:="session.go:105",after:=#[{ on:=24,ground:=Go.Ground.data },{ on:=22,ground:=Go.Ground.guard }],guard:=some (22,false) },{ dst:=some 44,op:=Go.Op.pick (Go.Operand.tmp 40) (Go.Operand.const (Go.Value.bool true)) (Go.Operand.tmp 43),type:=4,pos:="session.go:105",after:=#[{ on:=22,ground:=Go.Ground.data },{ on:=25,ground:=Go.Ground.data }],guard:=none },{ dst:=some 45,op:=Go.Op.move (Go.Operand.tmp 44),type:=4,pos:="session.go:105",after:=#[{ on:=26,ground:=Go.Ground.data },{ on:=22,ground:=Go.Ground.chain }],guard:=none },{ dst:=some 46,op:=Go.Op.fieldAddr 33 (Go.Operand.tmp 3) 4,type:=0,pos:="session.go:105",after:=#[{ on:=27,ground:=Go.Ground.guard }],guard:=some (27,false) },{ dst:=some 47,op:=Go.Op.fieldAddr 27 (Go.Operand.tmp 46) 0,type:=0,pos:="session.go:105",after:=#[{ on:=28,ground:=Go.Ground.data },{ on:=27,ground:=Go.Ground.guard }],guard:=some (27,false) },{ dst:=some 48,op:=Go.Op.load 3 (Go.Operand.tmp 47),type:=3,pos:="session.go:105",after:=#[{ on:=29,ground:=Go.Ground.data },{ on:=27,ground:=Go.Ground.guard }],guard:=some (27,false) },{ dst:=some 49,op:=Go.Op.fieldAddr 33 (Go.Operand.tmp 3) 5,type:=0,pos:="session.go:105",after:=#[{ on:=27,ground:=Go.Ground.guard }],guard:=some (27,false) },{ dst:=some 50,op:=Go.Op.load 3 (Go.Operand.tmp 49),type:=3,pos:="session.go:105",after:=#[{ on:=31,ground:=Go.Ground.data },{ on:=27,ground:=Go.Ground.guard }],guard:=some (27,false) },{ dst:=some 51,op:=Go.Op.indexAddr 82 (Go.Operand.global 0) (Go.Operand.tmp 48),type:=0,pos:="session.go:105",after:=#[{ on:=30,ground:=Go.Ground.data },{ on:=27,ground:=Go.Ground.guard }],guard:=some (27,false) },{ dst:=some 52,op:=Go.Op.indexAddr 81 (Go.Operand.tmp 51) (Go.Operand.tmp 50),type:=0,pos:="session.go:105",after:=#[{ on:=33,ground:=Go.Ground.data },{ on:=32,ground:=Go.Ground.data },{ on:=27,ground:=Go.Ground.guard }],guard:=some (27,false) },{ dst:=some 53,op:=Go.Op.load 3 (Go.Operand.tmp 52),type:=3,pos:="session.go:105",after:=#[{ on:=34,ground:=Go.Ground.data },{ on:=27,ground:=Go.Ground.guard }],guard:=some (27,false) },{ dst:=some 54,op:=Go.Op.binOp Go.BinOp.eql 3 (Go.Operand.tmp 53) (Go.Operand.const (Go.Value.int Go.IntKind.i64 0)) 3,type:=4,pos:="session.go:105",after:=#[{ on:=35,ground:=Go.Ground.data },{ on:=27,ground:=Go.Ground.guard }],guard:=some (27,false) },{ dst:=some 55,op:=Go.Op.pick (Go.Operand.tmp 45) (Go.Operand.const (Go.Value.bool true)) (Go.Operand.tmp 54),type:=4,pos:="session.go:105",after:=#[{ on:=27,ground:=Go.Ground.data },{ on:=36,ground:=Go.Ground.data }],guard:=none }] true).seq (Go.Code.cond (Go.Operand.tmp 55) ((Go.Code.region 5 #[{ dst:=some 6,op:=Go.Op.assign (Go.Operand.const (Go.Value.bool false)),type:=4,pos:="session.go:106",after:=#[],guard:=none }] false).seq Go.Code.ret) Go.Code.skip)).seq ((Go.Code.region 6 #[{ dst:=some 56,op:=Go.Op.fieldAddr 33 (Go.Operand.tmp 3) 4,type:=0,pos:="session.go:108",after:=#[],guard:=none },{ dst:=some 57,op:=Go.Op.fieldAddr 27 (Go.Operand.tmp 56) 0,type:=0,pos:="session.go:108",after:=#[{ on:=0,ground:=Go.Ground.data }],guard:=none },{ dst:=some 58,op:=Go.Op.load 3 (Go.Operand.tmp 57),type:=3,pos:="session.go:108",after:=#[{ on:=1,ground:=Go.Ground.data }],guard:=none },{ dst:=some 59,op:=Go.Op.binOp Go.BinOp.eql 3 (Go.Operand.tmp 58) (Go.Operand.const (Go.Value.int Go.IntKind.i64 4)) 3,type:=4,pos:="session.go:108",after:=#[{ on:=2,ground:=Go.Ground.data }],guard:=none },{ dst:=some 8,op:=Go.Op.assign (Go.Operand.tmp 59),type:=4,pos:="session.go:108",after:=#[{ on:=3,ground:=Go.Ground.data },{ on:=0,ground:=Go.Ground.phase },{ on:=1,ground:=Go.Ground.phase },{ on:=2,ground:=Go.Ground.phase },{ on:=3,ground:=Go.Ground.phase }],guard:=none }] false).seq (((Go.Code.region 7 #[{ dst:=some 60,op:=Go.Op.move (Go.Operand.tmp 8),type:=4,pos:="session.go:109",after:=#[],guard:=none },{ dst:=some 61,op:=Go.Op.move (Go.Operand.tmp 60),type:=4,pos:="session.go:109",after:=#[{ on:=0,ground:=Go.Ground.data }],guard:=none },{ dst:=some 62,op:=Go.Op.fieldAddr 33 (Go.Operand.tmp 3) 5,type:=0,pos:="session.go:109",after:=#[{ on:=1,ground:=Go.Ground.guard }],guard:=some (1,true) },{ dst:=some 63,op:=Go.Op.load 3 (Go.Operand.tmp 62),type:=3,pos:="session.go:109",after:=#[{ on:=2,ground:=Go.Ground.data },{ on:=1,ground:=Go.Ground.guard }],guard:=some (1,true) },{ dst:=some 64,op:=Go.Op.binOp Go.BinOp.eql 3 (Go.Operand.tmp 63) (Go.Operand.const (Go.Value.int Go.IntKind.i64 2)) 3,type:=4,pos:="session.go:109",after:=#[{ on:=3,ground:=Go.Ground.data },{ on:=1,ground:=Go.Ground.guard }],guard:=some (1,true) },{ dst:=some 65,op:=Go.Op.pick (Go.Operand.tmp 61) (Go.Operand.tmp 64) (Go.Operand.const (Go.Value.bool false)),type:=4,pos:="session.go:109",after:=#[{ on:=1,ground:=Go.Ground.data },{ on:=4,ground:=Go.Ground.data }],guard:=none },{ dst:=some 66,op:=Go.Op.move (Go.Operand.tmp 65),type:=4,pos:="session.go:109",after:=#[{ on:=5,ground:=Go.Ground.data },{ on:=1,ground:=Go.Ground.chain }],guard:=none },{ dst:=some 67,op:=Go.Op.fieldAddr 33 (Go.Operand.tmp 3) 2,type:=0,pos:="session.go:109",after:=#[{ on:=6,ground:=Go.Ground.guard }],guard:=some (6,true) },{ dst:=some 68,op:=Go.Op.load 4 (Go.Operand.tmp 67),type:=4,pos:="session.go:109",after:=#[{ on:=7,ground:=Go.Ground.data },{ on:=6,ground:=Go.Ground.guard }],guard:=some (6,true) },{ dst:=some 69,op:=Go.Op.pick (Go.Operand.tmp 66) (Go.Operand.tmp 68) (Go.Operand.const (Go.Value.bool false)),type:=4,pos:="session.go:109",after:=#[{ on:=6,ground:=Go.Ground.data },{ on:=8,ground:=Go.Ground.data }],guard:=none }] false).seq (Go.Code.cond (Go.Operand.tmp 69) ((Go.Code.region 8 #[{ dst:=some 6,op:=Go.Op.assign (Go.Operand.const (Go.Value.bool false)),type:=4,pos:="session.go:110",after:=#[],guard:=none }] false).seq Go.Code.ret) Go.Code.skip)).seq (((Go.Code.region 9 #[{ dst:=some 70,op:=Go.Op.move (Go.Operand.tmp 8),type:=4,pos:="session.go:112",after:=#[],guard:=none },{ dst:=some 71,op:=Go.Op.move (Go.Operand.tmp 70),type:=4,pos:="session.go:112",after:=#[{ on:=0,ground:=Go.Ground.data }],guard:=none },{ dst:=some 72,op:=Go.Op.fieldAddr 33 (Go.Operand.tmp 3) 5,type:=0,pos:="session.go:112",after:=#[{ on:=1,ground:=Go.Ground.guard }],guard:=some (1,true) },{ dst:=some 73,op:=Go.Op.load 3 (Go.Operand.tmp 72),type:=3,pos:="session.go:112",after:=#[{ on:=2,ground:=Go.Ground.data },{ on:=1,ground:=Go.Ground.guard }],guard:=some (1,true) },{ dst:=some 74,op:=Go.Op.binOp Go.BinOp.eql 3 (Go.Operand.tmp 73) (Go.Operand.const (Go.Value.int Go.IntKind.i64 1)) 3,type:=4,pos:="session.go:112",after:=#[{ on:=3,ground:=Go.Ground.data },{ on:=1,ground:=Go.Ground.guard }],guard:=some (1,true) },{ dst:=some 75,op:=Go.Op.pick (Go.Operand.tmp 71) (Go.Operand.tmp 74) (Go.Operand.const (Go.Value.bool false)),type:=4,pos:="session.go:112",after:=#[{ on:=1,ground:=Go.Ground.data },{ on:=4,ground:=Go.Ground.data }],guard:=none }] false).seq (Go.Code.cond (Go.Operand.tmp 75) ((Go.Code.region 10 #[{ dst:=some 76,op:=Go.Op.fieldAddr 33 (Go.Operand.tmp 3) 6,type:=0,pos:="session.go:113",after:=#[],guard:=none },{ dst:=some 77,op:=Go.Op.load 31 (Go.Operand.tmp 76),type:=31,pos:="session.go:113",after:=#[{ on:=0,ground:=Go.Ground.data }],guard:=none },{ dst:=some 78,op:=Go.Op.call { callee:=Go.Callee.value (Go.Operand.func 45),args:=#[Go.Operand.tmp 77],argTypes:=#[31] },type:=36,pos:="session.go:113",after:=#[{ on:=1,ground:=Go.Ground.data }],guard:=none },{ dst:=some 79,op:=Go.Op.binOp Go.BinOp.neq 36 (Go.Operand.tmp 78) (Go.Operand.const (Go.Value.int Go.IntKind.i64 0)) 36,type:=4,pos:="session.go:113",after:=#[{ on:=2,ground:=Go.Ground.data }],guard:=none },{ dst:=some 80,op:=Go.Op.move (Go.Operand.tmp 79),type:=4,pos:="session.go:113",after:=#[{ on:=3,ground:=Go.Ground.data },{ on:=2,ground:=Go.Ground.chain }],guard:=none },{ dst:=some 81,op:=Go.Op.fieldAddr 33 (Go.Operand.tmp 3) 6,type:=0,pos:="session.go:113",after:=#[{ on:=4,ground:=Go.Ground.guard }],guard:=some (4,false) },{ dst:=some 82,op:=Go.Op.fieldAddr 31 (Go.Operand.tmp 81) 0,type:=0,pos:="session.go:113",after:=#[{ on:=5,ground:=Go.Ground.data },{ on:=4,ground:=Go.Ground.guard }],guard:=some (4,false) },{ dst:=some 83,op:=Go.Op.load 25 (Go.Operand.tmp 82),type:=25,pos:="session.go:113",after:=#[{ on:=6,ground:=Go.Ground.data },{ on:=4,ground:=Go.Ground.guard }],guard:=some (4,false) },{ dst:=some 84,op:=Go.Op.fieldAddr 33 (Go.Operand.tmp 3) 4,type:=0,pos:="session.go:113",after:=#[{ on:=4,ground:=Go.Ground.guard }],guard:=some (4,false) },{ dst:=some 85,op:=Go.Op.fieldAddr 27 (Go.Operand.tmp 84) 3,type:=0,pos:="session.go:113",after:=#[{ on:=8,ground:=Go.Ground.data },{ on:=4,ground:=Go.Ground.guard }],guard:=some (4,false) },{ dst:=some 86,op:=Go.Op.load 25 (Go.Operand.tmp 85),type:=25,pos:="session.go:113",after:=#[{ on:=9,ground:=Go.Ground.data },{ on:=4,ground:=Go.Ground.guard }],guard:=some (4,false) },{ dst:=some 87,op:=Go.Op.binOp Go.BinOp.neq 25 (Go.Operand.tmp 83) (Go.Operand.tmp 86) 25,type:=4,pos:="session.go:113",after:=#[{ on:=7,ground:=Go.Ground.data },{ on:=10,ground:=Go.Ground.data },{ on:=4,ground:=Go.Ground.guard }],guard:=some (4,false) },{ dst:=some 88,op:=Go.Op.pick (Go.Operand.tmp 80) (Go.Operand.const (Go.Value.bool true)) (Go.Operand.tmp 87),type:=4,pos:="session.go:113",after:=#[{ on:=4,ground:=Go.Ground.data },{ on:=11,ground:=Go.Ground.data }],guard:=none }] false).seq (Go.Code.cond (Go.Operand.tmp 88) ((Go.Code.region 11 #[{ dst:=some 6,op:=Go.Op.assign (Go.Operand.const (Go.Value.bool false)),type:=4,pos:="session.go:114",after:=#[],guard:=none }] false).seq Go.Code.ret) Go.Code.skip)) ((Go.Code.region 12 #[{ dst:=some 89,op:=Go.Op.fieldAddr 33 (Go.Operand.tmp 3) 6,type:=0,pos:="session.go:116",after:=#[],guard:=none },{ dst:=some 90,op:=Go.Op.load 31 (Go.Operand.tmp 89),type:=31,pos:="session.go:116",after:=#[{ on:=0,ground:=Go.Ground.data }],guard:=none },{ dst:=some 91,op:=Go.Op.call { callee:=Go.Callee.value (Go.Operand.func 61),args:=#[Go.Operand.tmp 90],argTypes:=#[31] },type:=4,pos:="session.go:116",after:=#[{ on:=1,ground:=Go.Ground.data }],guard:=none },{ dst:=some 92,op:=Go.Op.unOp Go.UnOp.not 4 (Go.Operand.tmp 91),type:=4,pos:="session.go:116",after:=#[{ on:=2,ground:=Go.Ground.data }],guard:=none }] false).seq (Go.Code.cond (Go.Operand.tmp 92) ((Go.Code.region 13 #[{ dst:=some 6,op:=Go.Op.assign (Go.Operand.const (Go.Value.bool false)),type:=4,pos:="session.go:117",after:=#[],guard:=none }] false).seq Go.Code.ret) Go.Code.skip)))).seq (((Go.Code.region 14 #[{ dst:=some 93,op:=Go.Op.move (Go.Operand.tmp 8),type:=4,pos:="session.go:119",after:=#[],guard:=none },{ dst:=some 94,op:=Go.Op.move (Go.Operand.tmp 93),type:=4,pos:="session.go:119",after:=#[{ on:=0,ground:=Go.Ground.data }],guard:=none },{ dst:=some 95,op:=Go.Op.fieldAddr 33 (Go.Operand.tmp 3) 5,type:=0,pos:="session.go:119",after:=#[{ on:=1,ground:=Go.Ground.guard }],guard:=some (1,true) },{ dst:=some 96,op:=Go.Op.load 3 (Go.Operand.tmp 95),type:=3,pos:="session.go:119",after:=#[{ on:=2,ground:=Go.Ground.data },{ on:=1,ground:=Go.Ground.guard }],guard:=some (1,true) },{ dst:=some 97,op:=Go.Op.binOp Go.BinOp.eql 3 (Go.Operand.tmp 96) (Go.Operand.const (Go.Value.int Go.IntKind.i64 2)) 3,type:=4,pos:="session.go:119",after:=#[{ on:=3,ground:=Go.Ground.data },{ on:=1,ground:=Go.Ground.guard }],guard:=some (1,true) },{ dst:=some 98,op:=Go.Op.pick (Go.Operand.tmp 94) (Go.Operand.tmp 97) (Go.Operand.const (Go.Value.bool false)),type:=4,pos:="session.go:119",after:=#[{ on:=1,ground:=Go.Ground.data },{ on:=4,ground:=Go.Ground.data }],guard:=none }] false).seq (Go.Code.cond (Go.Operand.tmp 98) ((Go.Code.region 15 #[{ dst:=some 99,op:=Go.Op.fieldAddr 33 (Go.Operand.tmp 3) 7,type:=0,pos:="session.go:120",after:=#[],guard:=none },{ dst:=some 100,op:=Go.Op.load 29 (Go.Operand.tmp 99),type:=29,pos:="session.go:120",after:=#[{ on:=0,ground:=Go.Ground.data }],guard:=none },{ dst:=some 101,op:=Go.Op.call { callee:=Go.Callee.builtin Go.Builtin.len,args:=#[Go.Operand.tmp 100],argTypes:=#[29] },type:=3,pos:="session.go:120",after:=#[{ on:=1,ground:=Go.Ground.data }],guard:=none },{ dst:=some 102,op:=Go.Op.binOp Go.BinOp.gtr 3 (Go.Operand.tmp 101) (Go.Operand.const (Go.Value.int Go.IntKind.i64 0)) 3,type:=4,pos:="session.go:120",after:=#[{ on:=2,ground:=Go.Ground.data }],guard:=none },{ dst:=some 103,op:=Go.Op.move (Go.Operand.tmp 102),type:=4,pos:="session.go:120",after:=#[{ on:=3,ground:=Go.Ground.data }],guard:=none },{ dst:=some 104,op:=Go.Op.fieldAddr 33 (Go.Operand.tmp 3) 7,type:=0,pos:="session.go:120",after:=#[{ on:=4,ground:=Go.Ground.guard }],guard:=some (4,true) },{ dst:=some 105,op:=Go.Op.load 29 (Go.Operand.tmp 104),type:=29,pos:="session.go:120",after:=#[{ on:=5,ground:=Go.Ground.data },{ on:=4,ground:=Go.Ground.guard }],guard:=some (4,true) },{ dst:=some 106,op:=Go.Op.call { callee:=Go.Callee.value (Go.Operand.func 46),args:=#[Go.Operand.tmp 105],argTypes:=#[29] },type:=4,pos:="session.go:120",after:=#[{ on:=6,ground:=Go.Ground.data },{ on:=4,ground:=Go.Ground.chain },{ on:=4,ground:=Go.Ground.guard }],guard:=some (4,true) },{ dst:=some 107,op:=Go.Op.pick (Go.Operand.tmp 103) (Go.Operand.tmp 106) (Go.Operand.const (Go.Value.bool false)),type:=4,pos:="session.go:120",after:=#[{ on:=4,ground:=Go.Ground.data },{ on:=7,ground:=Go.Ground.data }],guard:=none },{ dst:=some 6,op:=Go.Op.assign (Go.Operand.tmp 107),type:=4,pos:="session.go:120",after:=#[{ on:=8,ground:=Go.Ground.data },{ on:=7,ground:=Go.Ground.chain },{ on:=0,ground:=Go.Ground.phase },{ on:=1,ground:=Go.Ground.phase },{ on:=2,ground:=Go.Ground.phase },{ on:=3,ground:=Go.Ground.phase },{ on:=4,ground:=Go.Ground.phase },{ on:=5,ground:=Go.Ground.phase },{ on:=6,ground:=Go.Ground.phase },{ on:=7,ground:=Go.Ground.phase },{ on:=8,ground:=Go.Ground.phase }],guard:=none }] false).seq Go.Code.ret) Go.Code.skip)).seq ((Go.Code.region 16 #[{ dst:=some 108,op:=Go.Op.fieldAddr 33 (Go.Operand.tmp 3) 7,type:=0,pos:="session.go:122",after:=#[],guard:=none },{ dst:=some 109,op:=Go.Op.load 29 (Go.Operand.tmp 108),type:=29,pos:="session.go:122",after:=#[{ on:=0,ground:=Go.Ground.data }],guard:=none },{ dst:=some 110,op:=Go.Op.call { callee:=Go.Callee.builtin Go.Builtin.len,args:=#[Go.Operand.tmp 109],argTypes:=#[29] },type:=3,pos:="session.go:122",after:=#[{ on:=1,ground:=Go.Ground.data }],guard:=none },{ dst:=some 111,op:=Go.Op.binOp Go.BinOp.eql 3 (Go.Operand.tmp 110) (Go.Operand.const (Go.Value.int Go.IntKind.i64 0)) 3,type:=4,pos:="session.go:122",after:=#[{ on:=2,ground:=Go.Ground.data }],guard:=none },{ dst:=some 6,op:=Go.Op.assign (Go.Operand.tmp 111),type:=4,pos:="session.go:122",after:=#[{ on:=3,ground:=Go.Ground.data },{ on:=0,ground:=Go.Ground.phase },{ on:=1,ground:=Go.Ground.phase },{ on:=2,ground:=Go.Ground.phase },{ on:=3,ground:=Go.Ground.phase }],guard:=none }] false).seq Go.Code.ret)))))).wp Tryd.prog (bodyPost Tryd.prog Tryd.f54 fun e w' => e = .returned (.bool false)∧Below w.heap.size w w') ⟨#[.agg #[.int .i64 a0_0,.int .u64 a0_1,.bool a0_2,.int .u64 a0_3,.int .i64 a0_4,.bool a0_5,.int .u32 a0_6,.int .i64 a0_7,.int .i64 a0_8,.int .i64 a0_9,.int .i64 a0_10,.int .i64 a0_11,.int .i64 a0_12,.int .i64 a0_13,.int .i64 a0_14,.int .i64 a0_15,.int .i64 a0_16,.slice A0_17 l0_17.length c0_17,.slice A0_18 l0_18.length c0_18,.slice A0_19 l0_19.length c0_19],.bool false,.bool a2,.pointer (some ⟨w.heap.size,0,none⟩),u4,u5,.bool false,.pointer (some ⟨w.heap.size+1,0,none⟩),u8,u9,u10,u11,u12,u13,u14,u15,u16,u17,u18,u19,u20,u21,u22,u23,u24,u25,u26,u27,u28,u29,u30,u31,u32,u33,u34,u35,u36,u37,u38,u39,u40,u41,u42,u43,u44,u45,u46,u47,u48,u49,u50,u51,u52,u53,u54,u55,u56,u57,u58,u59,u60,u61,u62,u63,u64,u65,u66,u67,u68,u69,u70,u71,u72,u73,u74,u75,u76,u77,u78,u79,u80,u81,u82,u83,u84,u85,u86,u87,u88,u89,u90,u91,u92,u93,u94,u95,u96,u97,u98,u99,u100,u101,u102,u103,u104,u105,u106,u107,u108,u109,u110,u111],[]⟩ W:=by
 go_upto_region 4 with fail
 refine start_ (n:=38) (S:=(fun w' => Below W.heap.size W w')) (ds:=[]) #[ff,ff,ff,ff,ff,ff,ff,ff,ff,ff,ff,ff,ff,ff,ff,ff,ff,ff,ff,ff,ff,ff,ff,ff,ff,ff,ff,ff,ff,ff,ff,ff,ff,ff,ff,ff,ff,ff] (by kernel_rfl) rfl rfl (Below.drew (Below.refl _ _)) (fun hHeld => ?_)
 refine with_tabW bz4.tab4 bz4.bits4 (fun HT_ HW_ => ?_)
 refine pure_ (i:=0) (N:=some 18) (v:=?_) (a':=?_) #[tt,ff,ff,ff,ff,ff,ff,ff,ff,ff,ff,ff,ff,ff,ff,ff,ff,ff,ff,ff,ff,ff,ff,ff,ff,ff,ff,ff,ff,ff,ff,ff,ff,ff,ff,ff,ff,ff] rfl rfl (any_of HT_.out (by kernel_rfl)) (fun _ _ _ h => h) (Or.inl ⟨by rfl,?_⟩) ?_ ?_
 rotate_left
 ·intro w'
  go_simp
  with_reducible rfl
 rotate_left
 ·simp only [Act.put,sA,sZ,sS,i64_w,i32_w]
  rfl
 refine pure_ (i:=1) (N:=some 19) (v:=?_) (a':=?_) #[tt,tt,ff,ff,ff,ff,ff,ff,ff,ff,ff,ff,ff,ff,ff,ff,ff,ff,ff,ff,ff,ff,ff,ff,ff,ff,ff,ff,ff,ff,ff,ff,ff,ff,ff,ff,ff,ff] rfl rfl (any_of HT_.out (by kernel_rfl)) (fun _ _ _ h => h) (Or.inl ⟨by rfl,?_⟩) ?_ ?_
 rotate_left
 ·intro w'
  go_simp
  with_reducible rfl
 rotate_left
 ·simp only [Act.put,sA,sZ,sS,i64_w,i32_w]
  rfl
 refine pure_ (i:=2) (N:=some 20) (v:=?_) (a':=?_) #[tt,tt,tt,ff,ff,ff,ff,ff,ff,ff,ff,ff,ff,ff,ff,ff,ff,ff,ff,ff,ff,ff,ff,ff,ff,ff,ff,ff,ff,ff,ff,ff,ff,ff,ff,ff,ff,ff] rfl rfl (any_of HT_.out (by kernel_rfl)) (fun _ _ _ h => h) (Or.inl ⟨by rfl,?_⟩) ?_ ?_
 rotate_left
 ·intro w'
  go_simp
  with_reducible rfl
 rotate_left
 ·simp only [Act.put,sA,sZ,sS,i64_w,i32_w]
  rfl
 refine pure_ (i:=3) (N:=some 21) (v:=undef) (a':=?_) #[tt,tt,tt,tt,ff,ff,ff,ff,ff,ff,ff,ff,ff,ff,ff,ff,ff,ff,ff,ff,ff,ff,ff,ff,ff,ff,ff,ff,ff,ff,ff,ff,ff,ff,ff,ff,ff,ff] rfl rfl (any_of HT_.out (by kernel_rfl)) (fun _ _ _ h => h) (Or.inr ⟨by rfl,rfl⟩) ?_ ?_
 rotate_left
 ·simp only [Act.put,sA,sZ,sS]
  rfl
 refine pure_ (i:=4) (N:=some 22) (v:=undef) (a':=?_) #[tt,tt,tt,tt,tt,ff,ff,ff,ff,ff,ff,ff,ff,ff,ff,ff,ff,ff,ff,ff,ff,ff,ff,ff,ff,ff,ff,ff,ff,ff,ff,ff,ff,ff,ff,ff,ff,ff] rfl rfl (any_of HT_.out (by kernel_rfl)) (fun _ _ _ h => h) (Or.inr ⟨by rfl,rfl⟩) ?_ ?_
 rotate_left
 ·simp only [Act.put,sA,sZ,sS]
  rfl
 refine pure_ (i:=5) (N:=some 23) (v:=undef) (a':=?_) #[tt,tt,tt,tt,tt,tt,ff,ff,ff,ff,ff,ff,ff,ff,ff,ff,ff,ff,ff,ff,ff,ff,ff,ff,ff,ff,ff,ff,ff,ff,ff,ff,ff,ff,ff,ff,ff,ff] rfl rfl (any_of HT_.out (by kernel_rfl)) (fun _ _ _ h => h) (Or.inr ⟨by rfl,rfl⟩) ?_ ?_
 rotate_left
 ·simp only [Act.put,sA,sZ,sS]
  rfl
 refine pure_ (i:=6) (N:=some 24) (v:=undef) (a':=?_) #[tt,tt,tt,tt,tt,tt,tt,ff,ff,ff,ff,ff,ff,ff,ff,ff,ff,ff,ff,ff,ff,ff,ff,ff,ff,ff,ff,ff,ff,ff,ff,ff,ff,ff,ff,ff,ff,ff] rfl rfl (any_of HT_.out (by kernel_rfl)) (fun _ _ _ h => h) (Or.inr ⟨by rfl,rfl⟩) ?_ ?_
 rotate_left
 ·simp only [Act.put,sA,sZ,sS]
  rfl
 refine pure_ (i:=7) (N:=some 25) (v:=undef) (a':=?_) #[tt,tt,tt,tt,tt,tt,tt,tt,ff,ff,ff,ff,ff,ff,ff,ff,ff,ff,ff,ff,ff,ff,ff,ff,ff,ff,ff,ff,ff,ff,ff,ff,ff,ff,ff,ff,ff,ff] rfl rfl (any_of HT_.out (by kernel_rfl)) (fun _ _ _ h => h) (Or.inr ⟨by rfl,rfl⟩) ?_ ?_
 rotate_left
 ·simp only [Act.put,sA,sZ,sS]
  rfl
 refine pure_ (i:=8) (N:=some 26) (v:=undef) (a':=?_) #[tt,tt,tt,tt,tt,tt,tt,tt,tt,ff,ff,ff,ff,ff,ff,ff,ff,ff,ff,ff,ff,ff,ff,ff,ff,ff,ff,ff,ff,ff,ff,ff,ff,ff,ff,ff,ff,ff] rfl rfl (any_of HT_.out (by kernel_rfl)) (fun _ _ _ h => h) (Or.inr ⟨by rfl,rfl⟩) ?_ ?_
 rotate_left
 ·simp only [Act.put,sA,sZ,sS]
  rfl
 refine pure_ (i:=9) (N:=some 27) (v:=?_) (a':=?_) #[tt,tt,tt,tt,tt,tt,tt,tt,tt,tt,ff,ff,ff,ff,ff,ff,ff,ff,ff,ff,ff,ff,ff,ff,ff,ff,ff,ff,ff,ff,ff,ff,ff,ff,ff,ff,ff,ff] rfl rfl (any_of HT_.out (by kernel_rfl)) (fun _ _ _ h => h) (Or.inl ⟨by rfl,?_⟩) ?_ ?_
 rotate_left
 ·intro w'
  go_simp
  with_reducible rfl
 rotate_left
 ·simp only [Act.put,sA,sZ,sS,i64_w,i32_w]
  rfl
 refine pure_ (i:=10) (N:=some 28) (v:=?_) (a':=?_) #[tt,tt,tt,tt,tt,tt,tt,tt,tt,tt,tt,ff,ff,ff,ff,ff,ff,ff,ff,ff,ff,ff,ff,ff,ff,ff,ff,ff,ff,ff,ff,ff,ff,ff,ff,ff,ff,ff] rfl rfl (any_of HT_.out (by kernel_rfl)) (fun _ _ _ h => h) (Or.inl ⟨by rfl,?_⟩) ?_ ?_
 rotate_left
 ·intro w'
  go_simp
  with_reducible rfl
 rotate_left
 ·simp only [Act.put,sA,sZ,sS,i64_w,i32_w]
  rfl
 refine pure_ (i:=11) (N:=some 29) (v:=undef) (a':=?_) #[tt,tt,tt,tt,tt,tt,tt,tt,tt,tt,tt,tt,ff,ff,ff,ff,ff,ff,ff,ff,ff,ff,ff,ff,ff,ff,ff,ff,ff,ff,ff,ff,ff,ff,ff,ff,ff,ff] rfl rfl (any_of HT_.out (by kernel_rfl)) (fun _ _ _ h => h) (Or.inr ⟨by rfl,rfl⟩) ?_ ?_
 rotate_left
 ·simp only [Act.put,sA,sZ,sS]
  rfl
 refine pure_ (i:=12) (N:=some 30) (v:=undef) (a':=?_) #[tt,tt,tt,tt,tt,tt,tt,tt,tt,tt,tt,tt,tt,ff,ff,ff,ff,ff,ff,ff,ff,ff,ff,ff,ff,ff,ff,ff,ff,ff,ff,ff,ff,ff,ff,ff,ff,ff] rfl rfl (any_of HT_.out (by kernel_rfl)) (fun _ _ _ h => h) (Or.inr ⟨by rfl,rfl⟩) ?_ ?_
 rotate_left
 ·simp only [Act.put,sA,sZ,sS]
  rfl
 refine pure_ (i:=13) (N:=some 31) (v:=undef) (a':=?_) #[tt,tt,tt,tt,tt,tt,tt,tt,tt,tt,tt,tt,tt,tt,ff,ff,ff,ff,ff,ff,ff,ff,ff,ff,ff,ff,ff,ff,ff,ff,ff,ff,ff,ff,ff,ff,ff,ff] rfl rfl (any_of HT_.out (by kernel_rfl)) (fun _ _ _ h => h) (Or.inr ⟨by rfl,rfl⟩) ?_ ?_
 rotate_left
 ·simp only [Act.put,sA,sZ,sS]
  rfl
 refine pure_ (i:=14) (N:=some 32) (v:=undef) (a':=?_) #[tt,tt,tt,tt,tt,tt,tt,tt,tt,tt,tt,tt,tt,tt,tt,ff,ff,ff,ff,ff,ff,ff,ff,ff,ff,ff,ff,ff,ff,ff,ff,ff,ff,ff,ff,ff,ff,ff] rfl rfl (any_of HT_.out (by kernel_rfl)) (fun _ _ _ h => h) (Or.inr ⟨by rfl,rfl⟩) ?_ ?_
 rotate_left
 ·simp only [Act.put,sA,sZ,sS]
  rfl
 refine pure_ (i:=15) (N:=some 33) (v:=undef) (a':=?_) #[tt,tt,tt,tt,tt,tt,tt,tt,tt,tt,tt,tt,tt,tt,tt,tt,ff,ff,ff,ff,ff,ff,ff,ff,ff,ff,ff,ff,ff,ff,ff,ff,ff,ff,ff,ff,ff,ff] rfl rfl (any_of HT_.out (by kernel_rfl)) (fun _ _ _ h => h) (Or.inr ⟨by rfl,rfl⟩) ?_ ?_
 rotate_left
 ·simp only [Act.put,sA,sZ,sS]
  rfl
 refine pure_ (i:=16) (N:=some 34) (v:=?_) (a':=?_) #[tt,tt,tt,tt,tt,tt,tt,tt,tt,tt,tt,tt,tt,tt,tt,tt,tt,ff,ff,ff,ff,ff,ff,ff,ff,ff,ff,ff,ff,ff,ff,ff,ff,ff,ff,ff,ff,ff] rfl rfl (any_of HT_.out (by kernel_rfl)) (fun _ _ _ h => h) (Or.inl ⟨by rfl,?_⟩) ?_ ?_
 rotate_left
 ·intro w'
  go_simp
  with_reducible rfl
 rotate_left
 ·simp only [Act.put,sA,sZ,sS,i64_w,i32_w]
  rfl
 refine pure_ (i:=17) (N:=some 35) (v:=?_) (a':=?_) #[tt,tt,tt,tt,tt,tt,tt,tt,tt,tt,tt,tt,tt,tt,tt,tt,tt,tt,ff,ff,ff,ff,ff,ff,ff,ff,ff,ff,ff,ff,ff,ff,ff,ff,ff,ff,ff,ff] rfl rfl (any_of HT_.out (by kernel_rfl)) (fun _ _ _ h => h) (Or.inl ⟨by rfl,?_⟩) ?_ ?_
 rotate_left
 ·intro w'
  go_simp
  with_reducible rfl
 rotate_left
 ·simp only [Act.put,sA,sZ,sS,i64_w,i32_w]
  rfl
 refine pure_ (i:=18) (N:=some 36) (v:=undef) (a':=?_) #[tt,tt,tt,tt,tt,tt,tt,tt,tt,tt,tt,tt,tt,tt,tt,tt,tt,tt,tt,ff,ff,ff,ff,ff,ff,ff,ff,ff,ff,ff,ff,ff,ff,ff,ff,ff,ff,ff] rfl rfl (any_of HT_.out (by kernel_rfl)) (fun _ _ _ h => h) (Or.inr ⟨by rfl,rfl⟩) ?_ ?_
 rotate_left
 ·simp only [Act.put,sA,sZ,sS]
  rfl
 refine pure_ (i:=19) (N:=some 37) (v:=undef) (a':=?_) #[tt,tt,tt,tt,tt,tt,tt,tt,tt,tt,tt,tt,tt,tt,tt,tt,tt,tt,tt,tt,ff,ff,ff,ff,ff,ff,ff,ff,ff,ff,ff,ff,ff,ff,ff,ff,ff,ff] rfl rfl (any_of HT_.out (by kernel_rfl)) (fun _ _ _ h => h) (Or.inr ⟨by rfl,rfl⟩) ?_ ?_
 rotate_left
 ·simp only [Act.put,sA,sZ,sS]
  rfl
 refine pure_ (i:=20) (N:=some 38) (v:=undef) (a':=?_) #[tt,tt,tt,tt,tt,tt,tt,tt,tt,tt,tt,tt,tt,tt,tt,tt,tt,tt,tt,tt,tt,ff,ff,ff,ff,ff,ff,ff,ff,ff,ff,ff,ff,ff,ff,ff,ff,ff] rfl rfl (any_of HT_.out (by kernel_rfl)) (fun _ _ _ h => h) (Or.inr ⟨by rfl,rfl⟩) ?_ ?_
 rotate_left
 ·simp only [Act.put,sA,sZ,sS]
  rfl
 refine pure_ (i:=21) (N:=some 39) (v:=?_) (a':=?_) #[tt,tt,tt,tt,tt,tt,tt,tt,tt,tt,tt,tt,tt,tt,tt,tt,tt,tt,tt,tt,tt,tt,ff,ff,ff,ff,ff,ff,ff,ff,ff,ff,ff,ff,ff,ff,ff,ff] rfl rfl (any_of HT_.out (by kernel_rfl)) (fun _ _ _ h => h) (Or.inl ⟨by rfl,?_⟩) ?_ ?_
 rotate_left
 ·intro w'
  go_simp
  with_reducible rfl
 rotate_left
 ·simp only [Act.put,sA,sZ,sS,i64_w,i32_w]
  rfl
 refine pure_ (i:=22) (N:=some 40) (v:=?_) (a':=?_) #[tt,tt,tt,tt,tt,tt,tt,tt,tt,tt,tt,tt,tt,tt,tt,tt,tt,tt,tt,tt,tt,tt,tt,ff,ff,ff,ff,ff,ff,ff,ff,ff,ff,ff,ff,ff,ff,ff] rfl rfl (any_of HT_.out (by kernel_rfl)) (fun _ _ _ h => h) (Or.inl ⟨by rfl,?_⟩) ?_ ?_
 rotate_left
 ·intro w'
  go_simp
  with_reducible rfl
 rotate_left
 ·simp only [Act.put,sA,sZ,sS,i64_w,i32_w]
  rfl
 refine pure_ (i:=23) (N:=some 41) (v:=undef) (a':=?_) #[tt,tt,tt,tt,tt,tt,tt,tt,tt,tt,tt,tt,tt,tt,tt,tt,tt,tt,tt,tt,tt,tt,tt,tt,ff,ff,ff,ff,ff,ff,ff,ff,ff,ff,ff,ff,ff,ff] rfl rfl (any_of HT_.out (by kernel_rfl)) (fun _ _ _ h => h) (Or.inr ⟨by rfl,rfl⟩) ?_ ?_
 rotate_left
 ·simp only [Act.put,sA,sZ,sS]
  rfl
 refine pure_ (i:=24) (N:=some 42) (v:=undef) (a':=?_) #[tt,tt,tt,tt,tt,tt,tt,tt,tt,tt,tt,tt,tt,tt,tt,tt,tt,tt,tt,tt,tt,tt,tt,tt,tt,ff,ff,ff,ff,ff,ff,ff,ff,ff,ff,ff,ff,ff] rfl rfl (any_of HT_.out (by kernel_rfl)) (fun _ _ _ h => h) (Or.inr ⟨by rfl,rfl⟩) ?_ ?_
 rotate_left
 ·simp only [Act.put,sA,sZ,sS]
  rfl
 refine pure_ (i:=25) (N:=some 43) (v:=undef) (a':=?_) #[tt,tt,tt,tt,tt,tt,tt,tt,tt,tt,tt,tt,tt,tt,tt,tt,tt,tt,tt,tt,tt,tt,tt,tt,tt,tt,ff,ff,ff,ff,ff,ff,ff,ff,ff,ff,ff,ff] rfl rfl (any_of HT_.out (by kernel_rfl)) (fun _ _ _ h => h) (Or.inr ⟨by rfl,rfl⟩) ?_ ?_
 rotate_left
 ·simp only [Act.put,sA,sZ,sS]
  rfl
 refine pure_ (i:=26) (N:=some 44) (v:=?_) (a':=?_) #[tt,tt,tt,tt,tt,tt,tt,tt,tt,tt,tt,tt,tt,tt,tt,tt,tt,tt,tt,tt,tt,tt,tt,tt,tt,tt,tt,ff,ff,ff,ff,ff,ff,ff,ff,ff,ff,ff] rfl rfl (any_of HT_.out (by kernel_rfl)) (fun _ _ _ h => h) (Or.inl ⟨by rfl,?_⟩) ?_ ?_
 rotate_left
 ·intro w'
  go_simp
  with_reducible rfl
 rotate_left
 ·simp only [Act.put,sA,sZ,sS,i64_w,i32_w]
  rfl
 refine pure_ (i:=27) (N:=some 45) (v:=?_) (a':=?_) #[tt,tt,tt,tt,tt,tt,tt,tt,tt,tt,tt,tt,tt,tt,tt,tt,tt,tt,tt,tt,tt,tt,tt,tt,tt,tt,tt,tt,ff,ff,ff,ff,ff,ff,ff,ff,ff,ff] rfl rfl (any_of HT_.out (by kernel_rfl)) (fun _ _ _ h => h) (Or.inl ⟨by rfl,?_⟩) ?_ ?_
 rotate_left
 ·intro w'
  go_simp
  with_reducible rfl
 rotate_left
 ·simp only [Act.put,sA,sZ,sS,i64_w,i32_w]
  rfl
 refine pure_ (i:=28) (N:=some 46) (v:=undef) (a':=?_) #[tt,tt,tt,tt,tt,tt,tt,tt,tt,tt,tt,tt,tt,tt,tt,tt,tt,tt,tt,tt,tt,tt,tt,tt,tt,tt,tt,tt,tt,ff,ff,ff,ff,ff,ff,ff,ff,ff] rfl rfl (any_of HT_.out (by kernel_rfl)) (fun _ _ _ h => h) (Or.inr ⟨by rfl,rfl⟩) ?_ ?_
 rotate_left
 ·simp only [Act.put,sA,sZ,sS]
  rfl
 refine pure_ (i:=29) (N:=some 47) (v:=undef) (a':=?_) #[tt,tt,tt,tt,tt,tt,tt,tt,tt,tt,tt,tt,tt,tt,tt,tt,tt,tt,tt,tt,tt,tt,tt,tt,tt,tt,tt,tt,tt,tt,ff,ff,ff,ff,ff,ff,ff,ff] rfl rfl (any_of HT_.out (by kernel_rfl)) (fun _ _ _ h => h) (Or.inr ⟨by rfl,rfl⟩) ?_ ?_
 rotate_left
 ·simp only [Act.put,sA,sZ,sS]
  rfl
 refine pure_ (i:=30) (N:=some 48) (v:=undef) (a':=?_) #[tt,tt,tt,tt,tt,tt,tt,tt,tt,tt,tt,tt,tt,tt,tt,tt,tt,tt,tt,tt,tt,tt,tt,tt,tt,tt,tt,tt,tt,tt,tt,ff,ff,ff,ff,ff,ff,ff] rfl rfl (any_of HT_.out (by kernel_rfl)) (fun _ _ _ h => h) (Or.inr ⟨by rfl,rfl⟩) ?_ ?_
 rotate_left
 ·simp only [Act.put,sA,sZ,sS]
  rfl
 refine pure_ (i:=31) (N:=some 49) (v:=undef) (a':=?_) #[tt,tt,tt,tt,tt,tt,tt,tt,tt,tt,tt,tt,tt,tt,tt,tt,tt,tt,tt,tt,tt,tt,tt,tt,tt,tt,tt,tt,tt,tt,tt,tt,ff,ff,ff,ff,ff,ff] rfl rfl (any_of HT_.out (by kernel_rfl)) (fun _ _ _ h => h) (Or.inr ⟨by rfl,rfl⟩) ?_ ?_
 rotate_left
 ·simp only [Act.put,sA,sZ,sS]
  rfl
 refine pure_ (i:=32) (N:=some 50) (v:=undef) (a':=?_) #[tt,tt,tt,tt,tt,tt,tt,tt,tt,tt,tt,tt,tt,tt,tt,tt,tt,tt,tt,tt,tt,tt,tt,tt,tt,tt,tt,tt,tt,tt,tt,tt,tt,ff,ff,ff,ff,ff] rfl rfl (any_of HT_.out (by kernel_rfl)) (fun _ _ _ h => h) (Or.inr ⟨by rfl,rfl⟩) ?_ ?_
 rotate_left
 ·simp only [Act.put,sA,sZ,sS]
  rfl
 refine pure_ (i:=33) (N:=some 51) (v:=undef) (a':=?_) #[tt,tt,tt,tt,tt,tt,tt,tt,tt,tt,tt,tt,tt,tt,tt,tt,tt,tt,tt,tt,tt,tt,tt,tt,tt,tt,tt,tt,tt,tt,tt,tt,tt,tt,ff,ff,ff,ff] rfl rfl (any_of HT_.out (by kernel_rfl)) (fun _ _ _ h => h) (Or.inr ⟨by rfl,rfl⟩) ?_ ?_
 rotate_left
 ·simp only [Act.put,sA,sZ,sS]
  rfl
 refine pure_ (i:=34) (N:=some 52) (v:=undef) (a':=?_) #[tt,tt,tt,tt,tt,tt,tt,tt,tt,tt,tt,tt,tt,tt,tt,tt,tt,tt,tt,tt,tt,tt,tt,tt,tt,tt,tt,tt,tt,tt,tt,tt,tt,tt,tt,ff,ff,ff] rfl rfl (any_of HT_.out (by kernel_rfl)) (fun _ _ _ h => h) (Or.inr ⟨by rfl,rfl⟩) ?_ ?_
 rotate_left
 ·simp only [Act.put,sA,sZ,sS]
  rfl
 refine pure_ (i:=35) (N:=some 53) (v:=undef) (a':=?_) #[tt,tt,tt,tt,tt,tt,tt,tt,tt,tt,tt,tt,tt,tt,tt,tt,tt,tt,tt,tt,tt,tt,tt,tt,tt,tt,tt,tt,tt,tt,tt,tt,tt,tt,tt,tt,ff,ff] rfl rfl (any_of HT_.out (by kernel_rfl)) (fun _ _ _ h => h) (Or.inr ⟨by rfl,rfl⟩) ?_ ?_
 rotate_left
 ·simp only [Act.put,sA,sZ,sS]
  rfl
 refine pure_ (i:=36) (N:=some 54) (v:=undef) (a':=?_) #[tt,tt,tt,tt,tt,tt,tt,tt,tt,tt,tt,tt,tt,tt,tt,tt,tt,tt,tt,tt,tt,tt,tt,tt,tt,tt,tt,tt,tt,tt,tt,tt,tt,tt,tt,tt,tt,ff] rfl rfl (any_of HT_.out (by kernel_rfl)) (fun _ _ _ h => h) (Or.inr ⟨by rfl,rfl⟩) ?_ ?_
 rotate_left
 ·simp only [Act.put,sA,sZ,sS]
  rfl
 refine pure_ (i:=37) (N:=some 55) (v:=?_) (a':=?_) #[tt,tt,tt,tt,tt,tt,tt,tt,tt,tt,tt,tt,tt,tt,tt,tt,tt,tt,tt,tt,tt,tt,tt,tt,tt,tt,tt,tt,tt,tt,tt,tt,tt,tt,tt,tt,tt,tt] rfl rfl (any_of HT_.out (by kernel_rfl)) (fun _ _ _ h => h) (Or.inl ⟨by rfl,?_⟩) ?_ ?_
 rotate_left
 ·intro w'
  go_simp
  with_reducible rfl
 rotate_left
 ·simp only [Act.put,sA,sZ,sS,i64_w,i32_w]
  rfl
 have hX:=hHeld
 refine done_ (done_of HT_.out (by kernel_rfl)) ?_
 go_wp2
 go_ret
 exact ⟨rfl,keep_below hB hX⟩
set_option maxHeartbeats 8000000 in
set_option maxRecDepth 100000 in
theorem busy4_b (k : Nat) (a0_0 : Int) (a0_1 : Int) (a0_2 : Bool) (a0_3 : Int) (a0_4 : Int) (a0_5 : Bool) (a0_6 : Int) (a0_7 : Int) (a0_8 : Int) (a0_9 : Int) (a0_10 : Int) (a0_11 : Int) (a0_12 : Int) (a0_13 : Int) (a0_14 : Int) (a0_15 : Int) (a0_16 : Int) (A0_17 : Option Addr) (c0_17 : Nat) (l0_17 : List (S63)) (A0_18 : Option Addr) (c0_18 : Nat) (l0_18 : List Int) (A0_19 : Option Addr) (c0_19 : Nat) (l0_19 : List Int) (a2 : Bool) (st : Int) (rd : Bool) (w W : World) (u4 u5 u8 u9 u10 u11 u12 u13 u14 u15 u16 u17 u18 u19 u20 u21 u22 u23 u24 u25 u26 u27 u28 u29 u30 u31 u32 u33 u34 u35 u36 u37 u38 u39 u40 u41 u42 u43 u44 u45 u46 u47 u48 u49 u50 u51 u52 u53 u54 u55 u56 u57 u58 u59 u60 u61 u62 u63 u64 u65 u66 u67 u68 u69 u70 u71 u72 u73 u74 u75 u76 u77 u78 u79 u80 u81 u82 u83 u84 u85 u86 u87 u88 u89 u90 u91 u92 u93 u94 u95 u96 u97 u98 u99 u100 u101 u102 u103 u104 u105 u106 u107 u108 u109 u110 u111 : Value) (p0 : Int) (p1 : Bool) (p2 p3 p4 p5 p6 p7 : Int) (HP : ∀ W' : World,Hid (Calls Tryd.prog 32 #[.agg #[.int .i64 a0_4,.bool a0_5,.int .u32 a0_6,.int .i64 a0_7,.int .i64 a0_8,.int .i64 a0_9,.int .i64 a0_10,.int .i64 a0_11]] W' fun e w' => e = .returned (.agg #[.int .i64 p0,.bool p1,.int .u32 p2,.int .i64 p3,.int .i64 p4,.int .i64 p5,.int .i64 p6,.int .i64 p7])∧Below W'.heap.size W' w')) (hbe : (a0_4 == p0 && (a0_5 == p1 && (a0_6 == p2 && ((a0_7 == p3 && (a0_8 == p4 && (a0_9 == p5 && (a0_10 == p6)))) && (a0_11 == p7))))) = false)
  (hB : Below w.heap.size w W) (b0 : Blk W w.heap.size 33 #[.int .i64 a0_0,.int .u64 a0_1,.bool a0_2,.int .u64 a0_3,.int .i64 a0_4,.bool a0_5,.int .u32 a0_6,.int .i64 a0_7,.int .i64 a0_8,.int .i64 a0_9,.int .i64 a0_10,.int .i64 a0_11,.int .i64 a0_12,.int .i64 a0_13,.int .i64 a0_14,.int .i64 a0_15,.int .i64 a0_16,.slice A0_17 l0_17.length c0_17,.slice A0_18 l0_18.length c0_18,.slice A0_19 l0_19.length c0_19]) (b1 : Blk W (w.heap.size+1) 33 #[.int .i64 st,.int .u64 0,.bool rd,.int .u64 0,.int .i64 0,.bool false,.int .u32 0,.int .i64 0,.int .i64 0,.int .i64 0,.int .i64 0,.int .i64 0,.int .i64 0,.int .i64 0,.int .i64 0,.int .i64 0,.int .i64 0,.slice none 0 0,.slice none 0 0,.slice none 0 0]) :
  (((Go.Code.region 4 #[{ dst:=some 18,op:=Go.Op.move (Go.Operand.tmp 1),type:=4,pos:="session.go:105",after:=#[],guard:=none },{ dst:=some 19,op:=Go.Op.unOp Go.UnOp.not 4 (Go.Operand.tmp 18),type:=4,pos:="session.go:105",after:=#[{ on:=0,ground:=Go.Ground.data }],guard:=none },{ dst:=some 20,op:=Go.Op.move (Go.Operand.tmp 19),type:=4,pos:="session.go:105",after:=#[{ on:=1,ground:=Go.Ground.data }],guard:=none },{ dst:=some 21,op:=Go.Op.fieldAddr 33 (Go.Operand.tmp 3) 4,type:=0,pos:="session.go:105",after:=#[{ on:=2,ground:=Go.Ground.guard }],guard:=some (2,false) },{ dst:=some 22,op:=Go.Op.load 27 (Go.Operand.tmp 21),type:=27,pos:="session.go:105",after:=#[{ on:=3,ground:=Go.Ground.data },{ on:=2,ground:=Go.Ground.guard }],guard:=some (2,false) },{ dst:=some 23,op:=Go.Op.fieldAddr 33 (Go.Operand.tmp 3) 4,type:=0,pos:="session.go:105",after:=#[{ on:=2,ground:=Go.Ground.guard }],guard:=some (2,false) },{ dst:=some 24,op:=Go.Op.load 27 (Go.Operand.tmp 23),type:=27,pos:="session.go:105",after:=#[{ on:=5,ground:=Go.Ground.data },{ on:=2,ground:=Go.Ground.guard }],guard:=some (2,false) },{ dst:=some 25,op:=Go.Op.call { callee:=Go.Callee.value (Go.Operand.func 32),args:=#[Go.Operand.tmp 24],argTypes:=#[27] },type:=27,pos:="session.go:105",after:=#[{ on:=6,ground:=Go.Ground.data },{ on:=2,ground:=Go.Ground.chain },{ on:=2,ground:=Go.Ground.guard }],guard:=some (2,false) },{ dst:=some 26,op:=Go.Op.binOp Go.BinOp.neq 27 (Go.Operand.tmp 22) (Go.Operand.tmp 25) 27,type:=4,pos:="session.go:105",after:=#[{ on:=4,ground:=Go.Ground.data },{ on:=7,ground:=Go.Ground.data },{ on:=2,ground:=Go.Ground.guard }],guard:=some (2,false) },{ dst:=some 27,op:=Go.Op.pick (Go.Operand.tmp 20) (Go.Operand.const (Go.Value.bool true)) (Go.Operand.tmp 26),type:=4,pos:="session.go:105",after:=#[{ on:=2,ground:=Go.Ground.data },{ on:=8,ground:=Go.Ground.data }],guard:=none },{ dst:=some 28,op:=Go.Op.move (Go.Operand.tmp 27),type:=4,pos:="session.go:105",after:=#[{ on:=9,ground:=Go.Ground.data },{ on:=7,ground:=Go.Ground.chain }],guard:=none },{ dst:=some 29,op:=Go.Op.load 33 (Go.Operand.tmp 7),type:=33,pos:="session.go:105",after:=#[{ on:=10,ground:=Go.Ground.guard }],guard:=some (10,false) },{ dst:=some 30,op:=Go.Op.fieldAddr 33 (Go.Operand.tmp 3) 4,type:=0,pos:="session.go:105",after:=#[{ on:=10,ground:=Go.Ground.guard }],guard:=some (10,false) },{ dst:=some 31,op:=Go.Op.load 27 (Go.Operand.tmp 30),type:=27,pos:="session.go:105",after:=#[{ on:=12,ground:=Go.Ground.data },{ on:=10,ground:=Go.Ground.guard }],guard:=some (10,false) },{ dst:=some 32,op:=Go.Op.call { callee:=Go.Callee.value (Go.Operand.func 30),args:=#[Go.Operand.tmp 29,Go.Operand.const (Go.Value.int Go.IntKind.i64 1),Go.Operand.tmp 31],argTypes:=#[33,3,27] },type:=36,pos:="session.go:105",after:=#[{ on:=11,ground:=Go.Ground.data },{ on:=13,ground:=Go.Ground.data },{ on:=10,ground:=Go.Ground.chain },{ on:=10,ground:=Go.Ground.guard }],guard:=some (10,false) },{ dst:=some 33,op:=Go.Op.binOp Go.BinOp.neq 36 (Go.Operand.tmp 32) (Go.Operand.const (Go.Value.int Go.IntKind.i64 0)) 36,type:=4,pos:="session.go:105",after:=#[{ on:=14,ground:=Go.Ground.data },{ on:=10,ground:=Go.Ground.guard }],guard:=some (10,false) },{ dst:=some 34,op:=Go.Op.pick (Go.Operand.tmp 28) (Go.Operand.const (Go.Value.bool true)) (Go.Operand.tmp 33),type:=4,pos:="session.go:105",after:=#[{ on:=10,ground:=Go.Ground.data },{ on:=15,ground:=Go.Ground.data }],guard:=none },{ dst:=some 35,op:=Go.Op.move (Go.Operand.tmp 34),type:=4,pos:="session.go:105",after:=#[{ on:=16,ground:=Go.Ground.data },{ on:=14,ground:=Go.Ground.chain }],guard:=none },{ dst:=some 36,op:=Go.Op.fieldAddr 33 (Go.Operand.tmp 3) 5,type:=0,pos:="session.go:105",after:=#[{ on:=17,ground:=Go.Ground.guard }],guard:=some (17,false) },{ dst:=some 37,op:=Go.Op.load 3 (Go.Operand.tmp 36),type:=3,pos:="session.go:105",after:=#[{ on:=18,ground:=Go.Ground.data },{ on:=17,ground:=Go.Ground.guard }],guard:=some (17,false) },{ dst:=some 38,op:=Go.Op.binOp Go.BinOp.lss 3 (Go.Operand.tmp 37) (Go.Operand.const (Go.Value.int Go.IntKind.i64 0)) 3,type:=4,pos:="session.go:105",after:=#[{ on:=19,ground:=Go.Ground.data },{ on:=17,ground:=Go.Ground.guard }],guard:=some (17,false) },{ dst:=some 39,op:=Go.Op.pick (Go.Operand.tmp 35) (Go.Operand.const (Go.Value.bool true)) (Go.Operand.tmp 38),type:=4,pos:="session.go:105",after:=#[{ on:=17,ground:=Go.Ground.data },{ on:=20,ground:=Go.Ground.data }],guard:=none },{ dst:=some 40,op:=Go.Op.move (Go.Operand.tmp 39),type:=4,pos:="session.go:105",after:=#[{ on:=21,ground:=Go.Ground.data },{ on:=17,ground:=Go.Ground.chain }],guard:=none },{ dst:=some 41,op:=Go.Op.fieldAddr 33 (Go.Operand.tmp 3) 5,type:=0,pos:="session.go:105",after:=#[{ on:=22,ground:=Go.Ground.guard }],guard:=some (22,false) },{ dst:=some 42,op:=Go.Op.load 3 (Go.Operand.tmp 41),type:=3,pos:="session.go:105",after:=#[{ on:=23,ground:=Go.Ground.data },{ on:=22,ground:=Go.Ground.guard }],guard:=some (22,false) },{ dst:=some 43,op:=Go.Op.binOp Go.BinOp.gtr 3 (Go.Operand.tmp 42) (Go.Operand.const (Go.Value.int Go.IntKind.i64 3)) 3,type:=4,pos:="session.go:105",after:=#[{ on:=24,ground:=Go.Ground.data },{ on:=22,ground:=Go.Ground.guard }],guard:=some (22,false) },{ dst:=some 44,op:=Go.Op.pick (Go.Operand.tmp 40) (Go.Operand.const (Go.Value.bool true)) (Go.Operand.tmp 43),type:=4,pos:="session.go:105",after:=#[{ on:=22,ground:=Go.Ground.data },{ on:=25,ground:=Go.Ground.data }],guard:=none },{ dst:=some 45,op:=Go.Op.move (Go.Operand.tmp 44),type:=4,pos:="session.go:105",after:=#[{ on:=26,ground:=Go.Ground.data },{ on:=22,ground:=Go.Ground.chain }],guard:=none },{ dst:=some 46,op:=Go.Op.fieldAddr 33 (Go.Operand.tmp 3) 4,type:=0,pos:="session.go:105",after:=#[{ on:=27,ground:=Go.Ground.guard }],guard:=some (27,false) },{ dst:=some 47,op:=Go.Op.fieldAddr 27 (Go.Operand.tmp 46) 0,type:=0,pos:="session.go:105",after:=#[{ on:=28,ground:=Go.Ground.data },{ on:=27,ground:=Go.Ground.guard }],guard:=some (27,false) },{ dst:=some 48,op:=Go.Op.load 3 (Go.Operand.tmp 47),type:=3,pos:="session.go:105",after:=#[{ on:=29,ground:=Go.Ground.data },{ on:=27,ground:=Go.Ground.guard }],guard:=some (27,false) },{ dst:=some 49,op:=Go.Op.fieldAddr 33 (Go.Operand.tmp 3) 5,type:=0,pos:="session.go:105",after:=#[{ on:=27,ground:=Go.Ground.guard }],guard:=some (27,false) },{ dst:=some 50,op:=Go.Op.load 3 (Go.Operand.tmp 49),type:=3,pos:="session.go:105",after:=#[{ on:=31,ground:=Go.Ground.data },{ on:=27,ground:=Go.Ground.guard }],guard:=some (27,false) },{ dst:=some 51,op:=Go.Op.indexAddr 82 (Go.Operand.global 0) (Go.Operand.tmp 48),type:=0,pos:="session.go:105",after:=#[{ on:=30,ground:=Go.Ground.data },{ on:=27,ground:=Go.Ground.guard }],guard:=some (27,false) },{ dst:=some 52,op:=Go.Op.indexAddr 81 (Go.Operand.tmp 51) (Go.Operand.tmp 50),type:=0,pos:="session.go:105",after:=#[{ on:=33,ground:=Go.Ground.data },{ on:=32,ground:=Go.Ground.data },{ on:=27,ground:=Go.Ground.guard }],guard:=some (27,false) },{ dst:=some 53,op:=Go.Op.load 3 (Go.Operand.tmp 52),type:=3,pos:="session.go:105",after:=#[{ on:=34,ground:=Go.Ground.data },{ on:=27,ground:=Go.Ground.guard }],guard:=some (27,false) },{ dst:=some 54,op:=Go.Op.binOp Go.BinOp.eql 3 (Go.Operand.tmp 53) (Go.Operand.const (Go.Value.int Go.IntKind.i64 0)) 3,type:=4,pos:="session.go:105",after:=#[{ on:=35,ground:=Go.Ground.data },{ on:=27,ground:=Go.Ground.guard }],guard:=some (27,false) },{ dst:=some 55,op:=Go.Op.pick (Go.Operand.tmp 45) (Go.Operand.const (Go.Value.bool true)) (Go.Operand.tmp 54),type:=4,pos:="session.go:105",after:=#[{ on:=27,ground:=Go.Ground.data },{ on:=36,ground:=Go.Ground.data }],guard:=none }] true).seq (Go.Code.cond (Go.Operand.tmp 55) ((Go.Code.region 5 #[{ dst:=some 6,op:=Go.Op.assign (Go.Operand.const (Go.Value.bool false)),type:=4,pos:="session.go:106",after:=#[],guard:=none }] false).seq Go.Code.ret) Go.Code.skip)).seq ((Go.Code.region 6 #[{ dst:=some 56,op:=Go.Op.fieldAddr 33 (Go.Operand.tmp 3) 4,type:=0,pos:="session.go:108",after:=#[],guard:=none },{ dst:=some 57,op:=Go.Op.fieldAddr 27 (Go.Operand.tmp 56) 0,type:=0,pos:="session.go:108",after:=#[{ on:=0,ground:=Go.Ground.data }],guard:=none },{ dst:=some 58,op:=Go.Op.load 3 (Go.Operand.tmp 57),type:=3,pos:="session.go:108",after:=#[{ on:=1,ground:=Go.Ground.data }],guard:=none },{ dst:=some 59,op:=Go.Op.binOp Go.BinOp.eql 3 (Go.Operand.tmp 58) (Go.Operand.const (Go.Value.int Go.IntKind.i64 4)) 3,type:=4,pos:="session.go:108",after:=#[{ on:=2,ground:=Go.Ground.data }],guard:=none },{ dst:=some 8,op:=Go.Op.assign (Go.Operand.tmp 59),type:=4,pos:="session.go:108",after:=#[{ on:=3,ground:=Go.Ground.data },{ on:=0,ground:=Go.Ground.phase },{ on:=1,ground:=Go.Ground.phase },{ on:=2,ground:=Go.Ground.phase },{ on:=3,ground:=Go.Ground.phase }],guard:=none }] false).seq (((Go.Code.region 7 #[{ dst:=some 60,op:=Go.Op.move (Go.Operand.tmp 8),type:=4,pos:="session.go:109",after:=#[],guard:=none },{ dst:=some 61,op:=Go.Op.move (Go.Operand.tmp 60),type:=4,pos:="session.go:109",after:=#[{ on:=0,ground:=Go.Ground.data }],guard:=none },{ dst:=some 62,op:=Go.Op.fieldAddr 33 (Go.Operand.tmp 3) 5,type:=0,pos:="session.go:109",after:=#[{ on:=1,ground:=Go.Ground.guard }],guard:=some (1,true) },{ dst:=some 63,op:=Go.Op.load 3 (Go.Operand.tmp 62),type:=3,pos:="session.go:109",after:=#[{ on:=2,ground:=Go.Ground.data },{ on:=1,ground:=Go.Ground.guard }],guard:=some (1,true) },{ dst:=some 64,op:=Go.Op.binOp Go.BinOp.eql 3 (Go.Operand.tmp 63) (Go.Operand.const (Go.Value.int Go.IntKind.i64 2)) 3,type:=4,pos:="session.go:109",after:=#[{ on:=3,ground:=Go.Ground.data },{ on:=1,ground:=Go.Ground.guard }],guard:=some (1,true) },{ dst:=some 65,op:=Go.Op.pick (Go.Operand.tmp 61) (Go.Operand.tmp 64) (Go.Operand.const (Go.Value.bool false)),type:=4,pos:="session.go:109",after:=#[{ on:=1,ground:=Go.Ground.data },{ on:=4,ground:=Go.Ground.data }],guard:=none },{ dst:=some 66,op:=Go.Op.move (Go.Operand.tmp 65),type:=4,pos:="session.go:109",after:=#[{ on:=5,ground:=Go.Ground.data },{ on:=1,ground:=Go.Ground.chain }],guard:=none },{ dst:=some 67,op:=Go.Op.fieldAddr 33 (Go.Operand.tmp 3) 2,type:=0,pos:="session.go:109",after:=#[{ on:=6,ground:=Go.Ground.guard }],guard:=some (6,true) },{ dst:=some 68,op:=Go.Op.load 4 (Go.Operand.tmp 67),type:=4,pos:="session.go:109",after:=#[{ on:=7,ground:=Go.Ground.data },{ on:=6,ground:=Go.Ground.guard }],guard:=some (6,true) },{ dst:=some 69,op:=Go.Op.pick (Go.Operand.tmp 66) (Go.Operand.tmp 68) (Go.Operand.const (Go.Value.bool false)),type:=4,pos:="session.go:109",after:=#[{ on:=6,ground:=Go.Ground.data },{ on:=8,ground:=Go.Ground.data }],guard:=none }] false).seq (Go.Code.cond (Go.Operand.tmp 69) ((Go.Code.region 8 #[{ dst:=some 6,op:=Go.Op.assign (Go.Operand.const (Go.Value.bool false)),type:=4,pos:="session.go:110",after:=#[],guard:=none }] false).seq Go.Code.ret) Go.Code.skip)).seq (((Go.Code.region 9 #[{ dst:=some 70,op:=Go.Op.move (Go.Operand.tmp 8),type:=4,pos:="session.go:112",after:=#[],guard:=none },{ dst:=some 71,op:=Go.Op.move (Go.Operand.tmp 70),type:=4,pos:="session.go:112",after:=#[{ on:=0,ground:=Go.Ground.data }],guard:=none },{ dst:=some 72,op:=Go.Op.fieldAddr 33 (Go.Operand.tmp 3) 5,type:=0,pos:="session.go:112",after:=#[{ on:=1,ground:=Go.Ground.guard }],guard:=some (1,true) },{ dst:=some 73,op:=Go.Op.load 3 (Go.Operand.tmp 72),type:=3,pos:="session.go:112",after:=#[{ on:=2,ground:=Go.Ground.data },{ on:=1,ground:=Go.Ground.guard }],guard:=some (1,true) },{ dst:=some 74,op:=Go.Op.binOp Go.BinOp.eql 3 (Go.Operand.tmp 73) (Go.Operand.const (Go.Value.int Go.IntKind.i64 1)) 3,type:=4,pos:="session.go:112",after:=#[{ on:=3,ground:=Go.Ground.data },{ on:=1,ground:=Go.Ground.guard }],guard:=some (1,true) },{ dst:=some 75,op:=Go.Op.pick (Go.Operand.tmp 71) (Go.Operand.tmp 74) (Go.Operand.const (Go.Value.bool false)),type:=4,pos:="session.go:112",after:=#[{ on:=1,ground:=Go.Ground.data },{ on:=4,ground:=Go.Ground.data }],guard:=none }] false).seq (Go.Code.cond (Go.Operand.tmp 75) ((Go.Code.region 10 #[{ dst:=some 76,op:=Go.Op.fieldAddr 33 (Go.Operand.tmp 3) 6,type:=0,pos:="session.go:113",after:=#[],guard:=none },{ dst:=some 77,op:=Go.Op.load 31 (Go.Operand.tmp 76),type:=31,pos:="session.go:113",after:=#[{ on:=0,ground:=Go.Ground.data }],guard:=none },{ dst:=some 78,op:=Go.Op.call { callee:=Go.Callee.value (Go.Operand.func 45),args:=#[Go.Operand.tmp 77],argTypes:=#[31] },type:=36,pos:="session.go:113",after:=#[{ on:=1,ground:=Go.Ground.data }],guard:=none },{ dst:=some 79,op:=Go.Op.binOp Go.BinOp.neq 36 (Go.Operand.tmp 78) (Go.Operand.const (Go.Value.int Go.IntKind.i64 0)) 36,type:=4,pos:="session.go:113",after:=#[{ on:=2,ground:=Go.Ground.data }],guard:=none },{ dst:=some 80,op:=Go.Op.move (Go.Operand.tmp 79),type:=4,pos:="session.go:113",after:=#[{ on:=3,ground:=Go.Ground.data },{ on:=2,ground:=Go.Ground.chain }],guard:=none },{ dst:=some 81,op:=Go.Op.fieldAddr 33 (Go.Operand.tmp 3) 6,type:=0,pos:="session.go:113",after:=#[{ on:=4,ground:=Go.Ground.guard }],guard:=some (4,false) },{ dst:=some 82,op:=Go.Op.fieldAddr 31 (Go.Operand.tmp 81) 0,type:=0,pos:="session.go:113",after:=#[{ on:=5,ground:=Go.Ground.data },{ on:=4,ground:=Go.Ground.guard }],guard:=some (4,false) },{ dst:=some 83,op:=Go.Op.load 25 (Go.Operand.tmp 82),type:=25,pos:="session.go:113",after:=#[{ on:=6,ground:=Go.Ground.data },{ on:=4,ground:=Go.Ground.guard }],guard:=some (4,false) },{ dst:=some 84,op:=Go.Op.fieldAddr 33 (Go.Operand.tmp 3) 4,type:=0,pos:="session.go:113",after:=#[{ on:=4,ground:=Go.Ground.guard }],guard:=some (4,false) },{ dst:=some 85,op:=Go.Op.fieldAddr 27 (Go.Operand.tmp 84) 3,type:=0,pos:="session.go:113",after:=#[{ on:=8,ground:=Go.Ground.data },{ on:=4,ground:=Go.Ground.guard }],guard:=some (4,false) },{ dst:=some 86,op:=Go.Op.load 25 (Go.Operand.tmp 85),type:=25,pos:="session.go:113",after:=#[{ on:=9,ground:=Go.Ground.data },{ on:=4,ground:=Go.Ground.guard }],guard:=some (4,false) },{ dst:=some 87,op:=Go.Op.binOp Go.BinOp.neq 25 (Go.Operand.tmp 83) (Go.Operand.tmp 86) 25,type:=4,pos:="session.go:113",after:=#[{ on:=7,ground:=Go.Ground.data },{ on:=10,ground:=Go.Ground.data },{ on:=4,ground:=Go.Ground.guard }],guard:=some (4,false) },{ dst:=some 88,op:=Go.Op.pick (Go.Operand.tmp 80) (Go.Operand.const (Go.Value.bool true)) (Go.Operand.tmp 87),type:=4,pos:="session.go:113",after:=#[{ on:=4,ground:=Go.Ground.data },{ on:=11,ground:=Go.Ground.data }],guard:=none }] false).seq (Go.Code.cond (Go.Operand.tmp 88) ((Go.Code.region 11 #[{ dst:=some 6,op:=Go.Op.assign (Go.Operand.const (Go.Value.bool false)),type:=4,pos:="session.go:114",after:=#[],guard:=none }] false).seq Go.Code.ret) Go.Code.skip)) ((Go.Code.region 12 #[{ dst:=some 89,op:=Go.Op.fieldAddr 33 (Go.Operand.tmp 3) 6,type:=0,pos:="session.go:116",after:=#[],guard:=none },{ dst:=some 90,op:=Go.Op.load 31 (Go.Operand.tmp 89),type:=31,pos:="session.go:116",after:=#[{ on:=0,ground:=Go.Ground.data }],guard:=none },{ dst:=some 91,op:=Go.Op.call { callee:=Go.Callee.value (Go.Operand.func 61),args:=#[Go.Operand.tmp 90],argTypes:=#[31] },type:=4,pos:="session.go:116",after:=#[{ on:=1,ground:=Go.Ground.data }],guard:=none },{ dst:=some 92,op:=Go.Op.unOp Go.UnOp.not 4 (Go.Operand.tmp 91),type:=4,pos:="session.go:116",after:=#[{ on:=2,ground:=Go.Ground.data }],guard:=none }] false).seq (Go.Code.cond (Go.Operand.tmp 92) ((Go.Code.region 13 #[{ dst:=some 6,op:=Go.Op.assign (Go.Operand.const (Go.Value.bool false)),type:=4,pos:="session.go:117",after:=#[],guard:=none }] false).seq Go.Code.ret) Go.Code.skip)))).seq (((Go.Code.region 14 #[{ dst:=some 93,op:=Go.Op.move (Go.Operand.tmp 8),type:=4,pos:="session.go:119",after:=#[],guard:=none },{ dst:=some 94,op:=Go.Op.move (Go.Operand.tmp 93),type:=4,pos:="session.go:119",after:=#[{ on:=0,ground:=Go.Ground.data }],guard:=none },{ dst:=some 95,op:=Go.Op.fieldAddr 33 (Go.Operand.tmp 3) 5,type:=0,pos:="session.go:119",after:=#[{ on:=1,ground:=Go.Ground.guard }],guard:=some (1,true) },{ dst:=some 96,op:=Go.Op.load 3 (Go.Operand.tmp 95),type:=3,pos:="session.go:119",after:=#[{ on:=2,ground:=Go.Ground.data },{ on:=1,ground:=Go.Ground.guard }],guard:=some (1,true) },{ dst:=some 97,op:=Go.Op.binOp Go.BinOp.eql 3 (Go.Operand.tmp 96) (Go.Operand.const (Go.Value.int Go.IntKind.i64 2)) 3,type:=4,pos:="session.go:119",after:=#[{ on:=3,ground:=Go.Ground.data },{ on:=1,ground:=Go.Ground.guard }],guard:=some (1,true) },{ dst:=some 98,op:=Go.Op.pick (Go.Operand.tmp 94) (Go.Operand.tmp 97) (Go.Operand.const (Go.Value.bool false)),type:=4,pos:="session.go:119",after:=#[{ on:=1,ground:=Go.Ground.data },{ on:=4,ground:=Go.Ground.data }],guard:=none }] false).seq (Go.Code.cond (Go.Operand.tmp 98) ((Go.Code.region 15 #[{ dst:=some 99,op:=Go.Op.fieldAddr 33 (Go.Operand.tmp 3) 7,type:=0,pos:="session.go:120",after:=#[],guard:=none },{ dst:=some 100,op:=Go.Op.load 29 (Go.Operand.tmp 99),type:=29,pos:="session.go:120",after:=#[{ on:=0,ground:=Go.Ground.data }],guard:=none },{ dst:=some 101,op:=Go.Op.call { callee:=Go.Callee.builtin Go.Builtin.len,args:=#[Go.Operand.tmp 100],argTypes:=#[29] },type:=3,pos:="session.go:120",after:=#[{ on:=1,ground:=Go.Ground.data }],guard:=none },{ dst:=some 102,op:=Go.Op.binOp Go.BinOp.gtr 3 (Go.Operand.tmp 101) (Go.Operand.const (Go.Value.int Go.IntKind.i64 0)) 3,type:=4,pos:="session.go:120",after:=#[{ on:=2,ground:=Go.Ground.data }],guard:=none },{ dst:=some 103,op:=Go.Op.move (Go.Operand.tmp 102),type:=4,pos:="session.go:120",after:=#[{ on:=3,ground:=Go.Ground.data }],guard:=none },{ dst:=some 104,op:=Go.Op.fieldAddr 33 (Go.Operand.tmp 3) 7,type:=0,pos:="session.go:120",after:=#[{ on:=4,ground:=Go.Ground.guard }],guard:=some (4,true) },{ dst:=some 105,op:=Go.Op.load 29 (Go.Operand.tmp 104),type:=29,pos:="session.go:120",after:=#[{ on:=5,ground:=Go.Ground.data },{ on:=4,ground:=Go.Ground.guard }],guard:=some (4,true) },{ dst:=some 106,op:=Go.Op.call { callee:=Go.Callee.value (Go.Operand.func 46),args:=#[Go.Operand.tmp 105],argTypes:=#[29] },type:=4,pos:="session.go:120",after:=#[{ on:=6,ground:=Go.Ground.data },{ on:=4,ground:=Go.Ground.chain },{ on:=4,ground:=Go.Ground.guard }],guard:=some (4,true) },{ dst:=some 107,op:=Go.Op.pick (Go.Operand.tmp 103) (Go.Operand.tmp 106) (Go.Operand.const (Go.Value.bool false)),type:=4,pos:="session.go:120",after:=#[{ on:=4,ground:=Go.Ground.data },{ on:=7,ground:=Go.Ground.data }],guard:=none },{ dst:=some 6,op:=Go.Op.assign (Go.Operand.tmp 107),type:=4,pos:="session.go:120",after:=#[{ on:=8,ground:=Go.Ground.data },{ on:=7,ground:=Go.Ground.chain },{ on:=0,ground:=Go.Ground.phase },{ on:=1,ground:=Go.Ground.phase },{ on:=2,ground:=Go.Ground.phase },{ on:=3,ground:=Go.Ground.phase },{ on:=4,ground:=Go.Ground.phase },{ on:=5,ground:=Go.Ground.phase },{ on:=6,ground:=Go.Ground.phase },{ on:=7,ground:=Go.Ground.phase },{ on:=8,ground:=Go.Ground.phase }],guard:=none }] false).seq Go.Code.ret) Go.Code.skip)).seq ((Go.Code.region 16 #[{ dst:=some 108,op:=Go.Op.fieldAddr 33 (Go.Operand.tmp 3) 7,type:=0,pos:="session.go:122",after:=#[],guard:=none },{ dst:=some 109,op:=Go.Op.load 29 (Go.Operand.tmp 108),type:=29,pos:="session.go:122",after:=#[{ on:=0,ground:=Go.Ground.data }],guard:=none },{ dst:=some 110,op:=Go.Op.call { callee:=Go.Callee.builtin Go.Builtin.len,args:=#[Go.Operand.tmp 109],argTypes:=#[29] },type:=3,pos:="session.go:122",after:=#[{ on:=1,ground:=Go.Ground.data }],guard:=none },{ dst:=some 111,op:=Go.Op.binOp Go.BinOp.eql 3 (Go.Operand.tmp 110) (Go.Operand.const (Go.Value.int Go.IntKind.i64 0)) 3,type:=4,pos:="session.go:122",after:=#[{ on:=2,ground:=Go.Ground.data }],guard:=none },{ dst:=some 6,op:=Go.Op.assign (Go.Operand.tmp 111),type:=4,pos:="session.go:122",after:=#[{ on:=3,ground:=Go.Ground.data },{ on:=0,ground:=Go.Ground.phase },{ on:=1,ground:=Go.Ground.phase },{ on:=2,ground:=Go.Ground.phase },{ on:=3,ground:=Go.Ground.phase }],guard:=none }] false).seq Go.Code.ret)))))).wp Tryd.prog (bodyPost Tryd.prog Tryd.f54 fun e w' => e = .returned (.bool false)∧Below w.heap.size w w') ⟨#[.agg #[.int .i64 a0_0,.int .u64 a0_1,.bool a0_2,.int .u64 a0_3,.int .i64 a0_4,.bool a0_5,.int .u32 a0_6,.int .i64 a0_7,.int .i64 a0_8,.int .i64 a0_9,.int .i64 a0_10,.int .i64 a0_11,.int .i64 a0_12,.int .i64 a0_13,.int .i64 a0_14,.int .i64 a0_15,.int .i64 a0_16,.slice A0_17 l0_17.length c0_17,.slice A0_18 l0_18.length c0_18,.slice A0_19 l0_19.length c0_19],.bool true,.bool a2,.pointer (some ⟨w.heap.size,0,none⟩),u4,u5,.bool false,.pointer (some ⟨w.heap.size+1,0,none⟩),u8,u9,u10,u11,u12,u13,u14,u15,u16,u17,u18,u19,u20,u21,u22,u23,u24,u25,u26,u27,u28,u29,u30,u31,u32,u33,u34,u35,u36,u37,u38,u39,u40,u41,u42,u43,u44,u45,u46,u47,u48,u49,u50,u51,u52,u53,u54,u55,u56,u57,u58,u59,u60,u61,u62,u63,u64,u65,u66,u67,u68,u69,u70,u71,u72,u73,u74,u75,u76,u77,u78,u79,u80,u81,u82,u83,u84,u85,u86,u87,u88,u89,u90,u91,u92,u93,u94,u95,u96,u97,u98,u99,u100,u101,u102,u103,u104,u105,u106,u107,u108,u109,u110,u111],[]⟩ W:=by
 have c4:=b0.cell 4
 have c5:=b0.cell 5
 have c6:=b0.cell 6
 have c7:=b0.cell 7
 have c8:=b0.cell 8
 have c9:=b0.cell 9
 have c10:=b0.cell 10
 have c11:=b0.cell 11
 simp at c4 c5 c6 c7 c8 c9 c10 c11
 go_upto_region 4 with fail
 refine start_ (n:=38) (S:=(fun w' => Below W.heap.size W w')) (ds:=[]) #[ff,ff,ff,ff,ff,ff,ff,ff,ff,ff,ff,ff,ff,ff,ff,ff,ff,ff,ff,ff,ff,ff,ff,ff,ff,ff,ff,ff,ff,ff,ff,ff,ff,ff,ff,ff,ff,ff] (by kernel_rfl) rfl rfl (Below.drew (Below.refl _ _)) (fun hHeld => ?_)
 refine with_tabW bz4.tab4 bz4.bits4 (fun HT_ HW_ => ?_)
 refine pure_ (i:=0) (N:=some 18) (v:=?_) (a':=?_) #[tt,ff,ff,ff,ff,ff,ff,ff,ff,ff,ff,ff,ff,ff,ff,ff,ff,ff,ff,ff,ff,ff,ff,ff,ff,ff,ff,ff,ff,ff,ff,ff,ff,ff,ff,ff,ff,ff] rfl rfl (any_of HT_.out (by kernel_rfl)) (fun _ _ _ h => h) (Or.inl ⟨by rfl,?_⟩) ?_ ?_
 rotate_left
 ·intro w'
  go_simp
  with_reducible rfl
 rotate_left
 ·simp only [Act.put,sA,sZ,sS,i64_w,i32_w]
  rfl
 refine pure_ (i:=1) (N:=some 19) (v:=?_) (a':=?_) #[tt,tt,ff,ff,ff,ff,ff,ff,ff,ff,ff,ff,ff,ff,ff,ff,ff,ff,ff,ff,ff,ff,ff,ff,ff,ff,ff,ff,ff,ff,ff,ff,ff,ff,ff,ff,ff,ff] rfl rfl (any_of HT_.out (by kernel_rfl)) (fun _ _ _ h => h) (Or.inl ⟨by rfl,?_⟩) ?_ ?_
 rotate_left
 ·intro w'
  go_simp
  with_reducible rfl
 rotate_left
 ·simp only [Act.put,sA,sZ,sS,i64_w,i32_w]
  rfl
 refine pure_ (i:=2) (N:=some 20) (v:=?_) (a':=?_) #[tt,tt,tt,ff,ff,ff,ff,ff,ff,ff,ff,ff,ff,ff,ff,ff,ff,ff,ff,ff,ff,ff,ff,ff,ff,ff,ff,ff,ff,ff,ff,ff,ff,ff,ff,ff,ff,ff] rfl rfl (any_of HT_.out (by kernel_rfl)) (fun _ _ _ h => h) (Or.inl ⟨by rfl,?_⟩) ?_ ?_
 rotate_left
 ·intro w'
  go_simp
  with_reducible rfl
 rotate_left
 ·simp only [Act.put,sA,sZ,sS,i64_w,i32_w]
  rfl
 refine pure_ (i:=3) (N:=some 21) (v:=?_) (a':=?_) #[tt,tt,tt,tt,ff,ff,ff,ff,ff,ff,ff,ff,ff,ff,ff,ff,ff,ff,ff,ff,ff,ff,ff,ff,ff,ff,ff,ff,ff,ff,ff,ff,ff,ff,ff,ff,ff,ff] rfl rfl (any_of HT_.out (by kernel_rfl)) (fun _ _ _ h => h) (Or.inl ⟨by rfl,?_⟩) ?_ ?_
 rotate_left
 ·intro w'
  go_simp
  with_reducible rfl
 rotate_left
 ·simp only [Act.put,sA,sZ,sS,i64_w,i32_w]
  rfl
 refine take_ (i:=4) (N:=some 22) (v:=?_) (a':=?_) #[tt,tt,tt,tt,tt,ff,ff,ff,ff,ff,ff,ff,ff,ff,ff,ff,ff,ff,ff,ff,ff,ff,ff,ff,ff,ff,ff,ff,ff,ff,ff,ff,ff,ff,ff,ff,ff,ff] rfl rfl (take_ofW HT_.out HW_.out (by kernel_rfl)) (fun _ _ _ h => h) (Or.inl ⟨by rfl,?_⟩) hHeld ?_ ?_
 rotate_left
 ·rintro w' s0
  have j4:=keep_cell s0 c4
  have j5:=keep_cell s0 c5
  have j6:=keep_cell s0 c6
  have j7:=keep_cell s0 c7
  have j8:=keep_cell s0 c8
  have j9:=keep_cell s0 c9
  have j10:=keep_cell s0 c10
  have j11:=keep_cell s0 c11
  go_simp
  with_reducible rfl
 rotate_left
 ·simp only [Act.put,sA,sZ,sS,i64_w,i32_w]
  rfl
 refine pure_ (i:=5) (N:=some 23) (v:=?_) (a':=?_) #[tt,tt,tt,tt,tt,tt,ff,ff,ff,ff,ff,ff,ff,ff,ff,ff,ff,ff,ff,ff,ff,ff,ff,ff,ff,ff,ff,ff,ff,ff,ff,ff,ff,ff,ff,ff,ff,ff] rfl rfl (any_of HT_.out (by kernel_rfl)) (fun _ _ _ h => h) (Or.inl ⟨by rfl,?_⟩) ?_ ?_
 rotate_left
 ·intro w'
  go_simp
  with_reducible rfl
 rotate_left
 ·simp only [Act.put,sA,sZ,sS,i64_w,i32_w]
  rfl
 refine take_ (i:=6) (N:=some 24) (v:=?_) (a':=?_) #[tt,tt,tt,tt,tt,tt,tt,ff,ff,ff,ff,ff,ff,ff,ff,ff,ff,ff,ff,ff,ff,ff,ff,ff,ff,ff,ff,ff,ff,ff,ff,ff,ff,ff,ff,ff,ff,ff] rfl rfl (take_ofW HT_.out HW_.out (by kernel_rfl)) (fun _ _ _ h => h) (Or.inl ⟨by rfl,?_⟩) hHeld ?_ ?_
 rotate_left
 ·rintro w' s0
  have j4:=keep_cell s0 c4
  have j5:=keep_cell s0 c5
  have j6:=keep_cell s0 c6
  have j7:=keep_cell s0 c7
  have j8:=keep_cell s0 c8
  have j9:=keep_cell s0 c9
  have j10:=keep_cell s0 c10
  have j11:=keep_cell s0 c11
  go_simp
  with_reducible rfl
 rotate_left
 ·simp only [Act.put,sA,sZ,sS,i64_w,i32_w]
  rfl
 have hX:=hHeld
 refine one_ (i:=7) (N:=some 25) #[tt,tt,tt,tt,tt,tt,tt,tt,ff,ff,ff,ff,ff,ff,ff,ff,ff,ff,ff,ff,ff,ff,ff,ff,ff,ff,ff,ff,ff,ff,ff,ff,ff,ff,ff,ff,ff,ff] rfl rfl (one_of HT_.out (by kernel_rfl)) (by decide) (fun K hK => ?_)
 refine goes_ Tryd.func32 (by kernel_rfl) rfl #[.agg #[.int .i64 a0_4,.bool a0_5,.int .u32 a0_6,.int .i64 a0_7,.int .i64 a0_8,.int .i64 a0_9,.int .i64 a0_10,.int .i64 a0_11]] (by rfl) rfl rfl (by (try simp only [List.map_toArray,List.map_cons,List.map_nil]);first|done|rfl) ?_
 refine (HP _).out.mono ?_
 rintro e_ w9 ⟨rfl,hb9⟩
 refine ⟨_,rfl,?_⟩
 replace hX:=keep_below hX hb9
 clear hb9
 refine hK.out _ _ hX (fun hHeld => ?_)
 clear hK K
 refine norm_ (a':=?_) ?_ ?_
 rotate_left
 ·first|(show Act.put _ (some 25) _ = _;simp only [Act.put,sA,sZ,sS,i64_w,i32_w];rfl)|with_reducible rfl
 refine pure_ (i:=8) (N:=some 26) (v:=?_) (a':=?_) #[tt,tt,tt,tt,tt,tt,tt,tt,tt,ff,ff,ff,ff,ff,ff,ff,ff,ff,ff,ff,ff,ff,ff,ff,ff,ff,ff,ff,ff,ff,ff,ff,ff,ff,ff,ff,ff,ff] rfl rfl (any_of HT_.out (by kernel_rfl)) (fun _ _ _ h => h) (Or.inl ⟨by rfl,?_⟩) ?_ ?_
 rotate_left
 ·intro w'
  go_simp
  with_reducible rfl
 rotate_left
 ·simp only [Act.put,sA,sZ,sS,i64_w,i32_w]
  rfl
 refine pure_ (i:=9) (N:=some 27) (v:=?_) (a':=?_) #[tt,tt,tt,tt,tt,tt,tt,tt,tt,tt,ff,ff,ff,ff,ff,ff,ff,ff,ff,ff,ff,ff,ff,ff,ff,ff,ff,ff,ff,ff,ff,ff,ff,ff,ff,ff,ff,ff] rfl rfl (any_of HT_.out (by kernel_rfl)) (fun _ _ _ h => h) (Or.inl ⟨by rfl,?_⟩) ?_ ?_
 rotate_left
 ·intro w'
  go_simp
  with_reducible rfl
 rotate_left
 ·simp only [Act.put,sA,sZ,sS,i64_w,i32_w]
  rfl
 refine pure_ (i:=10) (N:=some 28) (v:=?_) (a':=?_) #[tt,tt,tt,tt,tt,tt,tt,tt,tt,tt,tt,ff,ff,ff,ff,ff,ff,ff,ff,ff,ff,ff,ff,ff,ff,ff,ff,ff,ff,ff,ff,ff,ff,ff,ff,ff,ff,ff] rfl rfl (any_of HT_.out (by kernel_rfl)) (fun _ _ _ h => h) (Or.inl ⟨by rfl,?_⟩) ?_ ?_
 rotate_left
 ·intro w'
  go_simp
  with_reducible rfl
 rotate_left
 ·simp only [Act.put,sA,sZ,sS,i64_w,i32_w]
  rfl
 refine pure_ (i:=11) (N:=some 29) (v:=undef) (a':=?_) #[tt,tt,tt,tt,tt,tt,tt,tt,tt,tt,tt,tt,ff,ff,ff,ff,ff,ff,ff,ff,ff,ff,ff,ff,ff,ff,ff,ff,ff,ff,ff,ff,ff,ff,ff,ff,ff,ff] rfl rfl (any_of HT_.out (by kernel_rfl)) (fun _ _ _ h => h) (Or.inr ⟨by rfl,rfl⟩) ?_ ?_
 rotate_left
 ·simp only [Act.put,sA,sZ,sS]
  rfl
 refine pure_ (i:=12) (N:=some 30) (v:=undef) (a':=?_) #[tt,tt,tt,tt,tt,tt,tt,tt,tt,tt,tt,tt,tt,ff,ff,ff,ff,ff,ff,ff,ff,ff,ff,ff,ff,ff,ff,ff,ff,ff,ff,ff,ff,ff,ff,ff,ff,ff] rfl rfl (any_of HT_.out (by kernel_rfl)) (fun _ _ _ h => h) (Or.inr ⟨by rfl,rfl⟩) ?_ ?_
 rotate_left
 ·simp only [Act.put,sA,sZ,sS]
  rfl
 refine pure_ (i:=13) (N:=some 31) (v:=undef) (a':=?_) #[tt,tt,tt,tt,tt,tt,tt,tt,tt,tt,tt,tt,tt,tt,ff,ff,ff,ff,ff,ff,ff,ff,ff,ff,ff,ff,ff,ff,ff,ff,ff,ff,ff,ff,ff,ff,ff,ff] rfl rfl (any_of HT_.out (by kernel_rfl)) (fun _ _ _ h => h) (Or.inr ⟨by rfl,rfl⟩) ?_ ?_
 rotate_left
 ·simp only [Act.put,sA,sZ,sS]
  rfl
 refine pure_ (i:=14) (N:=some 32) (v:=undef) (a':=?_) #[tt,tt,tt,tt,tt,tt,tt,tt,tt,tt,tt,tt,tt,tt,tt,ff,ff,ff,ff,ff,ff,ff,ff,ff,ff,ff,ff,ff,ff,ff,ff,ff,ff,ff,ff,ff,ff,ff] rfl rfl (any_of HT_.out (by kernel_rfl)) (fun _ _ _ h => h) (Or.inr ⟨by rfl,rfl⟩) ?_ ?_
 rotate_left
 ·simp only [Act.put,sA,sZ,sS]
  rfl
 refine pure_ (i:=15) (N:=some 33) (v:=undef) (a':=?_) #[tt,tt,tt,tt,tt,tt,tt,tt,tt,tt,tt,tt,tt,tt,tt,tt,ff,ff,ff,ff,ff,ff,ff,ff,ff,ff,ff,ff,ff,ff,ff,ff,ff,ff,ff,ff,ff,ff] rfl rfl (any_of HT_.out (by kernel_rfl)) (fun _ _ _ h => h) (Or.inr ⟨by rfl,rfl⟩) ?_ ?_
 rotate_left
 ·simp only [Act.put,sA,sZ,sS]
  rfl
 refine pure_ (i:=16) (N:=some 34) (v:=?_) (a':=?_) #[tt,tt,tt,tt,tt,tt,tt,tt,tt,tt,tt,tt,tt,tt,tt,tt,tt,ff,ff,ff,ff,ff,ff,ff,ff,ff,ff,ff,ff,ff,ff,ff,ff,ff,ff,ff,ff,ff] rfl rfl (any_of HT_.out (by kernel_rfl)) (fun _ _ _ h => h) (Or.inl ⟨by rfl,?_⟩) ?_ ?_
 rotate_left
 ·intro w'
  go_simp
  with_reducible rfl
 rotate_left
 ·simp only [Act.put,sA,sZ,sS,i64_w,i32_w]
  rfl
 refine pure_ (i:=17) (N:=some 35) (v:=?_) (a':=?_) #[tt,tt,tt,tt,tt,tt,tt,tt,tt,tt,tt,tt,tt,tt,tt,tt,tt,tt,ff,ff,ff,ff,ff,ff,ff,ff,ff,ff,ff,ff,ff,ff,ff,ff,ff,ff,ff,ff] rfl rfl (any_of HT_.out (by kernel_rfl)) (fun _ _ _ h => h) (Or.inl ⟨by rfl,?_⟩) ?_ ?_
 rotate_left
 ·intro w'
  go_simp
  with_reducible rfl
 rotate_left
 ·simp only [Act.put,sA,sZ,sS,i64_w,i32_w]
  rfl
 refine pure_ (i:=18) (N:=some 36) (v:=undef) (a':=?_) #[tt,tt,tt,tt,tt,tt,tt,tt,tt,tt,tt,tt,tt,tt,tt,tt,tt,tt,tt,ff,ff,ff,ff,ff,ff,ff,ff,ff,ff,ff,ff,ff,ff,ff,ff,ff,ff,ff] rfl rfl (any_of HT_.out (by kernel_rfl)) (fun _ _ _ h => h) (Or.inr ⟨by rfl,rfl⟩) ?_ ?_
 rotate_left
 ·simp only [Act.put,sA,sZ,sS]
  rfl
 refine pure_ (i:=19) (N:=some 37) (v:=undef) (a':=?_) #[tt,tt,tt,tt,tt,tt,tt,tt,tt,tt,tt,tt,tt,tt,tt,tt,tt,tt,tt,tt,ff,ff,ff,ff,ff,ff,ff,ff,ff,ff,ff,ff,ff,ff,ff,ff,ff,ff] rfl rfl (any_of HT_.out (by kernel_rfl)) (fun _ _ _ h => h) (Or.inr ⟨by rfl,rfl⟩) ?_ ?_
 rotate_left
 ·simp only [Act.put,sA,sZ,sS]
  rfl
 refine pure_ (i:=20) (N:=some 38) (v:=undef) (a':=?_) #[tt,tt,tt,tt,tt,tt,tt,tt,tt,tt,tt,tt,tt,tt,tt,tt,tt,tt,tt,tt,tt,ff,ff,ff,ff,ff,ff,ff,ff,ff,ff,ff,ff,ff,ff,ff,ff,ff] rfl rfl (any_of HT_.out (by kernel_rfl)) (fun _ _ _ h => h) (Or.inr ⟨by rfl,rfl⟩) ?_ ?_
 rotate_left
 ·simp only [Act.put,sA,sZ,sS]
  rfl
 refine pure_ (i:=21) (N:=some 39) (v:=?_) (a':=?_) #[tt,tt,tt,tt,tt,tt,tt,tt,tt,tt,tt,tt,tt,tt,tt,tt,tt,tt,tt,tt,tt,tt,ff,ff,ff,ff,ff,ff,ff,ff,ff,ff,ff,ff,ff,ff,ff,ff] rfl rfl (any_of HT_.out (by kernel_rfl)) (fun _ _ _ h => h) (Or.inl ⟨by rfl,?_⟩) ?_ ?_
 rotate_left
 ·intro w'
  go_simp
  with_reducible rfl
 rotate_left
 ·simp only [Act.put,sA,sZ,sS,i64_w,i32_w]
  rfl
 refine pure_ (i:=22) (N:=some 40) (v:=?_) (a':=?_) #[tt,tt,tt,tt,tt,tt,tt,tt,tt,tt,tt,tt,tt,tt,tt,tt,tt,tt,tt,tt,tt,tt,tt,ff,ff,ff,ff,ff,ff,ff,ff,ff,ff,ff,ff,ff,ff,ff] rfl rfl (any_of HT_.out (by kernel_rfl)) (fun _ _ _ h => h) (Or.inl ⟨by rfl,?_⟩) ?_ ?_
 rotate_left
 ·intro w'
  go_simp
  with_reducible rfl
 rotate_left
 ·simp only [Act.put,sA,sZ,sS,i64_w,i32_w]
  rfl
 refine pure_ (i:=23) (N:=some 41) (v:=undef) (a':=?_) #[tt,tt,tt,tt,tt,tt,tt,tt,tt,tt,tt,tt,tt,tt,tt,tt,tt,tt,tt,tt,tt,tt,tt,tt,ff,ff,ff,ff,ff,ff,ff,ff,ff,ff,ff,ff,ff,ff] rfl rfl (any_of HT_.out (by kernel_rfl)) (fun _ _ _ h => h) (Or.inr ⟨by rfl,rfl⟩) ?_ ?_
 rotate_left
 ·simp only [Act.put,sA,sZ,sS]
  rfl
 refine pure_ (i:=24) (N:=some 42) (v:=undef) (a':=?_) #[tt,tt,tt,tt,tt,tt,tt,tt,tt,tt,tt,tt,tt,tt,tt,tt,tt,tt,tt,tt,tt,tt,tt,tt,tt,ff,ff,ff,ff,ff,ff,ff,ff,ff,ff,ff,ff,ff] rfl rfl (any_of HT_.out (by kernel_rfl)) (fun _ _ _ h => h) (Or.inr ⟨by rfl,rfl⟩) ?_ ?_
 rotate_left
 ·simp only [Act.put,sA,sZ,sS]
  rfl
 refine pure_ (i:=25) (N:=some 43) (v:=undef) (a':=?_) #[tt,tt,tt,tt,tt,tt,tt,tt,tt,tt,tt,tt,tt,tt,tt,tt,tt,tt,tt,tt,tt,tt,tt,tt,tt,tt,ff,ff,ff,ff,ff,ff,ff,ff,ff,ff,ff,ff] rfl rfl (any_of HT_.out (by kernel_rfl)) (fun _ _ _ h => h) (Or.inr ⟨by rfl,rfl⟩) ?_ ?_
 rotate_left
 ·simp only [Act.put,sA,sZ,sS]
  rfl
 refine pure_ (i:=26) (N:=some 44) (v:=?_) (a':=?_) #[tt,tt,tt,tt,tt,tt,tt,tt,tt,tt,tt,tt,tt,tt,tt,tt,tt,tt,tt,tt,tt,tt,tt,tt,tt,tt,tt,ff,ff,ff,ff,ff,ff,ff,ff,ff,ff,ff] rfl rfl (any_of HT_.out (by kernel_rfl)) (fun _ _ _ h => h) (Or.inl ⟨by rfl,?_⟩) ?_ ?_
 rotate_left
 ·intro w'
  go_simp
  with_reducible rfl
 rotate_left
 ·simp only [Act.put,sA,sZ,sS,i64_w,i32_w]
  rfl
 refine pure_ (i:=27) (N:=some 45) (v:=?_) (a':=?_) #[tt,tt,tt,tt,tt,tt,tt,tt,tt,tt,tt,tt,tt,tt,tt,tt,tt,tt,tt,tt,tt,tt,tt,tt,tt,tt,tt,tt,ff,ff,ff,ff,ff,ff,ff,ff,ff,ff] rfl rfl (any_of HT_.out (by kernel_rfl)) (fun _ _ _ h => h) (Or.inl ⟨by rfl,?_⟩) ?_ ?_
 rotate_left
 ·intro w'
  go_simp
  with_reducible rfl
 rotate_left
 ·simp only [Act.put,sA,sZ,sS,i64_w,i32_w]
  rfl
 refine pure_ (i:=28) (N:=some 46) (v:=undef) (a':=?_) #[tt,tt,tt,tt,tt,tt,tt,tt,tt,tt,tt,tt,tt,tt,tt,tt,tt,tt,tt,tt,tt,tt,tt,tt,tt,tt,tt,tt,tt,ff,ff,ff,ff,ff,ff,ff,ff,ff] rfl rfl (any_of HT_.out (by kernel_rfl)) (fun _ _ _ h => h) (Or.inr ⟨by rfl,rfl⟩) ?_ ?_
 rotate_left
 ·simp only [Act.put,sA,sZ,sS]
  rfl
 refine pure_ (i:=29) (N:=some 47) (v:=undef) (a':=?_) #[tt,tt,tt,tt,tt,tt,tt,tt,tt,tt,tt,tt,tt,tt,tt,tt,tt,tt,tt,tt,tt,tt,tt,tt,tt,tt,tt,tt,tt,tt,ff,ff,ff,ff,ff,ff,ff,ff] rfl rfl (any_of HT_.out (by kernel_rfl)) (fun _ _ _ h => h) (Or.inr ⟨by rfl,rfl⟩) ?_ ?_
 rotate_left
 ·simp only [Act.put,sA,sZ,sS]
  rfl
 refine pure_ (i:=30) (N:=some 48) (v:=undef) (a':=?_) #[tt,tt,tt,tt,tt,tt,tt,tt,tt,tt,tt,tt,tt,tt,tt,tt,tt,tt,tt,tt,tt,tt,tt,tt,tt,tt,tt,tt,tt,tt,tt,ff,ff,ff,ff,ff,ff,ff] rfl rfl (any_of HT_.out (by kernel_rfl)) (fun _ _ _ h => h) (Or.inr ⟨by rfl,rfl⟩) ?_ ?_
 rotate_left
 ·simp only [Act.put,sA,sZ,sS]
  rfl
 refine pure_ (i:=31) (N:=some 49) (v:=undef) (a':=?_) #[tt,tt,tt,tt,tt,tt,tt,tt,tt,tt,tt,tt,tt,tt,tt,tt,tt,tt,tt,tt,tt,tt,tt,tt,tt,tt,tt,tt,tt,tt,tt,tt,ff,ff,ff,ff,ff,ff] rfl rfl (any_of HT_.out (by kernel_rfl)) (fun _ _ _ h => h) (Or.inr ⟨by rfl,rfl⟩) ?_ ?_
 rotate_left
 ·simp only [Act.put,sA,sZ,sS]
  rfl
 refine pure_ (i:=32) (N:=some 50) (v:=undef) (a':=?_) #[tt,tt,tt,tt,tt,tt,tt,tt,tt,tt,tt,tt,tt,tt,tt,tt,tt,tt,tt,tt,tt,tt,tt,tt,tt,tt,tt,tt,tt,tt,tt,tt,tt,ff,ff,ff,ff,ff] rfl rfl (any_of HT_.out (by kernel_rfl)) (fun _ _ _ h => h) (Or.inr ⟨by rfl,rfl⟩) ?_ ?_
 rotate_left
 ·simp only [Act.put,sA,sZ,sS]
  rfl
 refine pure_ (i:=33) (N:=some 51) (v:=undef) (a':=?_) #[tt,tt,tt,tt,tt,tt,tt,tt,tt,tt,tt,tt,tt,tt,tt,tt,tt,tt,tt,tt,tt,tt,tt,tt,tt,tt,tt,tt,tt,tt,tt,tt,tt,tt,ff,ff,ff,ff] rfl rfl (any_of HT_.out (by kernel_rfl)) (fun _ _ _ h => h) (Or.inr ⟨by rfl,rfl⟩) ?_ ?_
 rotate_left
 ·simp only [Act.put,sA,sZ,sS]
  rfl
 refine pure_ (i:=34) (N:=some 52) (v:=undef) (a':=?_) #[tt,tt,tt,tt,tt,tt,tt,tt,tt,tt,tt,tt,tt,tt,tt,tt,tt,tt,tt,tt,tt,tt,tt,tt,tt,tt,tt,tt,tt,tt,tt,tt,tt,tt,tt,ff,ff,ff] rfl rfl (any_of HT_.out (by kernel_rfl)) (fun _ _ _ h => h) (Or.inr ⟨by rfl,rfl⟩) ?_ ?_
 rotate_left
 ·simp only [Act.put,sA,sZ,sS]
  rfl
 refine pure_ (i:=35) (N:=some 53) (v:=undef) (a':=?_) #[tt,tt,tt,tt,tt,tt,tt,tt,tt,tt,tt,tt,tt,tt,tt,tt,tt,tt,tt,tt,tt,tt,tt,tt,tt,tt,tt,tt,tt,tt,tt,tt,tt,tt,tt,tt,ff,ff] rfl rfl (any_of HT_.out (by kernel_rfl)) (fun _ _ _ h => h) (Or.inr ⟨by rfl,rfl⟩) ?_ ?_
 rotate_left
 ·simp only [Act.put,sA,sZ,sS]
  rfl
 refine pure_ (i:=36) (N:=some 54) (v:=undef) (a':=?_) #[tt,tt,tt,tt,tt,tt,tt,tt,tt,tt,tt,tt,tt,tt,tt,tt,tt,tt,tt,tt,tt,tt,tt,tt,tt,tt,tt,tt,tt,tt,tt,tt,tt,tt,tt,tt,tt,ff] rfl rfl (any_of HT_.out (by kernel_rfl)) (fun _ _ _ h => h) (Or.inr ⟨by rfl,rfl⟩) ?_ ?_
 rotate_left
 ·simp only [Act.put,sA,sZ,sS]
  rfl
 refine pure_ (i:=37) (N:=some 55) (v:=?_) (a':=?_) #[tt,tt,tt,tt,tt,tt,tt,tt,tt,tt,tt,tt,tt,tt,tt,tt,tt,tt,tt,tt,tt,tt,tt,tt,tt,tt,tt,tt,tt,tt,tt,tt,tt,tt,tt,tt,tt,tt] rfl rfl (any_of HT_.out (by kernel_rfl)) (fun _ _ _ h => h) (Or.inl ⟨by rfl,?_⟩) ?_ ?_
 rotate_left
 ·intro w'
  go_simp
  with_reducible rfl
 rotate_left
 ·simp only [Act.put,sA,sZ,sS,i64_w,i32_w]
  rfl
 refine done_ (done_of HT_.out (by kernel_rfl)) ?_
 go_wp2
 go_ret
 exact ⟨rfl,keep_below hB hX⟩
set_option maxHeartbeats 8000000 in
set_option maxRecDepth 100000 in
theorem busy4_c (k : Nat) (a0_0 : Int) (a0_1 : Int) (a0_2 : Bool) (a0_3 : Int) (a0_4 : Int) (a0_5 : Bool) (a0_6 : Int) (a0_7 : Int) (a0_8 : Int) (a0_9 : Int) (a0_10 : Int) (a0_11 : Int) (a0_12 : Int) (a0_13 : Int) (a0_14 : Int) (a0_15 : Int) (a0_16 : Int) (A0_17 : Option Addr) (c0_17 : Nat) (l0_17 : List (S63)) (A0_18 : Option Addr) (c0_18 : Nat) (l0_18 : List Int) (A0_19 : Option Addr) (c0_19 : Nat) (l0_19 : List Int) (a2 : Bool) (st : Int) (rd : Bool) (w W : World) (u4 u5 u8 u9 u10 u11 u12 u13 u14 u15 u16 u17 u18 u19 u20 u21 u22 u23 u24 u25 u26 u27 u28 u29 u30 u31 u32 u33 u34 u35 u36 u37 u38 u39 u40 u41 u42 u43 u44 u45 u46 u47 u48 u49 u50 u51 u52 u53 u54 u55 u56 u57 u58 u59 u60 u61 u62 u63 u64 u65 u66 u67 u68 u69 u70 u71 u72 u73 u74 u75 u76 u77 u78 u79 u80 u81 u82 u83 u84 u85 u86 u87 u88 u89 u90 u91 u92 u93 u94 u95 u96 u97 u98 u99 u100 u101 u102 u103 u104 u105 u106 u107 u108 u109 u110 u111 : Value) (p0 : Int) (p1 : Bool) (p2 p3 p4 p5 p6 p7 : Int) (e0 : Int) (HP : ∀ W' : World,Hid (Calls Tryd.prog 32 #[.agg #[.int .i64 a0_4,.bool a0_5,.int .u32 a0_6,.int .i64 a0_7,.int .i64 a0_8,.int .i64 a0_9,.int .i64 a0_10,.int .i64 a0_11]] W' fun e w' => e = .returned (.agg #[.int .i64 p0,.bool p1,.int .u32 p2,.int .i64 p3,.int .i64 p4,.int .i64 p5,.int .i64 p6,.int .i64 p7])∧Below W'.heap.size W' w')) (HF : ∀ W' : World,Hid (Calls Tryd.prog 30 #[.agg #[.int .i64 st,.int .u64 0,.bool rd,.int .u64 0,.int .i64 0,.bool false,.int .u32 0,.int .i64 0,.int .i64 0,.int .i64 0,.int .i64 0,.int .i64 0,.int .i64 0,.int .i64 0,.int .i64 0,.int .i64 0,.int .i64 0,.slice none 0 0,.slice none 0 0,.slice none 0 0],.int .i64 1,.agg #[.int .i64 a0_4,.bool a0_5,.int .u32 a0_6,.int .i64 a0_7,.int .i64 a0_8,.int .i64 a0_9,.int .i64 a0_10,.int .i64 a0_11]] W' fun e w' => e = .returned (.int .i64 e0)∧Below W'.heap.size W' w')) (hbe : (a0_4 == p0 && (a0_5 == p1 && (a0_6 == p2 && ((a0_7 == p3 && (a0_8 == p4 && (a0_9 == p5 && (a0_10 == p6)))) && (a0_11 == p7))))) = true) (h0 : (e0 != 0) = true)
  (hB : Below w.heap.size w W) (b0 : Blk W w.heap.size 33 #[.int .i64 a0_0,.int .u64 a0_1,.bool a0_2,.int .u64 a0_3,.int .i64 a0_4,.bool a0_5,.int .u32 a0_6,.int .i64 a0_7,.int .i64 a0_8,.int .i64 a0_9,.int .i64 a0_10,.int .i64 a0_11,.int .i64 a0_12,.int .i64 a0_13,.int .i64 a0_14,.int .i64 a0_15,.int .i64 a0_16,.slice A0_17 l0_17.length c0_17,.slice A0_18 l0_18.length c0_18,.slice A0_19 l0_19.length c0_19]) (b1 : Blk W (w.heap.size+1) 33 #[.int .i64 st,.int .u64 0,.bool rd,.int .u64 0,.int .i64 0,.bool false,.int .u32 0,.int .i64 0,.int .i64 0,.int .i64 0,.int .i64 0,.int .i64 0,.int .i64 0,.int .i64 0,.int .i64 0,.int .i64 0,.int .i64 0,.slice none 0 0,.slice none 0 0,.slice none 0 0]) :
  (((Go.Code.region 4 #[{ dst:=some 18,op:=Go.Op.move (Go.Operand.tmp 1),type:=4,pos:="session.go:105",after:=#[],guard:=none },{ dst:=some 19,op:=Go.Op.unOp Go.UnOp.not 4 (Go.Operand.tmp 18),type:=4,pos:="session.go:105",after:=#[{ on:=0,ground:=Go.Ground.data }],guard:=none },{ dst:=some 20,op:=Go.Op.move (Go.Operand.tmp 19),type:=4,pos:="session.go:105",after:=#[{ on:=1,ground:=Go.Ground.data }],guard:=none },{ dst:=some 21,op:=Go.Op.fieldAddr 33 (Go.Operand.tmp 3) 4,type:=0,pos:="session.go:105",after:=#[{ on:=2,ground:=Go.Ground.guard }],guard:=some (2,false) },{ dst:=some 22,op:=Go.Op.load 27 (Go.Operand.tmp 21),type:=27,pos:="session.go:105",after:=#[{ on:=3,ground:=Go.Ground.data },{ on:=2,ground:=Go.Ground.guard }],guard:=some (2,false) },{ dst:=some 23,op:=Go.Op.fieldAddr 33 (Go.Operand.tmp 3) 4,type:=0,pos:="session.go:105",after:=#[{ on:=2,ground:=Go.Ground.guard }],guard:=some (2,false) },{ dst:=some 24,op:=Go.Op.load 27 (Go.Operand.tmp 23),type:=27,pos:="session.go:105",after:=#[{ on:=5,ground:=Go.Ground.data },{ on:=2,ground:=Go.Ground.guard }],guard:=some (2,false) },{ dst:=some 25,op:=Go.Op.call { callee:=Go.Callee.value (Go.Operand.func 32),args:=#[Go.Operand.tmp 24],argTypes:=#[27] },type:=27,pos:="session.go:105",after:=#[{ on:=6,ground:=Go.Ground.data },{ on:=2,ground:=Go.Ground.chain },{ on:=2,ground:=Go.Ground.guard }],guard:=some (2,false) },{ dst:=some 26,op:=Go.Op.binOp Go.BinOp.neq 27 (Go.Operand.tmp 22) (Go.Operand.tmp 25) 27,type:=4,pos:="session.go:105",after:=#[{ on:=4,ground:=Go.Ground.data },{ on:=7,ground:=Go.Ground.data },{ on:=2,ground:=Go.Ground.guard }],guard:=some (2,false) },{ dst:=some 27,op:=Go.Op.pick (Go.Operand.tmp 20) (Go.Operand.const (Go.Value.bool true)) (Go.Operand.tmp 26),type:=4,pos:="session.go:105",after:=#[{ on:=2,ground:=Go.Ground.data },{ on:=8,ground:=Go.Ground.data }],guard:=none },{ dst:=some 28,op:=Go.Op.move (Go.Operand.tmp 27),type:=4,pos:="session.go:105",after:=#[{ on:=9,ground:=Go.Ground.data },{ on:=7,ground:=Go.Ground.chain }],guard:=none },{ dst:=some 29,op:=Go.Op.load 33 (Go.Operand.tmp 7),type:=33,pos:="session.go:105",after:=#[{ on:=10,ground:=Go.Ground.guard }],guard:=some (10,false) },{ dst:=some 30,op:=Go.Op.fieldAddr 33 (Go.Operand.tmp 3) 4,type:=0,pos:="session.go:105",after:=#[{ on:=10,ground:=Go.Ground.guard }],guard:=some (10,false) },{ dst:=some 31,op:=Go.Op.load 27 (Go.Operand.tmp 30),type:=27,pos:="session.go:105",after:=#[{ on:=12,ground:=Go.Ground.data },{ on:=10,ground:=Go.Ground.guard }],guard:=some (10,false) },{ dst:=some 32,op:=Go.Op.call { callee:=Go.Callee.value (Go.Operand.func 30),args:=#[Go.Operand.tmp 29,Go.Operand.const (Go.Value.int Go.IntKind.i64 1),Go.Operand.tmp 31],argTypes:=#[33,3,27] },type:=36,pos:="session.go:105",after:=#[{ on:=11,ground:=Go.Ground.data },{ on:=13,ground:=Go.Ground.data },{ on:=10,ground:=Go.Ground.chain },{ on:=10,ground:=Go.Ground.guard }],guard:=some (10,false) },{ dst:=some 33,op:=Go.Op.binOp Go.BinOp.neq 36 (Go.Operand.tmp 32) (Go.Operand.const (Go.Value.int Go.IntKind.i64 0)) 36,type:=4,pos:="session.go:105",after:=#[{ on:=14,ground:=Go.Ground.data },{ on:=10,ground:=Go.Ground.guard }],guard:=some (10,false) },{ dst:=some 34,op:=Go.Op.pick (Go.Operand.tmp 28) (Go.Operand.const (Go.Value.bool true)) (Go.Operand.tmp 33),type:=4,pos:="session.go:105",after:=#[{ on:=10,ground:=Go.Ground.data },{ on:=15,ground:=Go.Ground.data }],guard:=none },{ dst:=some 35,op:=Go.Op.move (Go.Operand.tmp 34),type:=4,pos:="session.go:105",after:=#[{ on:=16,ground:=Go.Ground.data },{ on:=14,ground:=Go.Ground.chain }],guard:=none },{ dst:=some 36,op:=Go.Op.fieldAddr 33 (Go.Operand.tmp 3) 5,type:=0,pos:="session.go:105",after:=#[{ on:=17,ground:=Go.Ground.guard }],guard:=some (17,false) },{ dst:=some 37,op:=Go.Op.load 3 (Go.Operand.tmp 36),type:=3,pos:="session.go:105",after:=#[{ on:=18,ground:=Go.Ground.data },{ on:=17,ground:=Go.Ground.guard }],guard:=some (17,false) },{ dst:=some 38,op:=Go.Op.binOp Go.BinOp.lss 3 (Go.Operand.tmp 37) (Go.Operand.const (Go.Value.int Go.IntKind.i64 0)) 3,type:=4,pos:="session.go:105",after:=#[{ on:=19,ground:=Go.Ground.data },{ on:=17,ground:=Go.Ground.guard }],guard:=some (17,false) },{ dst:=some 39,op:=Go.Op.pick (Go.Operand.tmp 35) (Go.Operand.const (Go.Value.bool true)) (Go.Operand.tmp 38),type:=4,pos:="session.go:105",after:=#[{ on:=17,ground:=Go.Ground.data },{ on:=20,ground:=Go.Ground.data }],guard:=none },{ dst:=some 40,op:=Go.Op.move (Go.Operand.tmp 39),type:=4,pos:="session.go:105",after:=#[{ on:=21,ground:=Go.Ground.data },{ on:=17,ground:=Go.Ground.chain }],guard:=none },{ dst:=some 41,op:=Go.Op.fieldAddr 33 (Go.Operand.tmp 3) 5,type:=0,pos:="session.go:105",after:=#[{ on:=22,ground:=Go.Ground.guard }],guard:=some (22,false) },{ dst:=some 42,op:=Go.Op.load 3 (Go.Operand.tmp 41),type:=3,pos:="session.go:105",after:=#[{ on:=23,ground:=Go.Ground.data },{ on:=22,ground:=Go.Ground.guard }],guard:=some (22,false) },{ dst:=some 43,op:=Go.Op.binOp Go.BinOp.gtr 3 (Go.Operand.tmp 42) (Go.Operand.const (Go.Value.int Go.IntKind.i64 3)) 3,type:=4,pos:="session.go:105",after:=#[{ on:=24,ground:=Go.Ground.data },{ on:=22,ground:=Go.Ground.guard }],guard:=some (22,false) },{ dst:=some 44,op:=Go.Op.pick (Go.Operand.tmp 40) (Go.Operand.const (Go.Value.bool true)) (Go.Operand.tmp 43),type:=4,pos:="session.go:105",after:=#[{ on:=22,ground:=Go.Ground.data },{ on:=25,ground:=Go.Ground.data }],guard:=none },{ dst:=some 45,op:=Go.Op.move (Go.Operand.tmp 44),type:=4,pos:="session.go:105",after:=#[{ on:=26,ground:=Go.Ground.data },{ on:=22,ground:=Go.Ground.chain }],guard:=none },{ dst:=some 46,op:=Go.Op.fieldAddr 33 (Go.Operand.tmp 3) 4,type:=0,pos:="session.go:105",after:=#[{ on:=27,ground:=Go.Ground.guard }],guard:=some (27,false) },{ dst:=some 47,op:=Go.Op.fieldAddr 27 (Go.Operand.tmp 46) 0,type:=0,pos:="session.go:105",after:=#[{ on:=28,ground:=Go.Ground.data },{ on:=27,ground:=Go.Ground.guard }],guard:=some (27,false) },{ dst:=some 48,op:=Go.Op.load 3 (Go.Operand.tmp 47),type:=3,pos:="session.go:105",after:=#[{ on:=29,ground:=Go.Ground.data },{ on:=27,ground:=Go.Ground.guard }],guard:=some (27,false) },{ dst:=some 49,op:=Go.Op.fieldAddr 33 (Go.Operand.tmp 3) 5,type:=0,pos:="session.go:105",after:=#[{ on:=27,ground:=Go.Ground.guard }],guard:=some (27,false) },{ dst:=some 50,op:=Go.Op.load 3 (Go.Operand.tmp 49),type:=3,pos:="session.go:105",after:=#[{ on:=31,ground:=Go.Ground.data },{ on:=27,ground:=Go.Ground.guard }],guard:=some (27,false) },{ dst:=some 51,op:=Go.Op.indexAddr 82 (Go.Operand.global 0) (Go.Operand.tmp 48),type:=0,pos:="session.go:105",after:=#[{ on:=30,ground:=Go.Ground.data },{ on:=27,ground:=Go.Ground.guard }],guard:=some (27,false) },{ dst:=some 52,op:=Go.Op.indexAddr 81 (Go.Operand.tmp 51) (Go.Operand.tmp 50),type:=0,pos:="session.go:105",after:=#[{ on:=33,ground:=Go.Ground.data },{ on:=32,ground:=Go.Ground.data },{ on:=27,ground:=Go.Ground.guard }],guard:=some (27,false) },{ dst:=some 53,op:=Go.Op.load 3 (Go.Operand.tmp 52),type:=3,pos:="session.go:105",after:=#[{ on:=34,ground:=Go.Ground.data },{ on:=27,ground:=Go.Ground.guard }],guard:=some (27,false) },{ dst:=some 54,op:=Go.Op.binOp Go.BinOp.eql 3 (Go.Operand.tmp 53) (Go.Operand.const (Go.Value.int Go.IntKind.i64 0)) 3,type:=4,pos:="session.go:105",after:=#[{ on:=35,ground:=Go.Ground.data },{ on:=27,ground:=Go.Ground.guard }],guard:=some (27,false) },{ dst:=some 55,op:=Go.Op.pick (Go.Operand.tmp 45) (Go.Operand.const (Go.Value.bool true)) (Go.Operand.tmp 54),type:=4,pos:="session.go:105",after:=#[{ on:=27,ground:=Go.Ground.data },{ on:=36,ground:=Go.Ground.data }],guard:=none }] true).seq (Go.Code.cond (Go.Operand.tmp 55) ((Go.Code.region 5 #[{ dst:=some 6,op:=Go.Op.assign (Go.Operand.const (Go.Value.bool false)),type:=4,pos:="session.go:106",after:=#[],guard:=none }] false).seq Go.Code.ret) Go.Code.skip)).seq ((Go.Code.region 6 #[{ dst:=some 56,op:=Go.Op.fieldAddr 33 (Go.Operand.tmp 3) 4,type:=0,pos:="session.go:108",after:=#[],guard:=none },{ dst:=some 57,op:=Go.Op.fieldAddr 27 (Go.Operand.tmp 56) 0,type:=0,pos:="session.go:108",after:=#[{ on:=0,ground:=Go.Ground.data }],guard:=none },{ dst:=some 58,op:=Go.Op.load 3 (Go.Operand.tmp 57),type:=3,pos:="session.go:108",after:=#[{ on:=1,ground:=Go.Ground.data }],guard:=none },{ dst:=some 59,op:=Go.Op.binOp Go.BinOp.eql 3 (Go.Operand.tmp 58) (Go.Operand.const (Go.Value.int Go.IntKind.i64 4)) 3,type:=4,pos:="session.go:108",after:=#[{ on:=2,ground:=Go.Ground.data }],guard:=none },{ dst:=some 8,op:=Go.Op.assign (Go.Operand.tmp 59),type:=4,pos:="session.go:108",after:=#[{ on:=3,ground:=Go.Ground.data },{ on:=0,ground:=Go.Ground.phase },{ on:=1,ground:=Go.Ground.phase },{ on:=2,ground:=Go.Ground.phase },{ on:=3,ground:=Go.Ground.phase }],guard:=none }] false).seq (((Go.Code.region 7 #[{ dst:=some 60,op:=Go.Op.move (Go.Operand.tmp 8),type:=4,pos:="session.go:109",after:=#[],guard:=none },{ dst:=some 61,op:=Go.Op.move (Go.Operand.tmp 60),type:=4,pos:="session.go:109",after:=#[{ on:=0,ground:=Go.Ground.data }],guard:=none },{ dst:=some 62,op:=Go.Op.fieldAddr 33 (Go.Operand.tmp 3) 5,type:=0,pos:="session.go:109",after:=#[{ on:=1,ground:=Go.Ground.guard }],guard:=some (1,true) },{ dst:=some 63,op:=Go.Op.load 3 (Go.Operand.tmp 62),type:=3,pos:="session.go:109",after:=#[{ on:=2,ground:=Go.Ground.data },{ on:=1,ground:=Go.Ground.guard }],guard:=some (1,true) },{ dst:=some 64,op:=Go.Op.binOp Go.BinOp.eql 3 (Go.Operand.tmp 63) (Go.Operand.const (Go.Value.int Go.IntKind.i64 2)) 3,type:=4,pos:="session.go:109",after:=#[{ on:=3,ground:=Go.Ground.data },{ on:=1,ground:=Go.Ground.guard }],guard:=some (1,true) },{ dst:=some 65,op:=Go.Op.pick (Go.Operand.tmp 61) (Go.Operand.tmp 64) (Go.Operand.const (Go.Value.bool false)),type:=4,pos:="session.go:109",after:=#[{ on:=1,ground:=Go.Ground.data },{ on:=4,ground:=Go.Ground.data }],guard:=none },{ dst:=some 66,op:=Go.Op.move (Go.Operand.tmp 65),type:=4,pos:="session.go:109",after:=#[{ on:=5,ground:=Go.Ground.data },{ on:=1,ground:=Go.Ground.chain }],guard:=none },{ dst:=some 67,op:=Go.Op.fieldAddr 33 (Go.Operand.tmp 3) 2,type:=0,pos:="session.go:109",after:=#[{ on:=6,ground:=Go.Ground.guard }],guard:=some (6,true) },{ dst:=some 68,op:=Go.Op.load 4 (Go.Operand.tmp 67),type:=4,pos:="session.go:109",after:=#[{ on:=7,ground:=Go.Ground.data },{ on:=6,ground:=Go.Ground.guard }],guard:=some (6,true) },{ dst:=some 69,op:=Go.Op.pick (Go.Operand.tmp 66) (Go.Operand.tmp 68) (Go.Operand.const (Go.Value.bool false)),type:=4,pos:="session.go:109",after:=#[{ on:=6,ground:=Go.Ground.data },{ on:=8,ground:=Go.Ground.data }],guard:=none }] false).seq (Go.Code.cond (Go.Operand.tmp 69) ((Go.Code.region 8 #[{ dst:=some 6,op:=Go.Op.assign (Go.Operand.const (Go.Value.bool false)),type:=4,pos:="session.go:110",after:=#[],guard:=none }] false).seq Go.Code.ret) Go.Code.skip)).seq (((Go.Code.region 9 #[{ dst:=some 70,op:=Go.Op.move (Go.Operand.tmp 8),type:=4,pos:="session.go:112",after:=#[],guard:=none },{ dst:=some 71,op:=Go.Op.move (Go.Operand.tmp 70),type:=4,pos:="session.go:112",after:=#[{ on:=0,ground:=Go.Ground.data }],guard:=none },{ dst:=some 72,op:=Go.Op.fieldAddr 33 (Go.Operand.tmp 3) 5,type:=0,pos:="session.go:112",after:=#[{ on:=1,ground:=Go.Ground.guard }],guard:=some (1,true) },{ dst:=some 73,op:=Go.Op.load 3 (Go.Operand.tmp 72),type:=3,pos:="session.go:112",after:=#[{ on:=2,ground:=Go.Ground.data },{ on:=1,ground:=Go.Ground.guard }],guard:=some (1,true) },{ dst:=some 74,op:=Go.Op.binOp Go.BinOp.eql 3 (Go.Operand.tmp 73) (Go.Operand.const (Go.Value.int Go.IntKind.i64 1)) 3,type:=4,pos:="session.go:112",after:=#[{ on:=3,ground:=Go.Ground.data },{ on:=1,ground:=Go.Ground.guard }],guard:=some (1,true) },{ dst:=some 75,op:=Go.Op.pick (Go.Operand.tmp 71) (Go.Operand.tmp 74) (Go.Operand.const (Go.Value.bool false)),type:=4,pos:="session.go:112",after:=#[{ on:=1,ground:=Go.Ground.data },{ on:=4,ground:=Go.Ground.data }],guard:=none }] false).seq (Go.Code.cond (Go.Operand.tmp 75) ((Go.Code.region 10 #[{ dst:=some 76,op:=Go.Op.fieldAddr 33 (Go.Operand.tmp 3) 6,type:=0,pos:="session.go:113",after:=#[],guard:=none },{ dst:=some 77,op:=Go.Op.load 31 (Go.Operand.tmp 76),type:=31,pos:="session.go:113",after:=#[{ on:=0,ground:=Go.Ground.data }],guard:=none },{ dst:=some 78,op:=Go.Op.call { callee:=Go.Callee.value (Go.Operand.func 45),args:=#[Go.Operand.tmp 77],argTypes:=#[31] },type:=36,pos:="session.go:113",after:=#[{ on:=1,ground:=Go.Ground.data }],guard:=none },{ dst:=some 79,op:=Go.Op.binOp Go.BinOp.neq 36 (Go.Operand.tmp 78) (Go.Operand.const (Go.Value.int Go.IntKind.i64 0)) 36,type:=4,pos:="session.go:113",after:=#[{ on:=2,ground:=Go.Ground.data }],guard:=none },{ dst:=some 80,op:=Go.Op.move (Go.Operand.tmp 79),type:=4,pos:="session.go:113",after:=#[{ on:=3,ground:=Go.Ground.data },{ on:=2,ground:=Go.Ground.chain }],guard:=none },{ dst:=some 81,op:=Go.Op.fieldAddr 33 (Go.Operand.tmp 3) 6,type:=0,pos:="session.go:113",after:=#[{ on:=4,ground:=Go.Ground.guard }],guard:=some (4,false) },{ dst:=some 82,op:=Go.Op.fieldAddr 31 (Go.Operand.tmp 81) 0,type:=0,pos:="session.go:113",after:=#[{ on:=5,ground:=Go.Ground.data },{ on:=4,ground:=Go.Ground.guard }],guard:=some (4,false) },{ dst:=some 83,op:=Go.Op.load 25 (Go.Operand.tmp 82),type:=25,pos:="session.go:113",after:=#[{ on:=6,ground:=Go.Ground.data },{ on:=4,ground:=Go.Ground.guard }],guard:=some (4,false) },{ dst:=some 84,op:=Go.Op.fieldAddr 33 (Go.Operand.tmp 3) 4,type:=0,pos:="session.go:113",after:=#[{ on:=4,ground:=Go.Ground.guard }],guard:=some (4,false) },{ dst:=some 85,op:=Go.Op.fieldAddr 27 (Go.Operand.tmp 84) 3,type:=0,pos:="session.go:113",after:=#[{ on:=8,ground:=Go.Ground.data },{ on:=4,ground:=Go.Ground.guard }],guard:=some (4,false) },{ dst:=some 86,op:=Go.Op.load 25 (Go.Operand.tmp 85),type:=25,pos:="session.go:113",after:=#[{ on:=9,ground:=Go.Ground.data },{ on:=4,ground:=Go.Ground.guard }],guard:=some (4,false) },{ dst:=some 87,op:=Go.Op.binOp Go.BinOp.neq 25 (Go.Operand.tmp 83) (Go.Operand.tmp 86) 25,type:=4,pos:="session.go:113",after:=#[{ on:=7,ground:=Go.Ground.data },{ on:=10,ground:=Go.Ground.data },{ on:=4,ground:=Go.Ground.guard }],guard:=some (4,false) },{ dst:=some 88,op:=Go.Op.pick (Go.Operand.tmp 80) (Go.Operand.const (Go.Value.bool true)) (Go.Operand.tmp 87),type:=4,pos:="session.go:113",after:=#[{ on:=4,ground:=Go.Ground.data },{ on:=11,ground:=Go.Ground.data }],guard:=none }] false).seq (Go.Code.cond (Go.Operand.tmp 88) ((Go.Code.region 11 #[{ dst:=some 6,op:=Go.Op.assign (Go.Operand.const (Go.Value.bool false)),type:=4,pos:="session.go:114",after:=#[],guard:=none }] false).seq Go.Code.ret) Go.Code.skip)) ((Go.Code.region 12 #[{ dst:=some 89,op:=Go.Op.fieldAddr 33 (Go.Operand.tmp 3) 6,type:=0,pos:="session.go:116",after:=#[],guard:=none },{ dst:=some 90,op:=Go.Op.load 31 (Go.Operand.tmp 89),type:=31,pos:="session.go:116",after:=#[{ on:=0,ground:=Go.Ground.data }],guard:=none },{ dst:=some 91,op:=Go.Op.call { callee:=Go.Callee.value (Go.Operand.func 61),args:=#[Go.Operand.tmp 90],argTypes:=#[31] },type:=4,pos:="session.go:116",after:=#[{ on:=1,ground:=Go.Ground.data }],guard:=none },{ dst:=some 92,op:=Go.Op.unOp Go.UnOp.not 4 (Go.Operand.tmp 91),type:=4,pos:="session.go:116",after:=#[{ on:=2,ground:=Go.Ground.data }],guard:=none }] false).seq (Go.Code.cond (Go.Operand.tmp 92) ((Go.Code.region 13 #[{ dst:=some 6,op:=Go.Op.assign (Go.Operand.const (Go.Value.bool false)),type:=4,pos:="session.go:117",after:=#[],guard:=none }] false).seq Go.Code.ret) Go.Code.skip)))).seq (((Go.Code.region 14 #[{ dst:=some 93,op:=Go.Op.move (Go.Operand.tmp 8),type:=4,pos:="session.go:119",after:=#[],guard:=none },{ dst:=some 94,op:=Go.Op.move (Go.Operand.tmp 93),type:=4,pos:="session.go:119",after:=#[{ on:=0,ground:=Go.Ground.data }],guard:=none },{ dst:=some 95,op:=Go.Op.fieldAddr 33 (Go.Operand.tmp 3) 5,type:=0,pos:="session.go:119",after:=#[{ on:=1,ground:=Go.Ground.guard }],guard:=some (1,true) },{ dst:=some 96,op:=Go.Op.load 3 (Go.Operand.tmp 95),type:=3,pos:="session.go:119",after:=#[{ on:=2,ground:=Go.Ground.data },{ on:=1,ground:=Go.Ground.guard }],guard:=some (1,true) },{ dst:=some 97,op:=Go.Op.binOp Go.BinOp.eql 3 (Go.Operand.tmp 96) (Go.Operand.const (Go.Value.int Go.IntKind.i64 2)) 3,type:=4,pos:="session.go:119",after:=#[{ on:=3,ground:=Go.Ground.data },{ on:=1,ground:=Go.Ground.guard }],guard:=some (1,true) },{ dst:=some 98,op:=Go.Op.pick (Go.Operand.tmp 94) (Go.Operand.tmp 97) (Go.Operand.const (Go.Value.bool false)),type:=4,pos:="session.go:119",after:=#[{ on:=1,ground:=Go.Ground.data },{ on:=4,ground:=Go.Ground.data }],guard:=none }] false).seq (Go.Code.cond (Go.Operand.tmp 98) ((Go.Code.region 15 #[{ dst:=some 99,op:=Go.Op.fieldAddr 33 (Go.Operand.tmp 3) 7,type:=0,pos:="session.go:120",after:=#[],guard:=none },{ dst:=some 100,op:=Go.Op.load 29 (Go.Operand.tmp 99),type:=29,pos:="session.go:120",after:=#[{ on:=0,ground:=Go.Ground.data }],guard:=none },{ dst:=some 101,op:=Go.Op.call { callee:=Go.Callee.builtin Go.Builtin.len,args:=#[Go.Operand.tmp 100],argTypes:=#[29] },type:=3,pos:="session.go:120",after:=#[{ on:=1,ground:=Go.Ground.data }],guard:=none },{ dst:=some 102,op:=Go.Op.binOp Go.BinOp.gtr 3 (Go.Operand.tmp 101) (Go.Operand.const (Go.Value.int Go.IntKind.i64 0)) 3,type:=4,pos:="session.go:120",after:=#[{ on:=2,ground:=Go.Ground.data }],guard:=none },{ dst:=some 103,op:=Go.Op.move (Go.Operand.tmp 102),type:=4,pos:="session.go:120",after:=#[{ on:=3,ground:=Go.Ground.data }],guard:=none },{ dst:=some 104,op:=Go.Op.fieldAddr 33 (Go.Operand.tmp 3) 7,type:=0,pos:="session.go:120",after:=#[{ on:=4,ground:=Go.Ground.guard }],guard:=some (4,true) },{ dst:=some 105,op:=Go.Op.load 29 (Go.Operand.tmp 104),type:=29,pos:="session.go:120",after:=#[{ on:=5,ground:=Go.Ground.data },{ on:=4,ground:=Go.Ground.guard }],guard:=some (4,true) },{ dst:=some 106,op:=Go.Op.call { callee:=Go.Callee.value (Go.Operand.func 46),args:=#[Go.Operand.tmp 105],argTypes:=#[29] },type:=4,pos:="session.go:120",after:=#[{ on:=6,ground:=Go.Ground.data },{ on:=4,ground:=Go.Ground.chain },{ on:=4,ground:=Go.Ground.guard }],guard:=some (4,true) },{ dst:=some 107,op:=Go.Op.pick (Go.Operand.tmp 103) (Go.Operand.tmp 106) (Go.Operand.const (Go.Value.bool false)),type:=4,pos:="session.go:120",after:=#[{ on:=4,ground:=Go.Ground.data },{ on:=7,ground:=Go.Ground.data }],guard:=none },{ dst:=some 6,op:=Go.Op.assign (Go.Operand.tmp 107),type:=4,pos:="session.go:120",after:=#[{ on:=8,ground:=Go.Ground.data },{ on:=7,ground:=Go.Ground.chain },{ on:=0,ground:=Go.Ground.phase },{ on:=1,ground:=Go.Ground.phase },{ on:=2,ground:=Go.Ground.phase },{ on:=3,ground:=Go.Ground.phase },{ on:=4,ground:=Go.Ground.phase },{ on:=5,ground:=Go.Ground.phase },{ on:=6,ground:=Go.Ground.phase },{ on:=7,ground:=Go.Ground.phase },{ on:=8,ground:=Go.Ground.phase }],guard:=none }] false).seq Go.Code.ret) Go.Code.skip)).seq ((Go.Code.region 16 #[{ dst:=some 108,op:=Go.Op.fieldAddr 33 (Go.Operand.tmp 3) 7,type:=0,pos:="session.go:122",after:=#[],guard:=none },{ dst:=some 109,op:=Go.Op.load 29 (Go.Operand.tmp 108),type:=29,pos:="session.go:122",after:=#[{ on:=0,ground:=Go.Ground.data }],guard:=none },{ dst:=some 110,op:=Go.Op.call { callee:=Go.Callee.builtin Go.Builtin.len,args:=#[Go.Operand.tmp 109],argTypes:=#[29] },type:=3,pos:="session.go:122",after:=#[{ on:=1,ground:=Go.Ground.data }],guard:=none },{ dst:=some 111,op:=Go.Op.binOp Go.BinOp.eql 3 (Go.Operand.tmp 110) (Go.Operand.const (Go.Value.int Go.IntKind.i64 0)) 3,type:=4,pos:="session.go:122",after:=#[{ on:=2,ground:=Go.Ground.data }],guard:=none },{ dst:=some 6,op:=Go.Op.assign (Go.Operand.tmp 111),type:=4,pos:="session.go:122",after:=#[{ on:=3,ground:=Go.Ground.data },{ on:=0,ground:=Go.Ground.phase },{ on:=1,ground:=Go.Ground.phase },{ on:=2,ground:=Go.Ground.phase },{ on:=3,ground:=Go.Ground.phase }],guard:=none }] false).seq Go.Code.ret)))))).wp Tryd.prog (bodyPost Tryd.prog Tryd.f54 fun e w' => e = .returned (.bool false)∧Below w.heap.size w w') ⟨#[.agg #[.int .i64 a0_0,.int .u64 a0_1,.bool a0_2,.int .u64 a0_3,.int .i64 a0_4,.bool a0_5,.int .u32 a0_6,.int .i64 a0_7,.int .i64 a0_8,.int .i64 a0_9,.int .i64 a0_10,.int .i64 a0_11,.int .i64 a0_12,.int .i64 a0_13,.int .i64 a0_14,.int .i64 a0_15,.int .i64 a0_16,.slice A0_17 l0_17.length c0_17,.slice A0_18 l0_18.length c0_18,.slice A0_19 l0_19.length c0_19],.bool true,.bool a2,.pointer (some ⟨w.heap.size,0,none⟩),u4,u5,.bool false,.pointer (some ⟨w.heap.size+1,0,none⟩),u8,u9,u10,u11,u12,u13,u14,u15,u16,u17,u18,u19,u20,u21,u22,u23,u24,u25,u26,u27,u28,u29,u30,u31,u32,u33,u34,u35,u36,u37,u38,u39,u40,u41,u42,u43,u44,u45,u46,u47,u48,u49,u50,u51,u52,u53,u54,u55,u56,u57,u58,u59,u60,u61,u62,u63,u64,u65,u66,u67,u68,u69,u70,u71,u72,u73,u74,u75,u76,u77,u78,u79,u80,u81,u82,u83,u84,u85,u86,u87,u88,u89,u90,u91,u92,u93,u94,u95,u96,u97,u98,u99,u100,u101,u102,u103,u104,u105,u106,u107,u108,u109,u110,u111],[]⟩ W:=by
 have c4:=b0.cell 4
 have c5:=b0.cell 5
 have c6:=b0.cell 6
 have c7:=b0.cell 7
 have c8:=b0.cell 8
 have c9:=b0.cell 9
 have c10:=b0.cell 10
 have c11:=b0.cell 11
 simp at c4 c5 c6 c7 c8 c9 c10 c11
 go_upto_region 4 with fail
 refine start_ (n:=38) (S:=(fun w' => Below W.heap.size W w')) (ds:=[]) #[ff,ff,ff,ff,ff,ff,ff,ff,ff,ff,ff,ff,ff,ff,ff,ff,ff,ff,ff,ff,ff,ff,ff,ff,ff,ff,ff,ff,ff,ff,ff,ff,ff,ff,ff,ff,ff,ff] (by kernel_rfl) rfl rfl (Below.drew (Below.refl _ _)) (fun hHeld => ?_)
 refine with_tabW bz4.tab4 bz4.bits4 (fun HT_ HW_ => ?_)
 refine pure_ (i:=0) (N:=some 18) (v:=?_) (a':=?_) #[tt,ff,ff,ff,ff,ff,ff,ff,ff,ff,ff,ff,ff,ff,ff,ff,ff,ff,ff,ff,ff,ff,ff,ff,ff,ff,ff,ff,ff,ff,ff,ff,ff,ff,ff,ff,ff,ff] rfl rfl (any_of HT_.out (by kernel_rfl)) (fun _ _ _ h => h) (Or.inl ⟨by rfl,?_⟩) ?_ ?_
 rotate_left
 ·intro w'
  go_simp
  with_reducible rfl
 rotate_left
 ·simp only [Act.put,sA,sZ,sS,i64_w,i32_w]
  rfl
 refine pure_ (i:=1) (N:=some 19) (v:=?_) (a':=?_) #[tt,tt,ff,ff,ff,ff,ff,ff,ff,ff,ff,ff,ff,ff,ff,ff,ff,ff,ff,ff,ff,ff,ff,ff,ff,ff,ff,ff,ff,ff,ff,ff,ff,ff,ff,ff,ff,ff] rfl rfl (any_of HT_.out (by kernel_rfl)) (fun _ _ _ h => h) (Or.inl ⟨by rfl,?_⟩) ?_ ?_
 rotate_left
 ·intro w'
  go_simp
  with_reducible rfl
 rotate_left
 ·simp only [Act.put,sA,sZ,sS,i64_w,i32_w]
  rfl
 refine pure_ (i:=2) (N:=some 20) (v:=?_) (a':=?_) #[tt,tt,tt,ff,ff,ff,ff,ff,ff,ff,ff,ff,ff,ff,ff,ff,ff,ff,ff,ff,ff,ff,ff,ff,ff,ff,ff,ff,ff,ff,ff,ff,ff,ff,ff,ff,ff,ff] rfl rfl (any_of HT_.out (by kernel_rfl)) (fun _ _ _ h => h) (Or.inl ⟨by rfl,?_⟩) ?_ ?_
 rotate_left
 ·intro w'
  go_simp
  with_reducible rfl
 rotate_left
 ·simp only [Act.put,sA,sZ,sS,i64_w,i32_w]
  rfl
 refine pure_ (i:=3) (N:=some 21) (v:=?_) (a':=?_) #[tt,tt,tt,tt,ff,ff,ff,ff,ff,ff,ff,ff,ff,ff,ff,ff,ff,ff,ff,ff,ff,ff,ff,ff,ff,ff,ff,ff,ff,ff,ff,ff,ff,ff,ff,ff,ff,ff] rfl rfl (any_of HT_.out (by kernel_rfl)) (fun _ _ _ h => h) (Or.inl ⟨by rfl,?_⟩) ?_ ?_
 rotate_left
 ·intro w'
  go_simp
  with_reducible rfl
 rotate_left
 ·simp only [Act.put,sA,sZ,sS,i64_w,i32_w]
  rfl
 refine take_ (i:=4) (N:=some 22) (v:=?_) (a':=?_) #[tt,tt,tt,tt,tt,ff,ff,ff,ff,ff,ff,ff,ff,ff,ff,ff,ff,ff,ff,ff,ff,ff,ff,ff,ff,ff,ff,ff,ff,ff,ff,ff,ff,ff,ff,ff,ff,ff] rfl rfl (take_ofW HT_.out HW_.out (by kernel_rfl)) (fun _ _ _ h => h) (Or.inl ⟨by rfl,?_⟩) hHeld ?_ ?_
 rotate_left
 ·rintro w' s0
  have j4:=keep_cell s0 c4
  have j5:=keep_cell s0 c5
  have j6:=keep_cell s0 c6
  have j7:=keep_cell s0 c7
  have j8:=keep_cell s0 c8
  have j9:=keep_cell s0 c9
  have j10:=keep_cell s0 c10
  have j11:=keep_cell s0 c11
  go_simp
  with_reducible rfl
 rotate_left
 ·simp only [Act.put,sA,sZ,sS,i64_w,i32_w]
  rfl
 refine pure_ (i:=5) (N:=some 23) (v:=?_) (a':=?_) #[tt,tt,tt,tt,tt,tt,ff,ff,ff,ff,ff,ff,ff,ff,ff,ff,ff,ff,ff,ff,ff,ff,ff,ff,ff,ff,ff,ff,ff,ff,ff,ff,ff,ff,ff,ff,ff,ff] rfl rfl (any_of HT_.out (by kernel_rfl)) (fun _ _ _ h => h) (Or.inl ⟨by rfl,?_⟩) ?_ ?_
 rotate_left
 ·intro w'
  go_simp
  with_reducible rfl
 rotate_left
 ·simp only [Act.put,sA,sZ,sS,i64_w,i32_w]
  rfl
 refine take_ (i:=6) (N:=some 24) (v:=?_) (a':=?_) #[tt,tt,tt,tt,tt,tt,tt,ff,ff,ff,ff,ff,ff,ff,ff,ff,ff,ff,ff,ff,ff,ff,ff,ff,ff,ff,ff,ff,ff,ff,ff,ff,ff,ff,ff,ff,ff,ff] rfl rfl (take_ofW HT_.out HW_.out (by kernel_rfl)) (fun _ _ _ h => h) (Or.inl ⟨by rfl,?_⟩) hHeld ?_ ?_
 rotate_left
 ·rintro w' s0
  have j4:=keep_cell s0 c4
  have j5:=keep_cell s0 c5
  have j6:=keep_cell s0 c6
  have j7:=keep_cell s0 c7
  have j8:=keep_cell s0 c8
  have j9:=keep_cell s0 c9
  have j10:=keep_cell s0 c10
  have j11:=keep_cell s0 c11
  go_simp
  with_reducible rfl
 rotate_left
 ·simp only [Act.put,sA,sZ,sS,i64_w,i32_w]
  rfl
 have hX:=hHeld
 refine one_ (i:=7) (N:=some 25) #[tt,tt,tt,tt,tt,tt,tt,tt,ff,ff,ff,ff,ff,ff,ff,ff,ff,ff,ff,ff,ff,ff,ff,ff,ff,ff,ff,ff,ff,ff,ff,ff,ff,ff,ff,ff,ff,ff] rfl rfl (one_of HT_.out (by kernel_rfl)) (by decide) (fun K hK => ?_)
 refine goes_ Tryd.func32 (by kernel_rfl) rfl #[.agg #[.int .i64 a0_4,.bool a0_5,.int .u32 a0_6,.int .i64 a0_7,.int .i64 a0_8,.int .i64 a0_9,.int .i64 a0_10,.int .i64 a0_11]] (by rfl) rfl rfl (by (try simp only [List.map_toArray,List.map_cons,List.map_nil]);first|done|rfl) ?_
 refine (HP _).out.mono ?_
 rintro e_ w9 ⟨rfl,hb9⟩
 refine ⟨_,rfl,?_⟩
 replace hX:=keep_below hX hb9
 clear hb9
 refine hK.out _ _ hX (fun hHeld => ?_)
 clear hK K
 refine norm_ (a':=?_) ?_ ?_
 rotate_left
 ·first|(show Act.put _ (some 25) _ = _;simp only [Act.put,sA,sZ,sS,i64_w,i32_w];rfl)|with_reducible rfl
 refine pure_ (i:=8) (N:=some 26) (v:=?_) (a':=?_) #[tt,tt,tt,tt,tt,tt,tt,tt,tt,ff,ff,ff,ff,ff,ff,ff,ff,ff,ff,ff,ff,ff,ff,ff,ff,ff,ff,ff,ff,ff,ff,ff,ff,ff,ff,ff,ff,ff] rfl rfl (any_of HT_.out (by kernel_rfl)) (fun _ _ _ h => h) (Or.inl ⟨by rfl,?_⟩) ?_ ?_
 rotate_left
 ·intro w'
  go_simp
  with_reducible rfl
 rotate_left
 ·simp only [Act.put,sA,sZ,sS,i64_w,i32_w]
  rfl
 refine pure_ (i:=9) (N:=some 27) (v:=?_) (a':=?_) #[tt,tt,tt,tt,tt,tt,tt,tt,tt,tt,ff,ff,ff,ff,ff,ff,ff,ff,ff,ff,ff,ff,ff,ff,ff,ff,ff,ff,ff,ff,ff,ff,ff,ff,ff,ff,ff,ff] rfl rfl (any_of HT_.out (by kernel_rfl)) (fun _ _ _ h => h) (Or.inl ⟨by rfl,?_⟩) ?_ ?_
 rotate_left
 ·intro w'
  go_simp
  with_reducible rfl
 rotate_left
 ·simp only [Act.put,sA,sZ,sS,i64_w,i32_w]
  rfl
 refine pure_ (i:=10) (N:=some 28) (v:=?_) (a':=?_) #[tt,tt,tt,tt,tt,tt,tt,tt,tt,tt,tt,ff,ff,ff,ff,ff,ff,ff,ff,ff,ff,ff,ff,ff,ff,ff,ff,ff,ff,ff,ff,ff,ff,ff,ff,ff,ff,ff] rfl rfl (any_of HT_.out (by kernel_rfl)) (fun _ _ _ h => h) (Or.inl ⟨by rfl,?_⟩) ?_ ?_
 rotate_left
 ·intro w'
  go_simp
  with_reducible rfl
 rotate_left
 ·simp only [Act.put,sA,sZ,sS,i64_w,i32_w]
  rfl
 refine take_ (i:=11) (N:=some 29) (v:=.agg #[.int .i64 st,.int .u64 0,.bool rd,.int .u64 0,.int .i64 0,.bool false,.int .u32 0,.int .i64 0,.int .i64 0,.int .i64 0,.int .i64 0,.int .i64 0,.int .i64 0,.int .i64 0,.int .i64 0,.int .i64 0,.int .i64 0,.slice none 0 0,.slice none 0 0,.slice none 0 0]) (a':=?_) #[tt,tt,tt,tt,tt,tt,tt,tt,tt,tt,tt,tt,ff,ff,ff,ff,ff,ff,ff,ff,ff,ff,ff,ff,ff,ff,ff,ff,ff,ff,ff,ff,ff,ff,ff,ff,ff,ff] rfl rfl (take_ofW HT_.out HW_.out (by kernel_rfl)) (fun _ _ _ h => h) (Or.inl ⟨by rfl,?_⟩) hHeld ?_ ?_
 ·rintro w' s0
  exact load_row_run _ _ rfl (w.heap.size+1) rfl 33 #[.int .i64 st,.int .u64 0,.bool rd,.int .u64 0,.int .i64 0,.bool false,.int .u32 0,.int .i64 0,.int .i64 0,.int .i64 0,.int .i64 0,.int .i64 0,.int .i64 0,.int .i64 0,.int .i64 0,.int .i64 0,.int .i64 0,.slice none 0 0,.slice none 0 0,.slice none 0 0] _ (b1.keep s0) Tryd.underlying33 rfl (by first|kernel_rfl|rfl)
 rotate_left
 ·simp only [Act.put,sA,sZ,sS]
  rfl
 refine pure_ (i:=12) (N:=some 30) (v:=?_) (a':=?_) #[tt,tt,tt,tt,tt,tt,tt,tt,tt,tt,tt,tt,tt,ff,ff,ff,ff,ff,ff,ff,ff,ff,ff,ff,ff,ff,ff,ff,ff,ff,ff,ff,ff,ff,ff,ff,ff,ff] rfl rfl (any_of HT_.out (by kernel_rfl)) (fun _ _ _ h => h) (Or.inl ⟨by rfl,?_⟩) ?_ ?_
 rotate_left
 ·intro w'
  go_simp
  with_reducible rfl
 rotate_left
 ·simp only [Act.put,sA,sZ,sS,i64_w,i32_w]
  rfl
 refine take_ (i:=13) (N:=some 31) (v:=?_) (a':=?_) #[tt,tt,tt,tt,tt,tt,tt,tt,tt,tt,tt,tt,tt,tt,ff,ff,ff,ff,ff,ff,ff,ff,ff,ff,ff,ff,ff,ff,ff,ff,ff,ff,ff,ff,ff,ff,ff,ff] rfl rfl (take_ofW HT_.out HW_.out (by kernel_rfl)) (fun _ _ _ h => h) (Or.inl ⟨by rfl,?_⟩) hHeld ?_ ?_
 rotate_left
 ·rintro w' s0
  have j4:=keep_cell s0 c4
  have j5:=keep_cell s0 c5
  have j6:=keep_cell s0 c6
  have j7:=keep_cell s0 c7
  have j8:=keep_cell s0 c8
  have j9:=keep_cell s0 c9
  have j10:=keep_cell s0 c10
  have j11:=keep_cell s0 c11
  go_simp
  with_reducible rfl
 rotate_left
 ·simp only [Act.put,sA,sZ,sS,i64_w,i32_w]
  rfl
 refine one_ (i:=14) (N:=some 32) #[tt,tt,tt,tt,tt,tt,tt,tt,tt,tt,tt,tt,tt,tt,tt,ff,ff,ff,ff,ff,ff,ff,ff,ff,ff,ff,ff,ff,ff,ff,ff,ff,ff,ff,ff,ff,ff,ff] rfl rfl (one_of HT_.out (by kernel_rfl)) (by decide) (fun K hK => ?_)
 refine goes_ Tryd.func30 (by kernel_rfl) rfl #[.agg #[.int .i64 st,.int .u64 0,.bool rd,.int .u64 0,.int .i64 0,.bool false,.int .u32 0,.int .i64 0,.int .i64 0,.int .i64 0,.int .i64 0,.int .i64 0,.int .i64 0,.int .i64 0,.int .i64 0,.int .i64 0,.int .i64 0,.slice none 0 0,.slice none 0 0,.slice none 0 0],.int .i64 1,.agg #[.int .i64 a0_4,.bool a0_5,.int .u32 a0_6,.int .i64 a0_7,.int .i64 a0_8,.int .i64 a0_9,.int .i64 a0_10,.int .i64 a0_11]] (by rfl) rfl rfl (by (try simp only [List.map_toArray,List.map_cons,List.map_nil]);first|done|rfl) ?_
 refine (HF _).out.mono ?_
 rintro e_ w9 ⟨rfl,hb9⟩
 refine ⟨_,rfl,?_⟩
 replace hX:=keep_below hX hb9
 clear hb9
 refine hK.out _ _ hX (fun hHeld => ?_)
 clear hK K
 refine norm_ (a':=?_) ?_ ?_
 rotate_left
 ·first|(show Act.put _ (some 32) _ = _;simp only [Act.put,sA,sZ,sS,i64_w,i32_w];rfl)|with_reducible rfl
 refine pure_ (i:=15) (N:=some 33) (v:=?_) (a':=?_) #[tt,tt,tt,tt,tt,tt,tt,tt,tt,tt,tt,tt,tt,tt,tt,tt,ff,ff,ff,ff,ff,ff,ff,ff,ff,ff,ff,ff,ff,ff,ff,ff,ff,ff,ff,ff,ff,ff] rfl rfl (any_of HT_.out (by kernel_rfl)) (fun _ _ _ h => h) (Or.inl ⟨by rfl,?_⟩) ?_ ?_
 rotate_left
 ·intro w'
  go_simp
  with_reducible rfl
 rotate_left
 ·simp only [Act.put,sA,sZ,sS,i64_w,i32_w]
  rfl
 refine pure_ (i:=16) (N:=some 34) (v:=?_) (a':=?_) #[tt,tt,tt,tt,tt,tt,tt,tt,tt,tt,tt,tt,tt,tt,tt,tt,tt,ff,ff,ff,ff,ff,ff,ff,ff,ff,ff,ff,ff,ff,ff,ff,ff,ff,ff,ff,ff,ff] rfl rfl (any_of HT_.out (by kernel_rfl)) (fun _ _ _ h => h) (Or.inl ⟨by rfl,?_⟩) ?_ ?_
 rotate_left
 ·intro w'
  go_simp
  with_reducible rfl
 rotate_left
 ·simp only [Act.put,sA,sZ,sS,i64_w,i32_w]
  rfl
 refine pure_ (i:=17) (N:=some 35) (v:=?_) (a':=?_) #[tt,tt,tt,tt,tt,tt,tt,tt,tt,tt,tt,tt,tt,tt,tt,tt,tt,tt,ff,ff,ff,ff,ff,ff,ff,ff,ff,ff,ff,ff,ff,ff,ff,ff,ff,ff,ff,ff] rfl rfl (any_of HT_.out (by kernel_rfl)) (fun _ _ _ h => h) (Or.inl ⟨by rfl,?_⟩) ?_ ?_
 rotate_left
 ·intro w'
  go_simp
  with_reducible rfl
 rotate_left
 ·simp only [Act.put,sA,sZ,sS,i64_w,i32_w]
  rfl
 refine pure_ (i:=18) (N:=some 36) (v:=undef) (a':=?_) #[tt,tt,tt,tt,tt,tt,tt,tt,tt,tt,tt,tt,tt,tt,tt,tt,tt,tt,tt,ff,ff,ff,ff,ff,ff,ff,ff,ff,ff,ff,ff,ff,ff,ff,ff,ff,ff,ff] rfl rfl (any_of HT_.out (by kernel_rfl)) (fun _ _ _ h => h) (Or.inr ⟨by rfl,rfl⟩) ?_ ?_
 rotate_left
 ·simp only [Act.put,sA,sZ,sS]
  rfl
 refine pure_ (i:=19) (N:=some 37) (v:=undef) (a':=?_) #[tt,tt,tt,tt,tt,tt,tt,tt,tt,tt,tt,tt,tt,tt,tt,tt,tt,tt,tt,tt,ff,ff,ff,ff,ff,ff,ff,ff,ff,ff,ff,ff,ff,ff,ff,ff,ff,ff] rfl rfl (any_of HT_.out (by kernel_rfl)) (fun _ _ _ h => h) (Or.inr ⟨by rfl,rfl⟩) ?_ ?_
 rotate_left
 ·simp only [Act.put,sA,sZ,sS]
  rfl
 refine pure_ (i:=20) (N:=some 38) (v:=undef) (a':=?_) #[tt,tt,tt,tt,tt,tt,tt,tt,tt,tt,tt,tt,tt,tt,tt,tt,tt,tt,tt,tt,tt,ff,ff,ff,ff,ff,ff,ff,ff,ff,ff,ff,ff,ff,ff,ff,ff,ff] rfl rfl (any_of HT_.out (by kernel_rfl)) (fun _ _ _ h => h) (Or.inr ⟨by rfl,rfl⟩) ?_ ?_
 rotate_left
 ·simp only [Act.put,sA,sZ,sS]
  rfl
 refine pure_ (i:=21) (N:=some 39) (v:=?_) (a':=?_) #[tt,tt,tt,tt,tt,tt,tt,tt,tt,tt,tt,tt,tt,tt,tt,tt,tt,tt,tt,tt,tt,tt,ff,ff,ff,ff,ff,ff,ff,ff,ff,ff,ff,ff,ff,ff,ff,ff] rfl rfl (any_of HT_.out (by kernel_rfl)) (fun _ _ _ h => h) (Or.inl ⟨by rfl,?_⟩) ?_ ?_
 rotate_left
 ·intro w'
  go_simp
  with_reducible rfl
 rotate_left
 ·simp only [Act.put,sA,sZ,sS,i64_w,i32_w]
  rfl
 refine pure_ (i:=22) (N:=some 40) (v:=?_) (a':=?_) #[tt,tt,tt,tt,tt,tt,tt,tt,tt,tt,tt,tt,tt,tt,tt,tt,tt,tt,tt,tt,tt,tt,tt,ff,ff,ff,ff,ff,ff,ff,ff,ff,ff,ff,ff,ff,ff,ff] rfl rfl (any_of HT_.out (by kernel_rfl)) (fun _ _ _ h => h) (Or.inl ⟨by rfl,?_⟩) ?_ ?_
 rotate_left
 ·intro w'
  go_simp
  with_reducible rfl
 rotate_left
 ·simp only [Act.put,sA,sZ,sS,i64_w,i32_w]
  rfl
 refine pure_ (i:=23) (N:=some 41) (v:=undef) (a':=?_) #[tt,tt,tt,tt,tt,tt,tt,tt,tt,tt,tt,tt,tt,tt,tt,tt,tt,tt,tt,tt,tt,tt,tt,tt,ff,ff,ff,ff,ff,ff,ff,ff,ff,ff,ff,ff,ff,ff] rfl rfl (any_of HT_.out (by kernel_rfl)) (fun _ _ _ h => h) (Or.inr ⟨by rfl,rfl⟩) ?_ ?_
 rotate_left
 ·simp only [Act.put,sA,sZ,sS]
  rfl
 refine pure_ (i:=24) (N:=some 42) (v:=undef) (a':=?_) #[tt,tt,tt,tt,tt,tt,tt,tt,tt,tt,tt,tt,tt,tt,tt,tt,tt,tt,tt,tt,tt,tt,tt,tt,tt,ff,ff,ff,ff,ff,ff,ff,ff,ff,ff,ff,ff,ff] rfl rfl (any_of HT_.out (by kernel_rfl)) (fun _ _ _ h => h) (Or.inr ⟨by rfl,rfl⟩) ?_ ?_
 rotate_left
 ·simp only [Act.put,sA,sZ,sS]
  rfl
 refine pure_ (i:=25) (N:=some 43) (v:=undef) (a':=?_) #[tt,tt,tt,tt,tt,tt,tt,tt,tt,tt,tt,tt,tt,tt,tt,tt,tt,tt,tt,tt,tt,tt,tt,tt,tt,tt,ff,ff,ff,ff,ff,ff,ff,ff,ff,ff,ff,ff] rfl rfl (any_of HT_.out (by kernel_rfl)) (fun _ _ _ h => h) (Or.inr ⟨by rfl,rfl⟩) ?_ ?_
 rotate_left
 ·simp only [Act.put,sA,sZ,sS]
  rfl
 refine pure_ (i:=26) (N:=some 44) (v:=?_) (a':=?_) #[tt,tt,tt,tt,tt,tt,tt,tt,tt,tt,tt,tt,tt,tt,tt,tt,tt,tt,tt,tt,tt,tt,tt,tt,tt,tt,tt,ff,ff,ff,ff,ff,ff,ff,ff,ff,ff,ff] rfl rfl (any_of HT_.out (by kernel_rfl)) (fun _ _ _ h => h) (Or.inl ⟨by rfl,?_⟩) ?_ ?_
 rotate_left
 ·intro w'
  go_simp
  with_reducible rfl
 rotate_left
 ·simp only [Act.put,sA,sZ,sS,i64_w,i32_w]
  rfl
 refine pure_ (i:=27) (N:=some 45) (v:=?_) (a':=?_) #[tt,tt,tt,tt,tt,tt,tt,tt,tt,tt,tt,tt,tt,tt,tt,tt,tt,tt,tt,tt,tt,tt,tt,tt,tt,tt,tt,tt,ff,ff,ff,ff,ff,ff,ff,ff,ff,ff] rfl rfl (any_of HT_.out (by kernel_rfl)) (fun _ _ _ h => h) (Or.inl ⟨by rfl,?_⟩) ?_ ?_
 rotate_left
 ·intro w'
  go_simp
  with_reducible rfl
 rotate_left
 ·simp only [Act.put,sA,sZ,sS,i64_w,i32_w]
  rfl
 refine pure_ (i:=28) (N:=some 46) (v:=undef) (a':=?_) #[tt,tt,tt,tt,tt,tt,tt,tt,tt,tt,tt,tt,tt,tt,tt,tt,tt,tt,tt,tt,tt,tt,tt,tt,tt,tt,tt,tt,tt,ff,ff,ff,ff,ff,ff,ff,ff,ff] rfl rfl (any_of HT_.out (by kernel_rfl)) (fun _ _ _ h => h) (Or.inr ⟨by rfl,rfl⟩) ?_ ?_
 rotate_left
 ·simp only [Act.put,sA,sZ,sS]
  rfl
 refine pure_ (i:=29) (N:=some 47) (v:=undef) (a':=?_) #[tt,tt,tt,tt,tt,tt,tt,tt,tt,tt,tt,tt,tt,tt,tt,tt,tt,tt,tt,tt,tt,tt,tt,tt,tt,tt,tt,tt,tt,tt,ff,ff,ff,ff,ff,ff,ff,ff] rfl rfl (any_of HT_.out (by kernel_rfl)) (fun _ _ _ h => h) (Or.inr ⟨by rfl,rfl⟩) ?_ ?_
 rotate_left
 ·simp only [Act.put,sA,sZ,sS]
  rfl
 refine pure_ (i:=30) (N:=some 48) (v:=undef) (a':=?_) #[tt,tt,tt,tt,tt,tt,tt,tt,tt,tt,tt,tt,tt,tt,tt,tt,tt,tt,tt,tt,tt,tt,tt,tt,tt,tt,tt,tt,tt,tt,tt,ff,ff,ff,ff,ff,ff,ff] rfl rfl (any_of HT_.out (by kernel_rfl)) (fun _ _ _ h => h) (Or.inr ⟨by rfl,rfl⟩) ?_ ?_
 rotate_left
 ·simp only [Act.put,sA,sZ,sS]
  rfl
 refine pure_ (i:=31) (N:=some 49) (v:=undef) (a':=?_) #[tt,tt,tt,tt,tt,tt,tt,tt,tt,tt,tt,tt,tt,tt,tt,tt,tt,tt,tt,tt,tt,tt,tt,tt,tt,tt,tt,tt,tt,tt,tt,tt,ff,ff,ff,ff,ff,ff] rfl rfl (any_of HT_.out (by kernel_rfl)) (fun _ _ _ h => h) (Or.inr ⟨by rfl,rfl⟩) ?_ ?_
 rotate_left
 ·simp only [Act.put,sA,sZ,sS]
  rfl
 refine pure_ (i:=32) (N:=some 50) (v:=undef) (a':=?_) #[tt,tt,tt,tt,tt,tt,tt,tt,tt,tt,tt,tt,tt,tt,tt,tt,tt,tt,tt,tt,tt,tt,tt,tt,tt,tt,tt,tt,tt,tt,tt,tt,tt,ff,ff,ff,ff,ff] rfl rfl (any_of HT_.out (by kernel_rfl)) (fun _ _ _ h => h) (Or.inr ⟨by rfl,rfl⟩) ?_ ?_
 rotate_left
 ·simp only [Act.put,sA,sZ,sS]
  rfl
 refine pure_ (i:=33) (N:=some 51) (v:=undef) (a':=?_) #[tt,tt,tt,tt,tt,tt,tt,tt,tt,tt,tt,tt,tt,tt,tt,tt,tt,tt,tt,tt,tt,tt,tt,tt,tt,tt,tt,tt,tt,tt,tt,tt,tt,tt,ff,ff,ff,ff] rfl rfl (any_of HT_.out (by kernel_rfl)) (fun _ _ _ h => h) (Or.inr ⟨by rfl,rfl⟩) ?_ ?_
 rotate_left
 ·simp only [Act.put,sA,sZ,sS]
  rfl
 refine pure_ (i:=34) (N:=some 52) (v:=undef) (a':=?_) #[tt,tt,tt,tt,tt,tt,tt,tt,tt,tt,tt,tt,tt,tt,tt,tt,tt,tt,tt,tt,tt,tt,tt,tt,tt,tt,tt,tt,tt,tt,tt,tt,tt,tt,tt,ff,ff,ff] rfl rfl (any_of HT_.out (by kernel_rfl)) (fun _ _ _ h => h) (Or.inr ⟨by rfl,rfl⟩) ?_ ?_
 rotate_left
 ·simp only [Act.put,sA,sZ,sS]
  rfl
 refine pure_ (i:=35) (N:=some 53) (v:=undef) (a':=?_) #[tt,tt,tt,tt,tt,tt,tt,tt,tt,tt,tt,tt,tt,tt,tt,tt,tt,tt,tt,tt,tt,tt,tt,tt,tt,tt,tt,tt,tt,tt,tt,tt,tt,tt,tt,tt,ff,ff] rfl rfl (any_of HT_.out (by kernel_rfl)) (fun _ _ _ h => h) (Or.inr ⟨by rfl,rfl⟩) ?_ ?_
 rotate_left
 ·simp only [Act.put,sA,sZ,sS]
  rfl
 refine pure_ (i:=36) (N:=some 54) (v:=undef) (a':=?_) #[tt,tt,tt,tt,tt,tt,tt,tt,tt,tt,tt,tt,tt,tt,tt,tt,tt,tt,tt,tt,tt,tt,tt,tt,tt,tt,tt,tt,tt,tt,tt,tt,tt,tt,tt,tt,tt,ff] rfl rfl (any_of HT_.out (by kernel_rfl)) (fun _ _ _ h => h) (Or.inr ⟨by rfl,rfl⟩) ?_ ?_
 rotate_left
 ·simp only [Act.put,sA,sZ,sS]
  rfl
 refine pure_ (i:=37) (N:=some 55) (v:=?_) (a':=?_) #[tt,tt,tt,tt,tt,tt,tt,tt,tt,tt,tt,tt,tt,tt,tt,tt,tt,tt,tt,tt,tt,tt,tt,tt,tt,tt,tt,tt,tt,tt,tt,tt,tt,tt,tt,tt,tt,tt] rfl rfl (any_of HT_.out (by kernel_rfl)) (fun _ _ _ h => h) (Or.inl ⟨by rfl,?_⟩) ?_ ?_
 rotate_left
 ·intro w'
  go_simp
  with_reducible rfl
 rotate_left
 ·simp only [Act.put,sA,sZ,sS,i64_w,i32_w]
  rfl
 refine done_ (done_of HT_.out (by kernel_rfl)) ?_
 go_wp2
 go_ret
 exact ⟨rfl,keep_below hB hX⟩
set_option maxHeartbeats 8000000 in
set_option maxRecDepth 100000 in
theorem busy4_d (k : Nat) (a0_0 : Int) (a0_1 : Int) (a0_2 : Bool) (a0_3 : Int) (a0_4 : Int) (a0_5 : Bool) (a0_6 : Int) (a0_7 : Int) (a0_8 : Int) (a0_9 : Int) (a0_10 : Int) (a0_11 : Int) (a0_12 : Int) (a0_13 : Int) (a0_14 : Int) (a0_15 : Int) (a0_16 : Int) (A0_17 : Option Addr) (c0_17 : Nat) (l0_17 : List (S63)) (A0_18 : Option Addr) (c0_18 : Nat) (l0_18 : List Int) (A0_19 : Option Addr) (c0_19 : Nat) (l0_19 : List Int) (a2 : Bool) (st : Int) (rd : Bool) (w W : World) (u4 u5 u8 u9 u10 u11 u12 u13 u14 u15 u16 u17 u18 u19 u20 u21 u22 u23 u24 u25 u26 u27 u28 u29 u30 u31 u32 u33 u34 u35 u36 u37 u38 u39 u40 u41 u42 u43 u44 u45 u46 u47 u48 u49 u50 u51 u52 u53 u54 u55 u56 u57 u58 u59 u60 u61 u62 u63 u64 u65 u66 u67 u68 u69 u70 u71 u72 u73 u74 u75 u76 u77 u78 u79 u80 u81 u82 u83 u84 u85 u86 u87 u88 u89 u90 u91 u92 u93 u94 u95 u96 u97 u98 u99 u100 u101 u102 u103 u104 u105 u106 u107 u108 u109 u110 u111 : Value) (p0 : Int) (p1 : Bool) (p2 p3 p4 p5 p6 p7 : Int) (HP : ∀ W' : World,Hid (Calls Tryd.prog 32 #[.agg #[.int .i64 a0_4,.bool a0_5,.int .u32 a0_6,.int .i64 a0_7,.int .i64 a0_8,.int .i64 a0_9,.int .i64 a0_10,.int .i64 a0_11]] W' fun e w' => e = .returned (.agg #[.int .i64 p0,.bool p1,.int .u32 p2,.int .i64 p3,.int .i64 p4,.int .i64 p5,.int .i64 p6,.int .i64 p7])∧Below W'.heap.size W' w')) (HF : ∀ W' : World,Hid (Calls Tryd.prog 30 #[.agg #[.int .i64 st,.int .u64 0,.bool rd,.int .u64 0,.int .i64 0,.bool false,.int .u32 0,.int .i64 0,.int .i64 0,.int .i64 0,.int .i64 0,.int .i64 0,.int .i64 0,.int .i64 0,.int .i64 0,.int .i64 0,.int .i64 0,.slice none 0 0,.slice none 0 0,.slice none 0 0],.int .i64 1,.agg #[.int .i64 a0_4,.bool a0_5,.int .u32 a0_6,.int .i64 a0_7,.int .i64 a0_8,.int .i64 a0_9,.int .i64 a0_10,.int .i64 a0_11]] W' fun e w' => e = .returned (.int .i64 0)∧Below W'.heap.size W' w')) (hbe : (a0_4 == p0 && (a0_5 == p1 && (a0_6 == p2 && ((a0_7 == p3 && (a0_8 == p4 && (a0_9 == p5 && (a0_10 == p6)))) && (a0_11 == p7))))) = true) (t1 : decide (a0_12 < 0) = true)
  (hB : Below w.heap.size w W) (b0 : Blk W w.heap.size 33 #[.int .i64 a0_0,.int .u64 a0_1,.bool a0_2,.int .u64 a0_3,.int .i64 a0_4,.bool a0_5,.int .u32 a0_6,.int .i64 a0_7,.int .i64 a0_8,.int .i64 a0_9,.int .i64 a0_10,.int .i64 a0_11,.int .i64 a0_12,.int .i64 a0_13,.int .i64 a0_14,.int .i64 a0_15,.int .i64 a0_16,.slice A0_17 l0_17.length c0_17,.slice A0_18 l0_18.length c0_18,.slice A0_19 l0_19.length c0_19]) (b1 : Blk W (w.heap.size+1) 33 #[.int .i64 st,.int .u64 0,.bool rd,.int .u64 0,.int .i64 0,.bool false,.int .u32 0,.int .i64 0,.int .i64 0,.int .i64 0,.int .i64 0,.int .i64 0,.int .i64 0,.int .i64 0,.int .i64 0,.int .i64 0,.int .i64 0,.slice none 0 0,.slice none 0 0,.slice none 0 0]) :
  (((Go.Code.region 4 #[{ dst:=some 18,op:=Go.Op.move (Go.Operand.tmp 1),type:=4,pos:="session.go:105",after:=#[],guard:=none },{ dst:=some 19,op:=Go.Op.unOp Go.UnOp.not 4 (Go.Operand.tmp 18),type:=4,pos:="session.go:105",after:=#[{ on:=0,ground:=Go.Ground.data }],guard:=none },{ dst:=some 20,op:=Go.Op.move (Go.Operand.tmp 19),type:=4,pos:="session.go:105",after:=#[{ on:=1,ground:=Go.Ground.data }],guard:=none },{ dst:=some 21,op:=Go.Op.fieldAddr 33 (Go.Operand.tmp 3) 4,type:=0,pos:="session.go:105",after:=#[{ on:=2,ground:=Go.Ground.guard }],guard:=some (2,false) },{ dst:=some 22,op:=Go.Op.load 27 (Go.Operand.tmp 21),type:=27,pos:="session.go:105",after:=#[{ on:=3,ground:=Go.Ground.data },{ on:=2,ground:=Go.Ground.guard }],guard:=some (2,false) },{ dst:=some 23,op:=Go.Op.fieldAddr 33 (Go.Operand.tmp 3) 4,type:=0,pos:="session.go:105",after:=#[{ on:=2,ground:=Go.Ground.guard }],guard:=some (2,false) },{ dst:=some 24,op:=Go.Op.load 27 (Go.Operand.tmp 23),type:=27,pos:="session.go:105",after:=#[{ on:=5,ground:=Go.Ground.data },{ on:=2,ground:=Go.Ground.guard }],guard:=some (2,false) },{ dst:=some 25,op:=Go.Op.call { callee:=Go.Callee.value (Go.Operand.func 32),args:=#[Go.Operand.tmp 24],argTypes:=#[27] },type:=27,pos:="session.go:105",after:=#[{ on:=6,ground:=Go.Ground.data },{ on:=2,ground:=Go.Ground.chain },{ on:=2,ground:=Go.Ground.guard }],guard:=some (2,false) },{ dst:=some 26,op:=Go.Op.binOp Go.BinOp.neq 27 (Go.Operand.tmp 22) (Go.Operand.tmp 25) 27,type:=4,pos:="session.go:105",after:=#[{ on:=4,ground:=Go.Ground.data },{ on:=7,ground:=Go.Ground.data },{ on:=2,ground:=Go.Ground.guard }],guard:=some (2,false) },{ dst:=some 27,op:=Go.Op.pick (Go.Operand.tmp 20) (Go.Operand.const (Go.Value.bool true)) (Go.Operand.tmp 26),type:=4,pos:="session.go:105",after:=#[{ on:=2,ground:=Go.Ground.data },{ on:=8,ground:=Go.Ground.data }],guard:=none },{ dst:=some 28,op:=Go.Op.move (Go.Operand.tmp 27),type:=4,pos:="session.go:105",after:=#[{ on:=9,ground:=Go.Ground.data },{ on:=7,ground:=Go.Ground.chain }],guard:=none },{ dst:=some 29,op:=Go.Op.load 33 (Go.Operand.tmp 7),type:=33,pos:="session.go:105",after:=#[{ on:=10,ground:=Go.Ground.guard }],guard:=some (10,false) },{ dst:=some 30,op:=Go.Op.fieldAddr 33 (Go.Operand.tmp 3) 4,type:=0,pos:="session.go:105",after:=#[{ on:=10,ground:=Go.Ground.guard }],guard:=some (10,false) },{ dst:=some 31,op:=Go.Op.load 27 (Go.Operand.tmp 30),type:=27,pos:="session.go:105",after:=#[{ on:=12,ground:=Go.Ground.data },{ on:=10,ground:=Go.Ground.guard }],guard:=some (10,false) },{ dst:=some 32,op:=Go.Op.call { callee:=Go.Callee.value (Go.Operand.func 30),args:=#[Go.Operand.tmp 29,Go.Operand.const (Go.Value.int Go.IntKind.i64 1),Go.Operand.tmp 31],argTypes:=#[33,3,27] },type:=36,pos:="session.go:105",after:=#[{ on:=11,ground:=Go.Ground.data },{ on:=13,ground:=Go.Ground.data },{ on:=10,ground:=Go.Ground.chain },{ on:=10,ground:=Go.Ground.guard }],guard:=some (10,false) },{ dst:=some 33,op:=Go.Op.binOp Go.BinOp.neq 36 (Go.Operand.tmp 32) (Go.Operand.const (Go.Value.int Go.IntKind.i64 0)) 36,type:=4,pos:="session.go:105",after:=#[{ on:=14,ground:=Go.Ground.data },{ on:=10,ground:=Go.Ground.guard }],guard:=some (10,false) },{ dst:=some 34,op:=Go.Op.pick (Go.Operand.tmp 28) (Go.Operand.const (Go.Value.bool true)) (Go.Operand.tmp 33),type:=4,pos:="session.go:105",after:=#[{ on:=10,ground:=Go.Ground.data },{ on:=15,ground:=Go.Ground.data }],guard:=none },{ dst:=some 35,op:=Go.Op.move (Go.Operand.tmp 34),type:=4,pos:="session.go:105",after:=#[{ on:=16,ground:=Go.Ground.data },{ on:=14,ground:=Go.Ground.chain }],guard:=none },{ dst:=some 36,op:=Go.Op.fieldAddr 33 (Go.Operand.tmp 3) 5,type:=0,pos:="session.go:105",after:=#[{ on:=17,ground:=Go.Ground.guard }],guard:=some (17,false) },{ dst:=some 37,op:=Go.Op.load 3 (Go.Operand.tmp 36),type:=3,pos:="session.go:105",after:=#[{ on:=18,ground:=Go.Ground.data },{ on:=17,ground:=Go.Ground.guard }],guard:=some (17,false) },{ dst:=some 38,op:=Go.Op.binOp Go.BinOp.lss 3 (Go.Operand.tmp 37) (Go.Operand.const (Go.Value.int Go.IntKind.i64 0)) 3,type:=4,pos:="session.go:105",after:=#[{ on:=19,ground:=Go.Ground.data },{ on:=17,ground:=Go.Ground.guard }],guard:=some (17,false) },{ dst:=some 39,op:=Go.Op.pick (Go.Operand.tmp 35) (Go.Operand.const (Go.Value.bool true)) (Go.Operand.tmp 38),type:=4,pos:="session.go:105",after:=#[{ on:=17,ground:=Go.Ground.data },{ on:=20,ground:=Go.Ground.data }],guard:=none },{ dst:=some 40,op:=Go.Op.move (Go.Operand.tmp 39),type:=4,pos:="session.go:105",after:=#[{ on:=21,ground:=Go.Ground.data },{ on:=17,ground:=Go.Ground.chain }],guard:=none },{ dst:=some 41,op:=Go.Op.fieldAddr 33 (Go.Operand.tmp 3) 5,type:=0,pos:="session.go:105",after:=#[{ on:=22,ground:=Go.Ground.guard }],guard:=some (22,false) },{ dst:=some 42,op:=Go.Op.load 3 (Go.Operand.tmp 41),type:=3,pos:="session.go:105",after:=#[{ on:=23,ground:=Go.Ground.data },{ on:=22,ground:=Go.Ground.guard }],guard:=some (22,false) },{ dst:=some 43,op:=Go.Op.binOp Go.BinOp.gtr 3 (Go.Operand.tmp 42) (Go.Operand.const (Go.Value.int Go.IntKind.i64 3)) 3,type:=4,pos:="session.go:105",after:=#[{ on:=24,ground:=Go.Ground.data },{ on:=22,ground:=Go.Ground.guard }],guard:=some (22,false) },{ dst:=some 44,op:=Go.Op.pick (Go.Operand.tmp 40) (Go.Operand.const (Go.Value.bool true)) (Go.Operand.tmp 43),type:=4,pos:="session.go:105",after:=#[{ on:=22,ground:=Go.Ground.data },{ on:=25,ground:=Go.Ground.data }],guard:=none },{ dst:=some 45,op:=Go.Op.move (Go.Operand.tmp 44),type:=4,pos:="session.go:105",after:=#[{ on:=26,ground:=Go.Ground.data },{ on:=22,ground:=Go.Ground.chain }],guard:=none },{ dst:=some 46,op:=Go.Op.fieldAddr 33 (Go.Operand.tmp 3) 4,type:=0,pos:="session.go:105",after:=#[{ on:=27,ground:=Go.Ground.guard }],guard:=some (27,false) },{ dst:=some 47,op:=Go.Op.fieldAddr 27 (Go.Operand.tmp 46) 0,type:=0,pos:="session.go:105",after:=#[{ on:=28,ground:=Go.Ground.data },{ on:=27,ground:=Go.Ground.guard }],guard:=some (27,false) },{ dst:=some 48,op:=Go.Op.load 3 (Go.Operand.tmp 47),type:=3,pos:="session.go:105",after:=#[{ on:=29,ground:=Go.Ground.data },{ on:=27,ground:=Go.Ground.guard }],guard:=some (27,false) },{ dst:=some 49,op:=Go.Op.fieldAddr 33 (Go.Operand.tmp 3) 5,type:=0,pos:="session.go:105",after:=#[{ on:=27,ground:=Go.Ground.guard }],guard:=some (27,false) },{ dst:=some 50,op:=Go.Op.load 3 (Go.Operand.tmp 49),type:=3,pos:="session.go:105",after:=#[{ on:=31,ground:=Go.Ground.data },{ on:=27,ground:=Go.Ground.guard }],guard:=some (27,false) },{ dst:=some 51,op:=Go.Op.indexAddr 82 (Go.Operand.global 0) (Go.Operand.tmp 48),type:=0,pos:="session.go:105",after:=#[{ on:=30,ground:=Go.Ground.data },{ on:=27,ground:=Go.Ground.guard }],guard:=some (27,false) },{ dst:=some 52,op:=Go.Op.indexAddr 81 (Go.Operand.tmp 51) (Go.Operand.tmp 50),type:=0,pos:="session.go:105",after:=#[{ on:=33,ground:=Go.Ground.data },{ on:=32,ground:=Go.Ground.data },{ on:=27,ground:=Go.Ground.guard }],guard:=some (27,false) },{ dst:=some 53,op:=Go.Op.load 3 (Go.Operand.tmp 52),type:=3,pos:="session.go:105",after:=#[{ on:=34,ground:=Go.Ground.data },{ on:=27,ground:=Go.Ground.guard }],guard:=some (27,false) },{ dst:=some 54,op:=Go.Op.binOp Go.BinOp.eql 3 (Go.Operand.tmp 53) (Go.Operand.const (Go.Value.int Go.IntKind.i64 0)) 3,type:=4,pos:="session.go:105",after:=#[{ on:=35,ground:=Go.Ground.data },{ on:=27,ground:=Go.Ground.guard }],guard:=some (27,false) },{ dst:=some 55,op:=Go.Op.pick (Go.Operand.tmp 45) (Go.Operand.const (Go.Value.bool true)) (Go.Operand.tmp 54),type:=4,pos:="session.go:105",after:=#[{ on:=27,ground:=Go.Ground.data },{ on:=36,ground:=Go.Ground.data }],guard:=none }] true).seq (Go.Code.cond (Go.Operand.tmp 55) ((Go.Code.region 5 #[{ dst:=some 6,op:=Go.Op.assign (Go.Operand.const (Go.Value.bool false)),type:=4,pos:="session.go:106",after:=#[],guard:=none }] false).seq Go.Code.ret) Go.Code.skip)).seq ((Go.Code.region 6 #[{ dst:=some 56,op:=Go.Op.fieldAddr 33 (Go.Operand.tmp 3) 4,type:=0,pos:="session.go:108",after:=#[],guard:=none },{ dst:=some 57,op:=Go.Op.fieldAddr 27 (Go.Operand.tmp 56) 0,type:=0,pos:="session.go:108",after:=#[{ on:=0,ground:=Go.Ground.data }],guard:=none },{ dst:=some 58,op:=Go.Op.load 3 (Go.Operand.tmp 57),type:=3,pos:="session.go:108",after:=#[{ on:=1,ground:=Go.Ground.data }],guard:=none },{ dst:=some 59,op:=Go.Op.binOp Go.BinOp.eql 3 (Go.Operand.tmp 58) (Go.Operand.const (Go.Value.int Go.IntKind.i64 4)) 3,type:=4,pos:="session.go:108",after:=#[{ on:=2,ground:=Go.Ground.data }],guard:=none },{ dst:=some 8,op:=Go.Op.assign (Go.Operand.tmp 59),type:=4,pos:="session.go:108",after:=#[{ on:=3,ground:=Go.Ground.data },{ on:=0,ground:=Go.Ground.phase },{ on:=1,ground:=Go.Ground.phase },{ on:=2,ground:=Go.Ground.phase },{ on:=3,ground:=Go.Ground.phase }],guard:=none }] false).seq (((Go.Code.region 7 #[{ dst:=some 60,op:=Go.Op.move (Go.Operand.tmp 8),type:=4,pos:="session.go:109",after:=#[],guard:=none },{ dst:=some 61,op:=Go.Op.move (Go.Operand.tmp 60),type:=4,pos:="session.go:109",after:=#[{ on:=0,ground:=Go.Ground.data }],guard:=none },{ dst:=some 62,op:=Go.Op.fieldAddr 33 (Go.Operand.tmp 3) 5,type:=0,pos:="session.go:109",after:=#[{ on:=1,ground:=Go.Ground.guard }],guard:=some (1,true) },{ dst:=some 63,op:=Go.Op.load 3 (Go.Operand.tmp 62),type:=3,pos:="session.go:109",after:=#[{ on:=2,ground:=Go.Ground.data },{ on:=1,ground:=Go.Ground.guard }],guard:=some (1,true) },{ dst:=some 64,op:=Go.Op.binOp Go.BinOp.eql 3 (Go.Operand.tmp 63) (Go.Operand.const (Go.Value.int Go.IntKind.i64 2)) 3,type:=4,pos:="session.go:109",after:=#[{ on:=3,ground:=Go.Ground.data },{ on:=1,ground:=Go.Ground.guard }],guard:=some (1,true) },{ dst:=some 65,op:=Go.Op.pick (Go.Operand.tmp 61) (Go.Operand.tmp 64) (Go.Operand.const (Go.Value.bool false)),type:=4,pos:="session.go:109",after:=#[{ on:=1,ground:=Go.Ground.data },{ on:=4,ground:=Go.Ground.data }],guard:=none },{ dst:=some 66,op:=Go.Op.move (Go.Operand.tmp 65),type:=4,pos:="session.go:109",after:=#[{ on:=5,ground:=Go.Ground.data },{ on:=1,ground:=Go.Ground.chain }],guard:=none },{ dst:=some 67,op:=Go.Op.fieldAddr 33 (Go.Operand.tmp 3) 2,type:=0,pos:="session.go:109",after:=#[{ on:=6,ground:=Go.Ground.guard }],guard:=some (6,true) },{ dst:=some 68,op:=Go.Op.load 4 (Go.Operand.tmp 67),type:=4,pos:="session.go:109",after:=#[{ on:=7,ground:=Go.Ground.data },{ on:=6,ground:=Go.Ground.guard }],guard:=some (6,true) },{ dst:=some 69,op:=Go.Op.pick (Go.Operand.tmp 66) (Go.Operand.tmp 68) (Go.Operand.const (Go.Value.bool false)),type:=4,pos:="session.go:109",after:=#[{ on:=6,ground:=Go.Ground.data },{ on:=8,ground:=Go.Ground.data }],guard:=none }] false).seq (Go.Code.cond (Go.Operand.tmp 69) ((Go.Code.region 8 #[{ dst:=some 6,op:=Go.Op.assign (Go.Operand.const (Go.Value.bool false)),type:=4,pos:="session.go:110",after:=#[],guard:=none }] false).seq Go.Code.ret) Go.Code.skip)).seq (((Go.Code.region 9 #[{ dst:=some 70,op:=Go.Op.move (Go.Operand.tmp 8),type:=4,pos:="session.go:112",after:=#[],guard:=none },{ dst:=some 71,op:=Go.Op.move (Go.Operand.tmp 70),type:=4,pos:="session.go:112",after:=#[{ on:=0,ground:=Go.Ground.data }],guard:=none },{ dst:=some 72,op:=Go.Op.fieldAddr 33 (Go.Operand.tmp 3) 5,type:=0,pos:="session.go:112",after:=#[{ on:=1,ground:=Go.Ground.guard }],guard:=some (1,true) },{ dst:=some 73,op:=Go.Op.load 3 (Go.Operand.tmp 72),type:=3,pos:="session.go:112",after:=#[{ on:=2,ground:=Go.Ground.data },{ on:=1,ground:=Go.Ground.guard }],guard:=some (1,true) },{ dst:=some 74,op:=Go.Op.binOp Go.BinOp.eql 3 (Go.Operand.tmp 73) (Go.Operand.const (Go.Value.int Go.IntKind.i64 1)) 3,type:=4,pos:="session.go:112",after:=#[{ on:=3,ground:=Go.Ground.data },{ on:=1,ground:=Go.Ground.guard }],guard:=some (1,true) },{ dst:=some 75,op:=Go.Op.pick (Go.Operand.tmp 71) (Go.Operand.tmp 74) (Go.Operand.const (Go.Value.bool false)),type:=4,pos:="session.go:112",after:=#[{ on:=1,ground:=Go.Ground.data },{ on:=4,ground:=Go.Ground.data }],guard:=none }] false).seq (Go.Code.cond (Go.Operand.tmp 75) ((Go.Code.region 10 #[{ dst:=some 76,op:=Go.Op.fieldAddr 33 (Go.Operand.tmp 3) 6,type:=0,pos:="session.go:113",after:=#[],guard:=none },{ dst:=some 77,op:=Go.Op.load 31 (Go.Operand.tmp 76),type:=31,pos:="session.go:113",after:=#[{ on:=0,ground:=Go.Ground.data }],guard:=none },{ dst:=some 78,op:=Go.Op.call { callee:=Go.Callee.value (Go.Operand.func 45),args:=#[Go.Operand.tmp 77],argTypes:=#[31] },type:=36,pos:="session.go:113",after:=#[{ on:=1,ground:=Go.Ground.data }],guard:=none },{ dst:=some 79,op:=Go.Op.binOp Go.BinOp.neq 36 (Go.Operand.tmp 78) (Go.Operand.const (Go.Value.int Go.IntKind.i64 0)) 36,type:=4,pos:="session.go:113",after:=#[{ on:=2,ground:=Go.Ground.data }],guard:=none },{ dst:=some 80,op:=Go.Op.move (Go.Operand.tmp 79),type:=4,pos:="session.go:113",after:=#[{ on:=3,ground:=Go.Ground.data },{ on:=2,ground:=Go.Ground.chain }],guard:=none },{ dst:=some 81,op:=Go.Op.fieldAddr 33 (Go.Operand.tmp 3) 6,type:=0,pos:="session.go:113",after:=#[{ on:=4,ground:=Go.Ground.guard }],guard:=some (4,false) },{ dst:=some 82,op:=Go.Op.fieldAddr 31 (Go.Operand.tmp 81) 0,type:=0,pos:="session.go:113",after:=#[{ on:=5,ground:=Go.Ground.data },{ on:=4,ground:=Go.Ground.guard }],guard:=some (4,false) },{ dst:=some 83,op:=Go.Op.load 25 (Go.Operand.tmp 82),type:=25,pos:="session.go:113",after:=#[{ on:=6,ground:=Go.Ground.data },{ on:=4,ground:=Go.Ground.guard }],guard:=some (4,false) },{ dst:=some 84,op:=Go.Op.fieldAddr 33 (Go.Operand.tmp 3) 4,type:=0,pos:="session.go:113",after:=#[{ on:=4,ground:=Go.Ground.guard }],guard:=some (4,false) },{ dst:=some 85,op:=Go.Op.fieldAddr 27 (Go.Operand.tmp 84) 3,type:=0,pos:="session.go:113",after:=#[{ on:=8,ground:=Go.Ground.data },{ on:=4,ground:=Go.Ground.guard }],guard:=some (4,false) },{ dst:=some 86,op:=Go.Op.load 25 (Go.Operand.tmp 85),type:=25,pos:="session.go:113",after:=#[{ on:=9,ground:=Go.Ground.data },{ on:=4,ground:=Go.Ground.guard }],guard:=some (4,false) },{ dst:=some 87,op:=Go.Op.binOp Go.BinOp.neq 25 (Go.Operand.tmp 83) (Go.Operand.tmp 86) 25,type:=4,pos:="session.go:113",after:=#[{ on:=7,ground:=Go.Ground.data },{ on:=10,ground:=Go.Ground.data },{ on:=4,ground:=Go.Ground.guard }],guard:=some (4,false) },{ dst:=some 88,op:=Go.Op.pick (Go.Operand.tmp 80) (Go.Operand.const (Go.Value.bool true)) (Go.Operand.tmp 87),type:=4,pos:="session.go:113",after:=#[{ on:=4,ground:=Go.Ground.data },{ on:=11,ground:=Go.Ground.data }],guard:=none }] false).seq (Go.Code.cond (Go.Operand.tmp 88) ((Go.Code.region 11 #[{ dst:=some 6,op:=Go.Op.assign (Go.Operand.const (Go.Value.bool false)),type:=4,pos:="session.go:114",after:=#[],guard:=none }] false).seq Go.Code.ret) Go.Code.skip)) ((Go.Code.region 12 #[{ dst:=some 89,op:=Go.Op.fieldAddr 33 (Go.Operand.tmp 3) 6,type:=0,pos:="session.go:116",after:=#[],guard:=none },{ dst:=some 90,op:=Go.Op.load 31 (Go.Operand.tmp 89),type:=31,pos:="session.go:116",after:=#[{ on:=0,ground:=Go.Ground.data }],guard:=none },{ dst:=some 91,op:=Go.Op.call { callee:=Go.Callee.value (Go.Operand.func 61),args:=#[Go.Operand.tmp 90],argTypes:=#[31] },type:=4,pos:="session.go:116",after:=#[{ on:=1,ground:=Go.Ground.data }],guard:=none },{ dst:=some 92,op:=Go.Op.unOp Go.UnOp.not 4 (Go.Operand.tmp 91),type:=4,pos:="session.go:116",after:=#[{ on:=2,ground:=Go.Ground.data }],guard:=none }] false).seq (Go.Code.cond (Go.Operand.tmp 92) ((Go.Code.region 13 #[{ dst:=some 6,op:=Go.Op.assign (Go.Operand.const (Go.Value.bool false)),type:=4,pos:="session.go:117",after:=#[],guard:=none }] false).seq Go.Code.ret) Go.Code.skip)))).seq (((Go.Code.region 14 #[{ dst:=some 93,op:=Go.Op.move (Go.Operand.tmp 8),type:=4,pos:="session.go:119",after:=#[],guard:=none },{ dst:=some 94,op:=Go.Op.move (Go.Operand.tmp 93),type:=4,pos:="session.go:119",after:=#[{ on:=0,ground:=Go.Ground.data }],guard:=none },{ dst:=some 95,op:=Go.Op.fieldAddr 33 (Go.Operand.tmp 3) 5,type:=0,pos:="session.go:119",after:=#[{ on:=1,ground:=Go.Ground.guard }],guard:=some (1,true) },{ dst:=some 96,op:=Go.Op.load 3 (Go.Operand.tmp 95),type:=3,pos:="session.go:119",after:=#[{ on:=2,ground:=Go.Ground.data },{ on:=1,ground:=Go.Ground.guard }],guard:=some (1,true) },{ dst:=some 97,op:=Go.Op.binOp Go.BinOp.eql 3 (Go.Operand.tmp 96) (Go.Operand.const (Go.Value.int Go.IntKind.i64 2)) 3,type:=4,pos:="session.go:119",after:=#[{ on:=3,ground:=Go.Ground.data },{ on:=1,ground:=Go.Ground.guard }],guard:=some (1,true) },{ dst:=some 98,op:=Go.Op.pick (Go.Operand.tmp 94) (Go.Operand.tmp 97) (Go.Operand.const (Go.Value.bool false)),type:=4,pos:="session.go:119",after:=#[{ on:=1,ground:=Go.Ground.data },{ on:=4,ground:=Go.Ground.data }],guard:=none }] false).seq (Go.Code.cond (Go.Operand.tmp 98) ((Go.Code.region 15 #[{ dst:=some 99,op:=Go.Op.fieldAddr 33 (Go.Operand.tmp 3) 7,type:=0,pos:="session.go:120",after:=#[],guard:=none },{ dst:=some 100,op:=Go.Op.load 29 (Go.Operand.tmp 99),type:=29,pos:="session.go:120",after:=#[{ on:=0,ground:=Go.Ground.data }],guard:=none },{ dst:=some 101,op:=Go.Op.call { callee:=Go.Callee.builtin Go.Builtin.len,args:=#[Go.Operand.tmp 100],argTypes:=#[29] },type:=3,pos:="session.go:120",after:=#[{ on:=1,ground:=Go.Ground.data }],guard:=none },{ dst:=some 102,op:=Go.Op.binOp Go.BinOp.gtr 3 (Go.Operand.tmp 101) (Go.Operand.const (Go.Value.int Go.IntKind.i64 0)) 3,type:=4,pos:="session.go:120",after:=#[{ on:=2,ground:=Go.Ground.data }],guard:=none },{ dst:=some 103,op:=Go.Op.move (Go.Operand.tmp 102),type:=4,pos:="session.go:120",after:=#[{ on:=3,ground:=Go.Ground.data }],guard:=none },{ dst:=some 104,op:=Go.Op.fieldAddr 33 (Go.Operand.tmp 3) 7,type:=0,pos:="session.go:120",after:=#[{ on:=4,ground:=Go.Ground.guard }],guard:=some (4,true) },{ dst:=some 105,op:=Go.Op.load 29 (Go.Operand.tmp 104),type:=29,pos:="session.go:120",after:=#[{ on:=5,ground:=Go.Ground.data },{ on:=4,ground:=Go.Ground.guard }],guard:=some (4,true) },{ dst:=some 106,op:=Go.Op.call { callee:=Go.Callee.value (Go.Operand.func 46),args:=#[Go.Operand.tmp 105],argTypes:=#[29] },type:=4,pos:="session.go:120",after:=#[{ on:=6,ground:=Go.Ground.data },{ on:=4,ground:=Go.Ground.chain },{ on:=4,ground:=Go.Ground.guard }],guard:=some (4,true) },{ dst:=some 107,op:=Go.Op.pick (Go.Operand.tmp 103) (Go.Operand.tmp 106) (Go.Operand.const (Go.Value.bool false)),type:=4,pos:="session.go:120",after:=#[{ on:=4,ground:=Go.Ground.data },{ on:=7,ground:=Go.Ground.data }],guard:=none },{ dst:=some 6,op:=Go.Op.assign (Go.Operand.tmp 107),type:=4,pos:="session.go:120",after:=#[{ on:=8,ground:=Go.Ground.data },{ on:=7,ground:=Go.Ground.chain },{ on:=0,ground:=Go.Ground.phase },{ on:=1,ground:=Go.Ground.phase },{ on:=2,ground:=Go.Ground.phase },{ on:=3,ground:=Go.Ground.phase },{ on:=4,ground:=Go.Ground.phase },{ on:=5,ground:=Go.Ground.phase },{ on:=6,ground:=Go.Ground.phase },{ on:=7,ground:=Go.Ground.phase },{ on:=8,ground:=Go.Ground.phase }],guard:=none }] false).seq Go.Code.ret) Go.Code.skip)).seq ((Go.Code.region 16 #[{ dst:=some 108,op:=Go.Op.fieldAddr 33 (Go.Operand.tmp 3) 7,type:=0,pos:="session.go:122",after:=#[],guard:=none },{ dst:=some 109,op:=Go.Op.load 29 (Go.Operand.tmp 108),type:=29,pos:="session.go:122",after:=#[{ on:=0,ground:=Go.Ground.data }],guard:=none },{ dst:=some 110,op:=Go.Op.call { callee:=Go.Callee.builtin Go.Builtin.len,args:=#[Go.Operand.tmp 109],argTypes:=#[29] },type:=3,pos:="session.go:122",after:=#[{ on:=1,ground:=Go.Ground.data }],guard:=none },{ dst:=some 111,op:=Go.Op.binOp Go.BinOp.eql 3 (Go.Operand.tmp 110) (Go.Operand.const (Go.Value.int Go.IntKind.i64 0)) 3,type:=4,pos:="session.go:122",after:=#[{ on:=2,ground:=Go.Ground.data }],guard:=none },{ dst:=some 6,op:=Go.Op.assign (Go.Operand.tmp 111),type:=4,pos:="session.go:122",after:=#[{ on:=3,ground:=Go.Ground.data },{ on:=0,ground:=Go.Ground.phase },{ on:=1,ground:=Go.Ground.phase },{ on:=2,ground:=Go.Ground.phase },{ on:=3,ground:=Go.Ground.phase }],guard:=none }] false).seq Go.Code.ret)))))).wp Tryd.prog (bodyPost Tryd.prog Tryd.f54 fun e w' => e = .returned (.bool false)∧Below w.heap.size w w') ⟨#[.agg #[.int .i64 a0_0,.int .u64 a0_1,.bool a0_2,.int .u64 a0_3,.int .i64 a0_4,.bool a0_5,.int .u32 a0_6,.int .i64 a0_7,.int .i64 a0_8,.int .i64 a0_9,.int .i64 a0_10,.int .i64 a0_11,.int .i64 a0_12,.int .i64 a0_13,.int .i64 a0_14,.int .i64 a0_15,.int .i64 a0_16,.slice A0_17 l0_17.length c0_17,.slice A0_18 l0_18.length c0_18,.slice A0_19 l0_19.length c0_19],.bool true,.bool a2,.pointer (some ⟨w.heap.size,0,none⟩),u4,u5,.bool false,.pointer (some ⟨w.heap.size+1,0,none⟩),u8,u9,u10,u11,u12,u13,u14,u15,u16,u17,u18,u19,u20,u21,u22,u23,u24,u25,u26,u27,u28,u29,u30,u31,u32,u33,u34,u35,u36,u37,u38,u39,u40,u41,u42,u43,u44,u45,u46,u47,u48,u49,u50,u51,u52,u53,u54,u55,u56,u57,u58,u59,u60,u61,u62,u63,u64,u65,u66,u67,u68,u69,u70,u71,u72,u73,u74,u75,u76,u77,u78,u79,u80,u81,u82,u83,u84,u85,u86,u87,u88,u89,u90,u91,u92,u93,u94,u95,u96,u97,u98,u99,u100,u101,u102,u103,u104,u105,u106,u107,u108,u109,u110,u111],[]⟩ W:=by
 have c4:=b0.cell 4
 have c5:=b0.cell 5
 have c6:=b0.cell 6
 have c7:=b0.cell 7
 have c8:=b0.cell 8
 have c9:=b0.cell 9
 have c10:=b0.cell 10
 have c11:=b0.cell 11
 have c12:=b0.cell 12
 simp at c4 c5 c6 c7 c8 c9 c10 c11 c12
 go_upto_region 4 with fail
 refine start_ (n:=38) (S:=(fun w' => Below W.heap.size W w')) (ds:=[]) #[ff,ff,ff,ff,ff,ff,ff,ff,ff,ff,ff,ff,ff,ff,ff,ff,ff,ff,ff,ff,ff,ff,ff,ff,ff,ff,ff,ff,ff,ff,ff,ff,ff,ff,ff,ff,ff,ff] (by kernel_rfl) rfl rfl (Below.drew (Below.refl _ _)) (fun hHeld => ?_)
 refine with_tabW bz4.tab4 bz4.bits4 (fun HT_ HW_ => ?_)
 refine pure_ (i:=0) (N:=some 18) (v:=?_) (a':=?_) #[tt,ff,ff,ff,ff,ff,ff,ff,ff,ff,ff,ff,ff,ff,ff,ff,ff,ff,ff,ff,ff,ff,ff,ff,ff,ff,ff,ff,ff,ff,ff,ff,ff,ff,ff,ff,ff,ff] rfl rfl (any_of HT_.out (by kernel_rfl)) (fun _ _ _ h => h) (Or.inl ⟨by rfl,?_⟩) ?_ ?_
 rotate_left
 ·intro w'
  go_simp
  with_reducible rfl
 rotate_left
 ·simp only [Act.put,sA,sZ,sS,i64_w,i32_w]
  rfl
 refine pure_ (i:=1) (N:=some 19) (v:=?_) (a':=?_) #[tt,tt,ff,ff,ff,ff,ff,ff,ff,ff,ff,ff,ff,ff,ff,ff,ff,ff,ff,ff,ff,ff,ff,ff,ff,ff,ff,ff,ff,ff,ff,ff,ff,ff,ff,ff,ff,ff] rfl rfl (any_of HT_.out (by kernel_rfl)) (fun _ _ _ h => h) (Or.inl ⟨by rfl,?_⟩) ?_ ?_
 rotate_left
 ·intro w'
  go_simp
  with_reducible rfl
 rotate_left
 ·simp only [Act.put,sA,sZ,sS,i64_w,i32_w]
  rfl
 refine pure_ (i:=2) (N:=some 20) (v:=?_) (a':=?_) #[tt,tt,tt,ff,ff,ff,ff,ff,ff,ff,ff,ff,ff,ff,ff,ff,ff,ff,ff,ff,ff,ff,ff,ff,ff,ff,ff,ff,ff,ff,ff,ff,ff,ff,ff,ff,ff,ff] rfl rfl (any_of HT_.out (by kernel_rfl)) (fun _ _ _ h => h) (Or.inl ⟨by rfl,?_⟩) ?_ ?_
 rotate_left
 ·intro w'
  go_simp
  with_reducible rfl
 rotate_left
 ·simp only [Act.put,sA,sZ,sS,i64_w,i32_w]
  rfl
 refine pure_ (i:=3) (N:=some 21) (v:=?_) (a':=?_) #[tt,tt,tt,tt,ff,ff,ff,ff,ff,ff,ff,ff,ff,ff,ff,ff,ff,ff,ff,ff,ff,ff,ff,ff,ff,ff,ff,ff,ff,ff,ff,ff,ff,ff,ff,ff,ff,ff] rfl rfl (any_of HT_.out (by kernel_rfl)) (fun _ _ _ h => h) (Or.inl ⟨by rfl,?_⟩) ?_ ?_
 rotate_left
 ·intro w'
  go_simp
  with_reducible rfl
 rotate_left
 ·simp only [Act.put,sA,sZ,sS,i64_w,i32_w]
  rfl
 refine take_ (i:=4) (N:=some 22) (v:=?_) (a':=?_) #[tt,tt,tt,tt,tt,ff,ff,ff,ff,ff,ff,ff,ff,ff,ff,ff,ff,ff,ff,ff,ff,ff,ff,ff,ff,ff,ff,ff,ff,ff,ff,ff,ff,ff,ff,ff,ff,ff] rfl rfl (take_ofW HT_.out HW_.out (by kernel_rfl)) (fun _ _ _ h => h) (Or.inl ⟨by rfl,?_⟩) hHeld ?_ ?_
 rotate_left
 ·rintro w' s0
  have j4:=keep_cell s0 c4
  have j5:=keep_cell s0 c5
  have j6:=keep_cell s0 c6
  have j7:=keep_cell s0 c7
  have j8:=keep_cell s0 c8
  have j9:=keep_cell s0 c9
  have j10:=keep_cell s0 c10
  have j11:=keep_cell s0 c11
  go_simp
  with_reducible rfl
 rotate_left
 ·simp only [Act.put,sA,sZ,sS,i64_w,i32_w]
  rfl
 refine pure_ (i:=5) (N:=some 23) (v:=?_) (a':=?_) #[tt,tt,tt,tt,tt,tt,ff,ff,ff,ff,ff,ff,ff,ff,ff,ff,ff,ff,ff,ff,ff,ff,ff,ff,ff,ff,ff,ff,ff,ff,ff,ff,ff,ff,ff,ff,ff,ff] rfl rfl (any_of HT_.out (by kernel_rfl)) (fun _ _ _ h => h) (Or.inl ⟨by rfl,?_⟩) ?_ ?_
 rotate_left
 ·intro w'
  go_simp
  with_reducible rfl
 rotate_left
 ·simp only [Act.put,sA,sZ,sS,i64_w,i32_w]
  rfl
 refine take_ (i:=6) (N:=some 24) (v:=?_) (a':=?_) #[tt,tt,tt,tt,tt,tt,tt,ff,ff,ff,ff,ff,ff,ff,ff,ff,ff,ff,ff,ff,ff,ff,ff,ff,ff,ff,ff,ff,ff,ff,ff,ff,ff,ff,ff,ff,ff,ff] rfl rfl (take_ofW HT_.out HW_.out (by kernel_rfl)) (fun _ _ _ h => h) (Or.inl ⟨by rfl,?_⟩) hHeld ?_ ?_
 rotate_left
 ·rintro w' s0
  have j4:=keep_cell s0 c4
  have j5:=keep_cell s0 c5
  have j6:=keep_cell s0 c6
  have j7:=keep_cell s0 c7
  have j8:=keep_cell s0 c8
  have j9:=keep_cell s0 c9
  have j10:=keep_cell s0 c10
  have j11:=keep_cell s0 c11
  go_simp
  with_reducible rfl
 rotate_left
 ·simp only [Act.put,sA,sZ,sS,i64_w,i32_w]
  rfl
 have hX:=hHeld
 refine one_ (i:=7) (N:=some 25) #[tt,tt,tt,tt,tt,tt,tt,tt,ff,ff,ff,ff,ff,ff,ff,ff,ff,ff,ff,ff,ff,ff,ff,ff,ff,ff,ff,ff,ff,ff,ff,ff,ff,ff,ff,ff,ff,ff] rfl rfl (one_of HT_.out (by kernel_rfl)) (by decide) (fun K hK => ?_)
 refine goes_ Tryd.func32 (by kernel_rfl) rfl #[.agg #[.int .i64 a0_4,.bool a0_5,.int .u32 a0_6,.int .i64 a0_7,.int .i64 a0_8,.int .i64 a0_9,.int .i64 a0_10,.int .i64 a0_11]] (by rfl) rfl rfl (by (try simp only [List.map_toArray,List.map_cons,List.map_nil]);first|done|rfl) ?_
 refine (HP _).out.mono ?_
 rintro e_ w9 ⟨rfl,hb9⟩
 refine ⟨_,rfl,?_⟩
 replace hX:=keep_below hX hb9
 clear hb9
 refine hK.out _ _ hX (fun hHeld => ?_)
 clear hK K
 refine norm_ (a':=?_) ?_ ?_
 rotate_left
 ·first|(show Act.put _ (some 25) _ = _;simp only [Act.put,sA,sZ,sS,i64_w,i32_w];rfl)|with_reducible rfl
 refine pure_ (i:=8) (N:=some 26) (v:=?_) (a':=?_) #[tt,tt,tt,tt,tt,tt,tt,tt,tt,ff,ff,ff,ff,ff,ff,ff,ff,ff,ff,ff,ff,ff,ff,ff,ff,ff,ff,ff,ff,ff,ff,ff,ff,ff,ff,ff,ff,ff] rfl rfl (any_of HT_.out (by kernel_rfl)) (fun _ _ _ h => h) (Or.inl ⟨by rfl,?_⟩) ?_ ?_
 rotate_left
 ·intro w'
  go_simp
  with_reducible rfl
 rotate_left
 ·simp only [Act.put,sA,sZ,sS,i64_w,i32_w]
  rfl
 refine pure_ (i:=9) (N:=some 27) (v:=?_) (a':=?_) #[tt,tt,tt,tt,tt,tt,tt,tt,tt,tt,ff,ff,ff,ff,ff,ff,ff,ff,ff,ff,ff,ff,ff,ff,ff,ff,ff,ff,ff,ff,ff,ff,ff,ff,ff,ff,ff,ff] rfl rfl (any_of HT_.out (by kernel_rfl)) (fun _ _ _ h => h) (Or.inl ⟨by rfl,?_⟩) ?_ ?_
 rotate_left
 ·intro w'
  go_simp
  with_reducible rfl
 rotate_left
 ·simp only [Act.put,sA,sZ,sS,i64_w,i32_w]
  rfl
 refine pure_ (i:=10) (N:=some 28) (v:=?_) (a':=?_) #[tt,tt,tt,tt,tt,tt,tt,tt,tt,tt,tt,ff,ff,ff,ff,ff,ff,ff,ff,ff,ff,ff,ff,ff,ff,ff,ff,ff,ff,ff,ff,ff,ff,ff,ff,ff,ff,ff] rfl rfl (any_of HT_.out (by kernel_rfl)) (fun _ _ _ h => h) (Or.inl ⟨by rfl,?_⟩) ?_ ?_
 rotate_left
 ·intro w'
  go_simp
  with_reducible rfl
 rotate_left
 ·simp only [Act.put,sA,sZ,sS,i64_w,i32_w]
  rfl
 refine take_ (i:=11) (N:=some 29) (v:=.agg #[.int .i64 st,.int .u64 0,.bool rd,.int .u64 0,.int .i64 0,.bool false,.int .u32 0,.int .i64 0,.int .i64 0,.int .i64 0,.int .i64 0,.int .i64 0,.int .i64 0,.int .i64 0,.int .i64 0,.int .i64 0,.int .i64 0,.slice none 0 0,.slice none 0 0,.slice none 0 0]) (a':=?_) #[tt,tt,tt,tt,tt,tt,tt,tt,tt,tt,tt,tt,ff,ff,ff,ff,ff,ff,ff,ff,ff,ff,ff,ff,ff,ff,ff,ff,ff,ff,ff,ff,ff,ff,ff,ff,ff,ff] rfl rfl (take_ofW HT_.out HW_.out (by kernel_rfl)) (fun _ _ _ h => h) (Or.inl ⟨by rfl,?_⟩) hHeld ?_ ?_
 ·rintro w' s0
  exact load_row_run _ _ rfl (w.heap.size+1) rfl 33 #[.int .i64 st,.int .u64 0,.bool rd,.int .u64 0,.int .i64 0,.bool false,.int .u32 0,.int .i64 0,.int .i64 0,.int .i64 0,.int .i64 0,.int .i64 0,.int .i64 0,.int .i64 0,.int .i64 0,.int .i64 0,.int .i64 0,.slice none 0 0,.slice none 0 0,.slice none 0 0] _ (b1.keep s0) Tryd.underlying33 rfl (by first|kernel_rfl|rfl)
 rotate_left
 ·simp only [Act.put,sA,sZ,sS]
  rfl
 refine pure_ (i:=12) (N:=some 30) (v:=?_) (a':=?_) #[tt,tt,tt,tt,tt,tt,tt,tt,tt,tt,tt,tt,tt,ff,ff,ff,ff,ff,ff,ff,ff,ff,ff,ff,ff,ff,ff,ff,ff,ff,ff,ff,ff,ff,ff,ff,ff,ff] rfl rfl (any_of HT_.out (by kernel_rfl)) (fun _ _ _ h => h) (Or.inl ⟨by rfl,?_⟩) ?_ ?_
 rotate_left
 ·intro w'
  go_simp
  with_reducible rfl
 rotate_left
 ·simp only [Act.put,sA,sZ,sS,i64_w,i32_w]
  rfl
 refine take_ (i:=13) (N:=some 31) (v:=?_) (a':=?_) #[tt,tt,tt,tt,tt,tt,tt,tt,tt,tt,tt,tt,tt,tt,ff,ff,ff,ff,ff,ff,ff,ff,ff,ff,ff,ff,ff,ff,ff,ff,ff,ff,ff,ff,ff,ff,ff,ff] rfl rfl (take_ofW HT_.out HW_.out (by kernel_rfl)) (fun _ _ _ h => h) (Or.inl ⟨by rfl,?_⟩) hHeld ?_ ?_
 rotate_left
 ·rintro w' s0
  have j4:=keep_cell s0 c4
  have j5:=keep_cell s0 c5
  have j6:=keep_cell s0 c6
  have j7:=keep_cell s0 c7
  have j8:=keep_cell s0 c8
  have j9:=keep_cell s0 c9
  have j10:=keep_cell s0 c10
  have j11:=keep_cell s0 c11
  go_simp
  with_reducible rfl
 rotate_left
 ·simp only [Act.put,sA,sZ,sS,i64_w,i32_w]
  rfl
 refine one_ (i:=14) (N:=some 32) #[tt,tt,tt,tt,tt,tt,tt,tt,tt,tt,tt,tt,tt,tt,tt,ff,ff,ff,ff,ff,ff,ff,ff,ff,ff,ff,ff,ff,ff,ff,ff,ff,ff,ff,ff,ff,ff,ff] rfl rfl (one_of HT_.out (by kernel_rfl)) (by decide) (fun K hK => ?_)
 refine goes_ Tryd.func30 (by kernel_rfl) rfl #[.agg #[.int .i64 st,.int .u64 0,.bool rd,.int .u64 0,.int .i64 0,.bool false,.int .u32 0,.int .i64 0,.int .i64 0,.int .i64 0,.int .i64 0,.int .i64 0,.int .i64 0,.int .i64 0,.int .i64 0,.int .i64 0,.int .i64 0,.slice none 0 0,.slice none 0 0,.slice none 0 0],.int .i64 1,.agg #[.int .i64 a0_4,.bool a0_5,.int .u32 a0_6,.int .i64 a0_7,.int .i64 a0_8,.int .i64 a0_9,.int .i64 a0_10,.int .i64 a0_11]] (by rfl) rfl rfl (by (try simp only [List.map_toArray,List.map_cons,List.map_nil]);first|done|rfl) ?_
 refine (HF _).out.mono ?_
 rintro e_ w9 ⟨rfl,hb9⟩
 refine ⟨_,rfl,?_⟩
 replace hX:=keep_below hX hb9
 clear hb9
 refine hK.out _ _ hX (fun hHeld => ?_)
 clear hK K
 refine norm_ (a':=?_) ?_ ?_
 rotate_left
 ·first|(show Act.put _ (some 32) _ = _;simp only [Act.put,sA,sZ,sS,i64_w,i32_w];rfl)|with_reducible rfl
 refine pure_ (i:=15) (N:=some 33) (v:=?_) (a':=?_) #[tt,tt,tt,tt,tt,tt,tt,tt,tt,tt,tt,tt,tt,tt,tt,tt,ff,ff,ff,ff,ff,ff,ff,ff,ff,ff,ff,ff,ff,ff,ff,ff,ff,ff,ff,ff,ff,ff] rfl rfl (any_of HT_.out (by kernel_rfl)) (fun _ _ _ h => h) (Or.inl ⟨by rfl,?_⟩) ?_ ?_
 rotate_left
 ·intro w'
  go_simp
  with_reducible rfl
 rotate_left
 ·simp only [Act.put,sA,sZ,sS,i64_w,i32_w]
  rfl
 refine pure_ (i:=16) (N:=some 34) (v:=?_) (a':=?_) #[tt,tt,tt,tt,tt,tt,tt,tt,tt,tt,tt,tt,tt,tt,tt,tt,tt,ff,ff,ff,ff,ff,ff,ff,ff,ff,ff,ff,ff,ff,ff,ff,ff,ff,ff,ff,ff,ff] rfl rfl (any_of HT_.out (by kernel_rfl)) (fun _ _ _ h => h) (Or.inl ⟨by rfl,?_⟩) ?_ ?_
 rotate_left
 ·intro w'
  go_simp
  with_reducible rfl
 rotate_left
 ·simp only [Act.put,sA,sZ,sS,i64_w,i32_w]
  rfl
 refine pure_ (i:=17) (N:=some 35) (v:=?_) (a':=?_) #[tt,tt,tt,tt,tt,tt,tt,tt,tt,tt,tt,tt,tt,tt,tt,tt,tt,tt,ff,ff,ff,ff,ff,ff,ff,ff,ff,ff,ff,ff,ff,ff,ff,ff,ff,ff,ff,ff] rfl rfl (any_of HT_.out (by kernel_rfl)) (fun _ _ _ h => h) (Or.inl ⟨by rfl,?_⟩) ?_ ?_
 rotate_left
 ·intro w'
  go_simp
  with_reducible rfl
 rotate_left
 ·simp only [Act.put,sA,sZ,sS,i64_w,i32_w]
  rfl
 refine pure_ (i:=18) (N:=some 36) (v:=?_) (a':=?_) #[tt,tt,tt,tt,tt,tt,tt,tt,tt,tt,tt,tt,tt,tt,tt,tt,tt,tt,tt,ff,ff,ff,ff,ff,ff,ff,ff,ff,ff,ff,ff,ff,ff,ff,ff,ff,ff,ff] rfl rfl (any_of HT_.out (by kernel_rfl)) (fun _ _ _ h => h) (Or.inl ⟨by rfl,?_⟩) ?_ ?_
 rotate_left
 ·intro w'
  go_simp
  with_reducible rfl
 rotate_left
 ·simp only [Act.put,sA,sZ,sS,i64_w,i32_w]
  rfl
 refine take_ (i:=19) (N:=some 37) (v:=?_) (a':=?_) #[tt,tt,tt,tt,tt,tt,tt,tt,tt,tt,tt,tt,tt,tt,tt,tt,tt,tt,tt,tt,ff,ff,ff,ff,ff,ff,ff,ff,ff,ff,ff,ff,ff,ff,ff,ff,ff,ff] rfl rfl (take_ofW HT_.out HW_.out (by kernel_rfl)) (fun _ _ _ h => h) (Or.inl ⟨by rfl,?_⟩) hHeld ?_ ?_
 rotate_left
 ·rintro w' s0
  have j12:=keep_cell s0 c12
  go_simp
  with_reducible rfl
 rotate_left
 ·simp only [Act.put,sA,sZ,sS,i64_w,i32_w]
  rfl
 refine pure_ (i:=20) (N:=some 38) (v:=?_) (a':=?_) #[tt,tt,tt,tt,tt,tt,tt,tt,tt,tt,tt,tt,tt,tt,tt,tt,tt,tt,tt,tt,tt,ff,ff,ff,ff,ff,ff,ff,ff,ff,ff,ff,ff,ff,ff,ff,ff,ff] rfl rfl (any_of HT_.out (by kernel_rfl)) (fun _ _ _ h => h) (Or.inl ⟨by rfl,?_⟩) ?_ ?_
 rotate_left
 ·intro w'
  go_simp
  with_reducible rfl
 rotate_left
 ·simp only [Act.put,sA,sZ,sS,i64_w,i32_w]
  rfl
 refine pure_ (i:=21) (N:=some 39) (v:=?_) (a':=?_) #[tt,tt,tt,tt,tt,tt,tt,tt,tt,tt,tt,tt,tt,tt,tt,tt,tt,tt,tt,tt,tt,tt,ff,ff,ff,ff,ff,ff,ff,ff,ff,ff,ff,ff,ff,ff,ff,ff] rfl rfl (any_of HT_.out (by kernel_rfl)) (fun _ _ _ h => h) (Or.inl ⟨by rfl,?_⟩) ?_ ?_
 rotate_left
 ·intro w'
  go_simp
  with_reducible rfl
 rotate_left
 ·simp only [Act.put,sA,sZ,sS,i64_w,i32_w]
  rfl
 refine pure_ (i:=22) (N:=some 40) (v:=?_) (a':=?_) #[tt,tt,tt,tt,tt,tt,tt,tt,tt,tt,tt,tt,tt,tt,tt,tt,tt,tt,tt,tt,tt,tt,tt,ff,ff,ff,ff,ff,ff,ff,ff,ff,ff,ff,ff,ff,ff,ff] rfl rfl (any_of HT_.out (by kernel_rfl)) (fun _ _ _ h => h) (Or.inl ⟨by rfl,?_⟩) ?_ ?_
 rotate_left
 ·intro w'
  go_simp
  with_reducible rfl
 rotate_left
 ·simp only [Act.put,sA,sZ,sS,i64_w,i32_w]
  rfl
 refine pure_ (i:=23) (N:=some 41) (v:=undef) (a':=?_) #[tt,tt,tt,tt,tt,tt,tt,tt,tt,tt,tt,tt,tt,tt,tt,tt,tt,tt,tt,tt,tt,tt,tt,tt,ff,ff,ff,ff,ff,ff,ff,ff,ff,ff,ff,ff,ff,ff] rfl rfl (any_of HT_.out (by kernel_rfl)) (fun _ _ _ h => h) (Or.inr ⟨by rfl,rfl⟩) ?_ ?_
 rotate_left
 ·simp only [Act.put,sA,sZ,sS]
  rfl
 refine pure_ (i:=24) (N:=some 42) (v:=undef) (a':=?_) #[tt,tt,tt,tt,tt,tt,tt,tt,tt,tt,tt,tt,tt,tt,tt,tt,tt,tt,tt,tt,tt,tt,tt,tt,tt,ff,ff,ff,ff,ff,ff,ff,ff,ff,ff,ff,ff,ff] rfl rfl (any_of HT_.out (by kernel_rfl)) (fun _ _ _ h => h) (Or.inr ⟨by rfl,rfl⟩) ?_ ?_
 rotate_left
 ·simp only [Act.put,sA,sZ,sS]
  rfl
 refine pure_ (i:=25) (N:=some 43) (v:=undef) (a':=?_) #[tt,tt,tt,tt,tt,tt,tt,tt,tt,tt,tt,tt,tt,tt,tt,tt,tt,tt,tt,tt,tt,tt,tt,tt,tt,tt,ff,ff,ff,ff,ff,ff,ff,ff,ff,ff,ff,ff] rfl rfl (any_of HT_.out (by kernel_rfl)) (fun _ _ _ h => h) (Or.inr ⟨by rfl,rfl⟩) ?_ ?_
 rotate_left
 ·simp only [Act.put,sA,sZ,sS]
  rfl
 refine pure_ (i:=26) (N:=some 44) (v:=?_) (a':=?_) #[tt,tt,tt,tt,tt,tt,tt,tt,tt,tt,tt,tt,tt,tt,tt,tt,tt,tt,tt,tt,tt,tt,tt,tt,tt,tt,tt,ff,ff,ff,ff,ff,ff,ff,ff,ff,ff,ff] rfl rfl (any_of HT_.out (by kernel_rfl)) (fun _ _ _ h => h) (Or.inl ⟨by rfl,?_⟩) ?_ ?_
 rotate_left
 ·intro w'
  go_simp
  with_reducible rfl
 rotate_left
 ·simp only [Act.put,sA,sZ,sS,i64_w,i32_w]
  rfl
 refine pure_ (i:=27) (N:=some 45) (v:=?_) (a':=?_) #[tt,tt,tt,tt,tt,tt,tt,tt,tt,tt,tt,tt,tt,tt,tt,tt,tt,tt,tt,tt,tt,tt,tt,tt,tt,tt,tt,tt,ff,ff,ff,ff,ff,ff,ff,ff,ff,ff] rfl rfl (any_of HT_.out (by kernel_rfl)) (fun _ _ _ h => h) (Or.inl ⟨by rfl,?_⟩) ?_ ?_
 rotate_left
 ·intro w'
  go_simp
  with_reducible rfl
 rotate_left
 ·simp only [Act.put,sA,sZ,sS,i64_w,i32_w]
  rfl
 refine pure_ (i:=28) (N:=some 46) (v:=undef) (a':=?_) #[tt,tt,tt,tt,tt,tt,tt,tt,tt,tt,tt,tt,tt,tt,tt,tt,tt,tt,tt,tt,tt,tt,tt,tt,tt,tt,tt,tt,tt,ff,ff,ff,ff,ff,ff,ff,ff,ff] rfl rfl (any_of HT_.out (by kernel_rfl)) (fun _ _ _ h => h) (Or.inr ⟨by rfl,rfl⟩) ?_ ?_
 rotate_left
 ·simp only [Act.put,sA,sZ,sS]
  rfl
 refine pure_ (i:=29) (N:=some 47) (v:=undef) (a':=?_) #[tt,tt,tt,tt,tt,tt,tt,tt,tt,tt,tt,tt,tt,tt,tt,tt,tt,tt,tt,tt,tt,tt,tt,tt,tt,tt,tt,tt,tt,tt,ff,ff,ff,ff,ff,ff,ff,ff] rfl rfl (any_of HT_.out (by kernel_rfl)) (fun _ _ _ h => h) (Or.inr ⟨by rfl,rfl⟩) ?_ ?_
 rotate_left
 ·simp only [Act.put,sA,sZ,sS]
  rfl
 refine pure_ (i:=30) (N:=some 48) (v:=undef) (a':=?_) #[tt,tt,tt,tt,tt,tt,tt,tt,tt,tt,tt,tt,tt,tt,tt,tt,tt,tt,tt,tt,tt,tt,tt,tt,tt,tt,tt,tt,tt,tt,tt,ff,ff,ff,ff,ff,ff,ff] rfl rfl (any_of HT_.out (by kernel_rfl)) (fun _ _ _ h => h) (Or.inr ⟨by rfl,rfl⟩) ?_ ?_
 rotate_left
 ·simp only [Act.put,sA,sZ,sS]
  rfl
 refine pure_ (i:=31) (N:=some 49) (v:=undef) (a':=?_) #[tt,tt,tt,tt,tt,tt,tt,tt,tt,tt,tt,tt,tt,tt,tt,tt,tt,tt,tt,tt,tt,tt,tt,tt,tt,tt,tt,tt,tt,tt,tt,tt,ff,ff,ff,ff,ff,ff] rfl rfl (any_of HT_.out (by kernel_rfl)) (fun _ _ _ h => h) (Or.inr ⟨by rfl,rfl⟩) ?_ ?_
 rotate_left
 ·simp only [Act.put,sA,sZ,sS]
  rfl
 refine pure_ (i:=32) (N:=some 50) (v:=undef) (a':=?_) #[tt,tt,tt,tt,tt,tt,tt,tt,tt,tt,tt,tt,tt,tt,tt,tt,tt,tt,tt,tt,tt,tt,tt,tt,tt,tt,tt,tt,tt,tt,tt,tt,tt,ff,ff,ff,ff,ff] rfl rfl (any_of HT_.out (by kernel_rfl)) (fun _ _ _ h => h) (Or.inr ⟨by rfl,rfl⟩) ?_ ?_
 rotate_left
 ·simp only [Act.put,sA,sZ,sS]
  rfl
 refine pure_ (i:=33) (N:=some 51) (v:=undef) (a':=?_) #[tt,tt,tt,tt,tt,tt,tt,tt,tt,tt,tt,tt,tt,tt,tt,tt,tt,tt,tt,tt,tt,tt,tt,tt,tt,tt,tt,tt,tt,tt,tt,tt,tt,tt,ff,ff,ff,ff] rfl rfl (any_of HT_.out (by kernel_rfl)) (fun _ _ _ h => h) (Or.inr ⟨by rfl,rfl⟩) ?_ ?_
 rotate_left
 ·simp only [Act.put,sA,sZ,sS]
  rfl
 refine pure_ (i:=34) (N:=some 52) (v:=undef) (a':=?_) #[tt,tt,tt,tt,tt,tt,tt,tt,tt,tt,tt,tt,tt,tt,tt,tt,tt,tt,tt,tt,tt,tt,tt,tt,tt,tt,tt,tt,tt,tt,tt,tt,tt,tt,tt,ff,ff,ff] rfl rfl (any_of HT_.out (by kernel_rfl)) (fun _ _ _ h => h) (Or.inr ⟨by rfl,rfl⟩) ?_ ?_
 rotate_left
 ·simp only [Act.put,sA,sZ,sS]
  rfl
 refine pure_ (i:=35) (N:=some 53) (v:=undef) (a':=?_) #[tt,tt,tt,tt,tt,tt,tt,tt,tt,tt,tt,tt,tt,tt,tt,tt,tt,tt,tt,tt,tt,tt,tt,tt,tt,tt,tt,tt,tt,tt,tt,tt,tt,tt,tt,tt,ff,ff] rfl rfl (any_of HT_.out (by kernel_rfl)) (fun _ _ _ h => h) (Or.inr ⟨by rfl,rfl⟩) ?_ ?_
 rotate_left
 ·simp only [Act.put,sA,sZ,sS]
  rfl
 refine pure_ (i:=36) (N:=some 54) (v:=undef) (a':=?_) #[tt,tt,tt,tt,tt,tt,tt,tt,tt,tt,tt,tt,tt,tt,tt,tt,tt,tt,tt,tt,tt,tt,tt,tt,tt,tt,tt,tt,tt,tt,tt,tt,tt,tt,tt,tt,tt,ff] rfl rfl (any_of HT_.out (by kernel_rfl)) (fun _ _ _ h => h) (Or.inr ⟨by rfl,rfl⟩) ?_ ?_
 rotate_left
 ·simp only [Act.put,sA,sZ,sS]
  rfl
 refine pure_ (i:=37) (N:=some 55) (v:=?_) (a':=?_) #[tt,tt,tt,tt,tt,tt,tt,tt,tt,tt,tt,tt,tt,tt,tt,tt,tt,tt,tt,tt,tt,tt,tt,tt,tt,tt,tt,tt,tt,tt,tt,tt,tt,tt,tt,tt,tt,tt] rfl rfl (any_of HT_.out (by kernel_rfl)) (fun _ _ _ h => h) (Or.inl ⟨by rfl,?_⟩) ?_ ?_
 rotate_left
 ·intro w'
  go_simp
  with_reducible rfl
 rotate_left
 ·simp only [Act.put,sA,sZ,sS,i64_w,i32_w]
  rfl
 refine done_ (done_of HT_.out (by kernel_rfl)) ?_
 go_wp2
 go_ret
 exact ⟨rfl,keep_below hB hX⟩
end
end Go.Proofs.YtiamkgoajkfofaaDoor.S
