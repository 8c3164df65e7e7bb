/- Theory for the proofs of this claim: see its last text. -/
import Derived.Test.YthgjocpbmnpjjaaGreatDoorFnListLines
import Derived.Test.YthgjocpbmnpjjaaGreatDoorDenF
import Derived.Test.YthgjocpbmnpjjaaGreatDoorShl
import Derived.Test.YthgjocpbmnpjjaaGreatDoorProg
import Derived.KernelRfl
set_option maxRecDepth 100000
set_option linter.unusedVariables false
noncomputable section
namespace Go.Proofs.YthgjocpbmnpjjaaGreatDoor.ListLines
open Go Go.Den Go.Den.G Go.Proofs Go.Proofs.YthgjocpbmnpjjaaGreatDoor
abbrev B8 : BT := .var [.str, .int .i64, .int .i64, .bool, .int .i64]
abbrev V7 : VT := .agg [.int .i64, .int .i64, .int .i64, .bool, .int .i64]
abbrev B6 : BT := .var [.str, (.int .i64), (.int .i64), .bool, (.int .i64)]
abbrev B5 : BT := .var [(.int .i64), (.int .i64), (.int .i64), .bool, (.int .i64)]
abbrev V4 : VT := .agg [.int .i64, .int .i64, .int .i64, .int .i64, .int .i64, .int .i64, .int .i64]
abbrev B3 : BT := .var [(.int .i64), (.int .i64), (.int .i64), (.int .i64), (.int .i64), (.int .i64), (.int .i64)]
abbrev B2 : BT := .var [(.int .i64), (.int .i64), (.int .i64), (.int .i64), (.int .i64), (.int .i64), (.int .i64), (.int .i64), (.int .i64), (.int .i64), (.int .i64), (.int .i64), (.int .i64), (.int .i64), (.int .i64), (.int .i64), (.int .i64), (.int .i64), (.int .i64)]
abbrev B1 : BT := .var [.str, .int .i64, .int .i64, .bool, .int .i64, .bool, .int .i64, .int .i64, .int .i64, .int .i64, .bool, .int .i64, .int .i64, .int .i64, .int .i64, .int .i64, .int .i64, .int .i64, .int .i64, .int .i64, .int .i64, .int .i64, .int .i64, .int .i64, .int .i64, .int .i64, .int .i64, .int .i64, .int .i64, .int .i64, .int .i64, .int .i64, .int .i64, .int .i64]
abbrev B0 : BT := .var [.str, (.int .i64), (.int .i64), .bool, (.int .i64), .bool, (.int .i64), (.int .i64), (.int .i64), (.int .i64), .bool, (.int .i64), (.int .i64), (.int .i64), (.int .i64), (.int .i64), (.int .i64), (.int .i64), (.int .i64), (.int .i64), (.int .i64), (.int .i64), (.int .i64), (.int .i64), (.int .i64), (.int .i64), (.int .i64), (.int .i64), (.int .i64), (.int .i64), (.int .i64), (.int .i64), (.int .i64), (.int .i64)]
def Ly : Lay := [(1, fun cs => cs = (Go.Lib.pow10Tab.map fun z => Value.int .u64 z).toArray)]
def TT : Tr TI := (.nd 76 ⟨.struct [(0, 9), (1, 3), (2, 3), (3, 4), (4, 3), (5, 4), (6, 3), (7, 65), (12, 3), (13, 3), (14, 3), (15, 30)], 34, 280, [.str [], .int .i64 0, .int .i64 0, .bool false, .int .i64 0, .bool false, .int .i64 0, .int .i64 0, .int .i64 0, .int .i64 0, .bool false, .int .i64 0, .int .i64 0, .int .i64 0, .int .i64 0, .int .i64 0, .int .i64 0, .int .i64 0, .int .i64 0, .int .i64 0, .int .i64 0, .int .i64 0, .int .i64 0, .int .i64 0, .int .i64 0, .int .i64 0, .int .i64 0, .int .i64 0, .int .i64 0, .int .i64 0, .int .i64 0, .int .i64 0, .int .i64 0, .int .i64 0], none, false⟩ (.nd 37 ⟨.fn, 1, 8, [.nilf], none, false⟩ (.nd 18 ⟨.struct [(0, 17)], 1, 8, [.nilp], none, false⟩ (.nd 9 ⟨.str, 1, 16, [.str []], some .s, false⟩ (.nd 5 ⟨.int .u8, 1, 1, [.int .u8 0], some .u, false⟩ (.nd 3 ⟨.int .i64, 1, 8, [.int .i64 0], some .i, false⟩ (.nd 2 ⟨.int .i64, 1, 8, [.int .i64 0], some .i, false⟩ (.nd 1 ⟨.fn, 1, 8, [.nilf], none, false⟩ .lf .lf) .lf) (.nd 4 ⟨.bool, 1, 1, [.bool false], some .b, false⟩ .lf .lf)) (.nd 7 ⟨.struct [(0, 2), (1, 3), (2, 4), (3, 6)], 4, 24, [.int .i64 0, .int .i64 0, .bool false, .int .u8 0], none, false⟩ (.nd 6 ⟨.int .u8, 1, 1, [.int .u8 0], some .u, false⟩ .lf .lf) (.nd 8 ⟨.struct [(0, 2), (1, 3), (2, 4), (3, 6)], 4, 24, [.int .i64 0, .int .i64 0, .bool false, .int .u8 0], none, false⟩ .lf .lf))) (.nd 14 ⟨.struct [(0, 9), (1, 12)], 2, 24, [.str [], .int .u64 0], none, false⟩ (.nd 12 ⟨.int .u64, 1, 8, [.int .u64 0], none, false⟩ (.nd 11 ⟨.str, 1, 16, [.str []], some .s, false⟩ (.nd 10 ⟨.str, 1, 16, [.str []], some .s, false⟩ .lf .lf) .lf) (.nd 13 ⟨.struct [(0, 9), (1, 12)], 2, 24, [.str [], .int .u64 0], none, false⟩ .lf .lf)) (.nd 16 ⟨.ptr 143, 1, 8, [.nilp], none, false⟩ (.nd 15 ⟨.ptr 140, 1, 8, [.nilp], none, false⟩ .lf .lf) (.nd 17 ⟨.ptr 150, 1, 8, [.nilp], none, false⟩ .lf .lf)))) (.nd 28 ⟨.struct [(0, 3), (1, 3), (2, 3), (3, 3), (4, 3), (5, 3), (6, 3)], 7, 56, [.int .i64 0, .int .i64 0, .int .i64 0, .int .i64 0, .int .i64 0, .int .i64 0, .int .i64 0], none, true⟩ (.nd 23 ⟨.struct [(0, 3), (1, 3), (2, 3), (3, 3), (4, 3), (5, 3), (6, 3)], 7, 56, [.int .i64 0, .int .i64 0, .int .i64 0, .int .i64 0, .int .i64 0, .int .i64 0, .int .i64 0], none, true⟩ (.nd 21 ⟨.int .i32, 1, 4, [.int .i32 0], none, false⟩ (.nd 20 ⟨.iface, 1, 16, [.err true], none, false⟩ (.nd 19 ⟨.struct [(0, 17)], 1, 8, [.nilp], none, false⟩ .lf .lf) .lf) (.nd 22 ⟨.struct [(0, 3), (1, 3), (2, 3), (3, 3), (4, 3), (5, 3), (6, 3)], 7, 56, [.int .i64 0, .int .i64 0, .int .i64 0, .int .i64 0, .int .i64 0, .int .i64 0, .int .i64 0], none, false⟩ .lf .lf)) (.nd 25 ⟨.struct [(0, 3), (1, 3), (2, 3), (3, 3), (4, 23), (11, 23), (18, 3)], 19, 152, [.int .i64 0, .int .i64 0, .int .i64 0, .int .i64 0, .int .i64 0, .int .i64 0, .int .i64 0, .int .i64 0, .int .i64 0, .int .i64 0, .int .i64 0, .int .i64 0, .int .i64 0, .int .i64 0, .int .i64 0, .int .i64 0, .int .i64 0, .int .i64 0, .int .i64 0], some .ins, false⟩ (.nd 24 ⟨.struct [(0, 3), (1, 3), (2, 3), (3, 3), (4, 23), (11, 23), (18, 3)], 19, 152, [.int .i64 0, .int .i64 0, .int .i64 0, .int .i64 0, .int .i64 0, .int .i64 0, .int .i64 0, .int .i64 0, .int .i64 0, .int .i64 0, .int .i64 0, .int .i64 0, .int .i64 0, .int .i64 0, .int .i64 0, .int .i64 0, .int .i64 0, .int .i64 0, .int .i64 0], none, false⟩ .lf .lf) (.nd 27 ⟨.fn, 1, 8, [.nilf], none, false⟩ .lf .lf))) (.nd 32 ⟨.fn, 1, 8, [.nilf], none, false⟩ (.nd 30 ⟨.struct [(0, 3), (1, 3), (2, 3), (3, 3), (4, 28), (11, 28), (18, 3)], 19, 152, [.int .i64 0, .int .i64 0, .int .i64 0, .int .i64 0, .int .i64 0, .int .i64 0, .int .i64 0, .int .i64 0, .int .i64 0, .int .i64 0, .int .i64 0, .int .i64 0, .int .i64 0, .int .i64 0, .int .i64 0, .int .i64 0, .int .i64 0, .int .i64 0, .int .i64 0], some .ins, false⟩ (.nd 29 ⟨.struct [(0, 3), (1, 3), (2, 3), (3, 3), (4, 28), (11, 28), (18, 3)], 19, 152, [.int .i64 0, .int .i64 0, .int .i64 0, .int .i64 0, .int .i64 0, .int .i64 0, .int .i64 0, .int .i64 0, .int .i64 0, .int .i64 0, .int .i64 0, .int .i64 0, .int .i64 0, .int .i64 0, .int .i64 0, .int .i64 0, .int .i64 0, .int .i64 0, .int .i64 0], none, false⟩ .lf .lf) (.nd 31 ⟨.fn, 1, 8, [.nilf], none, false⟩ .lf .lf)) (.nd 35 ⟨.fn, 1, 8, [.nilf], none, false⟩ (.nd 33 ⟨.slice 9, 1, 24, [.nils], none, false⟩ .lf .lf) (.nd 36 ⟨.fn, 1, 8, [.nilf], none, false⟩ .lf .lf))))) (.nd 58 ⟨.fn, 1, 8, [.nilf], none, false⟩ (.nd 47 ⟨.fn, 1, 8, [.nilf], none, false⟩ (.nd 42 ⟨.fn, 1, 8, [.nilf], none, false⟩ (.nd 40 ⟨.fn, 1, 8, [.nilf], none, false⟩ (.nd 39 ⟨.fn, 1, 8, [.nilf], none, false⟩ (.nd 38 ⟨.fn, 1, 8, [.nilf], none, false⟩ .lf .lf) .lf) (.nd 41 ⟨.fn, 1, 8, [.nilf], none, false⟩ .lf .lf)) (.nd 45 ⟨.fn, 1, 8, [.nilf], none, false⟩ (.nd 44 ⟨.fn, 1, 8, [.nilf], none, false⟩ .lf .lf) (.nd 46 ⟨.fn, 1, 8, [.nilf], none, false⟩ .lf .lf))) (.nd 53 ⟨.fn, 1, 8, [.nilf], none, false⟩ (.nd 50 ⟨.fn, 1, 8, [.nilf], none, false⟩ (.nd 49 ⟨.fn, 1, 8, [.nilf], none, false⟩ .lf .lf) (.nd 52 ⟨.fn, 1, 8, [.nilf], none, false⟩ .lf .lf)) (.nd 55 ⟨.slice 3, 1, 24, [.nils], none, false⟩ (.nd 54 ⟨.fn, 1, 8, [.nilf], none, false⟩ .lf .lf) (.nd 57 ⟨.fn, 1, 8, [.nilf], none, false⟩ .lf .lf)))) (.nd 68 ⟨.fn, 1, 8, [.nilf], none, false⟩ (.nd 63 ⟨.struct [(0, 9), (1, 3), (2, 3), (3, 4), (4, 3)], 5, 48, [.str [], .int .i64 0, .int .i64 0, .bool false, .int .i64 0], none, true⟩ (.nd 61 ⟨.ptr 63, 1, 8, [.nilp], none, false⟩ (.nd 60 ⟨.fn, 1, 8, [.nilf], none, false⟩ (.nd 59 ⟨.fn, 1, 8, [.nilf], none, false⟩ .lf .lf) .lf) (.nd 62 ⟨.struct [(0, 9), (1, 3), (2, 3), (3, 4), (4, 3)], 5, 48, [.str [], .int .i64 0, .int .i64 0, .bool false, .int .i64 0], none, false⟩ .lf .lf)) (.nd 65 ⟨.struct [(0, 3), (1, 3), (2, 3), (3, 4), (4, 3)], 5, 40, [.int .i64 0, .int .i64 0, .int .i64 0, .bool false, .int .i64 0], none, true⟩ (.nd 64 ⟨.struct [(0, 3), (1, 3), (2, 3), (3, 4), (4, 3)], 5, 40, [.int .i64 0, .int .i64 0, .int .i64 0, .bool false, .int .i64 0], none, false⟩ .lf .lf) (.nd 67 ⟨.fn, 1, 8, [.nilf], none, false⟩ .lf .lf))) (.nd 72 ⟨.fn, 1, 8, [.nilf], none, false⟩ (.nd 70 ⟨.fn, 1, 8, [.nilf], none, false⟩ (.nd 69 ⟨.fn, 1, 8, [.nilf], none, false⟩ .lf .lf) (.nd 71 ⟨.fn, 1, 8, [.nilf], none, false⟩ .lf .lf)) (.nd 74 ⟨.slice 5, 1, 24, [.nils], none, false⟩ (.nd 73 ⟨.fn, 1, 8, [.nilf], none, false⟩ .lf .lf) (.nd 75 ⟨.ptr 77, 1, 8, [.nilp], none, false⟩ .lf .lf)))))) (.nd 113 ⟨.int .u64, 1, 8, [.int .u64 0], none, false⟩ (.nd 94 ⟨.fn, 1, 8, [.nilf], none, false⟩ (.nd 85 ⟨.fn, 1, 8, [.nilf], none, false⟩ (.nd 81 ⟨.fn, 1, 8, [.nilf], none, false⟩ (.nd 79 ⟨.fn, 1, 8, [.nilf], none, false⟩ (.nd 78 ⟨.slice 1, 1, 24, [.nils], none, false⟩ (.nd 77 ⟨.struct [(0, 9), (1, 3), (2, 3), (3, 4), (4, 3), (5, 4), (6, 3), (7, 65), (12, 3), (13, 3), (14, 3), (15, 30)], 34, 280, [.str [], .int .i64 0, .int .i64 0, .bool false, .int .i64 0, .bool false, .int .i64 0, .int .i64 0, .int .i64 0, .int .i64 0, .bool false, .int .i64 0, .int .i64 0, .int .i64 0, .int .i64 0, .int .i64 0, .int .i64 0, .int .i64 0, .int .i64 0, .int .i64 0, .int .i64 0, .int .i64 0, .int .i64 0, .int .i64 0, .int .i64 0, .int .i64 0, .int .i64 0, .int .i64 0, .int .i64 0, .int .i64 0, .int .i64 0, .int .i64 0, .int .i64 0, .int .i64 0], none, false⟩ .lf .lf) .lf) (.nd 80 ⟨.fn, 1, 8, [.nilf], none, false⟩ .lf .lf)) (.nd 83 ⟨.fn, 1, 8, [.nilf], none, false⟩ (.nd 82 ⟨.fn, 1, 8, [.nilf], none, false⟩ .lf .lf) (.nd 84 ⟨.fn, 1, 8, [.nilf], none, false⟩ .lf .lf))) (.nd 90 ⟨.fn, 1, 8, [.nilf], none, false⟩ (.nd 88 ⟨.fn, 1, 8, [.nilf], none, false⟩ (.nd 87 ⟨.fn, 1, 8, [.nilf], none, false⟩ (.nd 86 ⟨.fn, 1, 8, [.nilf], none, false⟩ .lf .lf) .lf) (.nd 89 ⟨.fn, 1, 8, [.nilf], none, false⟩ .lf .lf)) (.nd 92 ⟨.fn, 1, 8, [.nilf], none, false⟩ (.nd 91 ⟨.fn, 1, 8, [.nilf], none, false⟩ .lf .lf) (.nd 93 ⟨.fn, 1, 8, [.nilf], none, false⟩ .lf .lf)))) (.nd 104 ⟨.map 3 9, 1, 8, [.dead], none, false⟩ (.nd 100 ⟨.ptr 30, 1, 8, [.nilp], none, false⟩ (.nd 97 ⟨.fn, 1, 8, [.nilf], none, false⟩ (.nd 96 ⟨.int .u64, 1, 8, [.int .u64 0], none, false⟩ (.nd 95 ⟨.fn, 1, 8, [.nilf], none, false⟩ .lf .lf) .lf) (.nd 99 ⟨.fn, 1, 8, [.nilf], none, false⟩ .lf .lf)) (.nd 102 ⟨.fn, 1, 8, [.nilf], none, false⟩ (.nd 101 ⟨.fn, 1, 8, [.nilf], none, false⟩ .lf .lf) (.nd 103 ⟨.fn, 1, 8, [.nilf], none, false⟩ .lf .lf))) (.nd 108 ⟨.iface, 1, 16, [.err true], none, false⟩ (.nd 106 ⟨.struct [(0, 105), (1, 74)], 2, 32, [.nilp, .nils], none, false⟩ (.nd 105 ⟨.ptr 107, 1, 8, [.nilp], none, false⟩ .lf .lf) (.nd 107 ⟨.struct [(0, 105), (1, 74)], 2, 32, [.nilp, .nils], none, false⟩ .lf .lf)) (.nd 111 ⟨.fn, 1, 8, [.nilf], none, false⟩ (.nd 109 ⟨.iface, 1, 16, [.err true], none, false⟩ .lf .lf) (.nd 112 ⟨.fn, 1, 8, [.nilf], none, false⟩ .lf .lf))))) (.nd 134 ⟨.fn, 1, 8, [.nilf], none, false⟩ (.nd 123 ⟨.fn, 1, 8, [.nilf], none, false⟩ (.nd 119 ⟨.fn, 1, 8, [.nilf], none, false⟩ (.nd 116 ⟨.fn, 1, 8, [.nilf], none, false⟩ (.nd 115 ⟨.array 24 5, 24, 24, [.arr .u 24 []], none, false⟩ (.nd 114 ⟨.fn, 1, 8, [.nilf], none, false⟩ .lf .lf) .lf) (.nd 117 ⟨.fn, 1, 8, [.nilf], none, false⟩ .lf .lf)) (.nd 121 ⟨.fn, 1, 8, [.nilf], none, false⟩ (.nd 120 ⟨.fn, 1, 8, [.nilf], none, false⟩ .lf .lf) (.nd 122 ⟨.fn, 1, 8, [.nilf], none, false⟩ .lf .lf))) (.nd 128 ⟨.array 65 5, 65, 65, [.arr .u 65 []], none, false⟩ (.nd 125 ⟨.fn, 1, 8, [.nilf], none, false⟩ (.nd 124 ⟨.ptr 5, 1, 8, [.nilp], none, false⟩ .lf .lf) (.nd 127 ⟨.int .u32, 1, 4, [.int .u32 0], none, false⟩ .lf .lf)) (.nd 130 ⟨.fn, 1, 8, [.nilf], none, false⟩ (.nd 129 ⟨.fn, 1, 8, [.nilf], none, false⟩ .lf .lf) (.nd 132 ⟨.fn, 1, 8, [.nilf], none, false⟩ .lf .lf)))) (.nd 143 ⟨.struct [(0, 141)], 0, 0, [], none, false⟩ (.nd 139 ⟨.struct [(0, 17), (1, 17), (2, 17), (3, 9)], 4, 40, [.nilp, .nilp, .nilp, .str []], none, false⟩ (.nd 137 ⟨.array 32 5, 32, 32, [.arr .u 32 []], none, false⟩ (.nd 136 ⟨.fn, 1, 8, [.nilf], none, false⟩ (.nd 135 ⟨.fn, 1, 8, [.nilf], none, false⟩ .lf .lf) .lf) (.nd 138 ⟨.array 64 5, 64, 64, [.arr .u 64 []], none, false⟩ .lf .lf)) (.nd 141 ⟨.array 0 16, 0, 0, [], none, false⟩ (.nd 140 ⟨.struct [(0, 17), (1, 17), (2, 17), (3, 9)], 4, 40, [.nilp, .nilp, .nilp, .str []], none, false⟩ .lf .lf) (.nd 142 ⟨.struct [(0, 141)], 0, 0, [], none, false⟩ .lf .lf))) (.nd 147 ⟨.int .i32, 1, 4, [.int .i32 0], none, false⟩ (.nd 145 ⟨.int .u8, 1, 1, [.int .u8 0], some .u, false⟩ (.nd 144 ⟨.int .u8, 1, 1, [.int .u8 0], some .u, false⟩ .lf .lf) (.nd 146 ⟨.fn, 1, 8, [.nilf], none, false⟩ .lf .lf)) (.nd 149 ⟨.struct [(0, 12), (1, 12), (2, 127), (3, 144), (4, 5), (5, 5), (6, 145), (7, 146), (8, 124), (9, 147), (10, 148)], 11, 48, [.int .u64 0, .int .u64 0, .int .u32 0, .int .u8 0, .int .u8 0, .int .u8 0, .int .u8 0, .nilf, .nilp, .int .i32 0, .int .i32 0], none, false⟩ (.nd 148 ⟨.int .i32, 1, 4, [.int .i32 0], none, false⟩ .lf .lf) (.nd 150 ⟨.struct [(0, 12), (1, 12), (2, 127), (3, 144), (4, 5), (5, 5), (6, 145), (7, 146), (8, 124), (9, 147), (10, 148)], 11, 48, [.int .u64 0, .int .u64 0, .int .u32 0, .int .u8 0, .int .u8 0, .int .u8 0, .int .u8 0, .nilf, .nilp, .int .i32 0, .int .i32 0], none, false⟩ .lf .lf)))))))
abbrev OK (n : Nat) (S : Sem1) : Prop := SemOK Tryz.prog Ly n S
def AN : Anns := ⟨.lf, .lf, []⟩
theorem tok : TOK Tryz.prog TT := by unfold TOK; kernel_rfl
theorem eqs : EqAgg Tryz.prog TT := eqTab_ok (by kernel_rfl)
theorem mix : Tryz.prog.follows .mixedOrders = true := by kernel_rfl
def g0 : Sig := ⟨⟨numD 0 [.int .i64, .int .i64, .int .i64], [], []⟩, .one (.bool), [], [], false, false, [], []⟩
theorem k0 x : g0.den Tr.lf TT AN F Tryz.f18 x = S_spec_l01In x := by kernel_rfl
theorem o0 : OK 18 (g0.sem S_spec_l01In) := typed_ok2 ⟨tok, eqs, Tr.All.get (t := Tr.lf) trivial, mix⟩ Tryz.func18 (by kernel_rfl) (by kernel_rfl) g0 rfl _ k0
def g1 : Sig := ⟨⟨numD 0 [.konst (.ptr 0 0), .int .i64], [B8], []⟩, .tup [], [B8], [(0, 4, 5)], false, false, [], []⟩
theorem k1 x : g1.den Tr.lf TT AN F Tryz.f56 x = S_spec_l04In_fail x := by kernel_rfl
theorem o1 : OK 56 (g1.sem S_spec_l04In_fail) := typed_ok2 ⟨tok, eqs, Tr.All.get (t := Tr.lf) trivial, mix⟩ Tryz.func56 (by kernel_rfl) (by kernel_rfl) g1 rfl _ k1
def g2 : Sig := ⟨⟨numD 0 [.str, .int .i64, .int .i64], [], []⟩, .one (.int .i64), [], [], false, false, [], []⟩
def A2 : Anns := ⟨(.nd 0 (.loop ⟨[(0, .str), (1, (.int .i64)), (7, (.int .u64)), (8, (.int .i64))], [], []⟩) .lf .lf), .lf, []⟩
theorem k2 x : g2.den Tr.lf TT A2 F Tryz.f136 x = S_spec_l01Take x := by kernel_rfl
theorem o2 : OK 136 (g2.sem S_spec_l01Take) := typed_ok2 ⟨tok, eqs, Tr.All.get (t := Tr.lf) trivial, mix⟩ Tryz.func136 (by kernel_rfl) (by kernel_rfl) g2 rfl _ k2
def g3 : Sig := ⟨⟨numD 0 [.int .i64, .int .i64], [], []⟩, .one (.int .i64), [], [], false, false, [], []⟩
theorem k3 x : g3.den Tr.lf TT AN F Tryz.f97 x = S_spec_l01Bit x := by kernel_rfl
theorem o3 : OK 97 (g3.sem S_spec_l01Bit) := typed_ok2 ⟨tok, eqs, Tr.All.get (t := Tr.lf) trivial, mix⟩ Tryz.func97 (by kernel_rfl) (by kernel_rfl) g3 rfl _ k3
def g4 : Sig := ⟨⟨numD 0 [.int .i64, .int .i64], [], []⟩, .one (.int .i64), [], [], false, false, [], []⟩
def E4 : Tr Sem1 := (.nd 97 (g3.sem S_spec_l01Bit) .lf .lf)
def A4 : Anns := ⟨(.nd 0 (.loop ⟨[(0, (.int .i64)), (1, (.int .i64)), (5, (.int .u64)), (6, (.int .i64))], [], []⟩) .lf .lf), .lf, []⟩
theorem k4 x : g4.den E4 TT A4 F Tryz.f121 x = S_spec_l01Sign x := by kernel_rfl
theorem o4 : OK 121 (g4.sem S_spec_l01Sign) := typed_ok2 ⟨tok, eqs, Tr.All.get (t := E4) ⟨o3, trivial, trivial⟩, mix⟩ Tryz.func121 (by kernel_rfl) (by kernel_rfl) g4 rfl _ k4
def g5 : Sig := ⟨⟨numD 0 [.konst (.ptr 0 0), .int .i64], [B8], []⟩, .one (.int .i64), [B8], [(0, 1, 2), (0, 4, 5)], false, false, [], []⟩
def E5 : Tr Sem1 := (.nd 121 (g4.sem S_spec_l01Sign) (.nd 56 (g1.sem S_spec_l04In_fail) .lf .lf) (.nd 136 (g2.sem S_spec_l01Take) .lf .lf))
theorem k5 x : g5.den E5 TT AN F Tryz.f96 x = S_spec_l04In_number x := by kernel_rfl
theorem o5 : OK 96 (g5.sem S_spec_l04In_number) := typed_ok2 ⟨tok, eqs, Tr.All.get (t := E5) ⟨o4, ⟨o1, trivial, trivial⟩, ⟨o2, trivial, trivial⟩⟩, mix⟩ Tryz.func96 (by kernel_rfl) (by kernel_rfl) g5 rfl _ k5
def g6 : Sig := ⟨⟨numD 0 [.int .i64, .int .i64], [], []⟩, .one (.int .i64), [], [], false, false, [], []⟩
def E6 : Tr Sem1 := (.nd 97 (g3.sem S_spec_l01Bit) .lf .lf)
def A6 : Anns := ⟨(.nd 0 (.loop ⟨[(0, (.int .i64)), (5, (.int .u64)), (6, (.int .i64))], [], []⟩) .lf .lf), .lf, []⟩
theorem k6 x : g6.den E6 TT A6 F Tryz.f95 x = S_spec_l01Zero x := by kernel_rfl
theorem o6 : OK 95 (g6.sem S_spec_l01Zero) := typed_ok2 ⟨tok, eqs, Tr.All.get (t := E6) ⟨o3, trivial, trivial⟩, mix⟩ Tryz.func95 (by kernel_rfl) (by kernel_rfl) g6 rfl _ k6
def g7 : Sig := ⟨⟨numD 0 [.konst (.ptr 0 0)], [B8], []⟩, .one (.int .i64), [B8], [(0, 1, 2), (0, 4, 5)], false, false, [], []⟩
def E7 : Tr Sem1 := (.nd 96 (g5.sem S_spec_l04In_number) (.nd 95 (g6.sem S_spec_l01Zero) .lf .lf) .lf)
theorem k7 x : g7.den E7 TT AN F Tryz.f54 x = S_spec_l04In_byte x := by kernel_rfl
theorem o7 : OK 54 (g7.sem S_spec_l04In_byte) := typed_ok2 ⟨tok, eqs, Tr.All.get (t := E7) ⟨o5, ⟨o6, trivial, trivial⟩, trivial⟩, mix⟩ Tryz.func54 (by kernel_rfl) (by kernel_rfl) g7 rfl _ k7
def g8 : Sig := ⟨⟨numD 0 [.int .i64], [], []⟩, .one (.bool), [], [], false, false, [], []⟩
def A8 : Anns := ⟨.lf, (.nd 8 ⟨[(4, .bool)], [], []⟩ .lf .lf), []⟩
theorem k8 x : g8.den Tr.lf TT A8 F Tryz.f93 x = S_spec_l04Prefix x := by kernel_rfl
theorem o8 : OK 93 (g8.sem S_spec_l04Prefix) := typed_ok2 ⟨tok, eqs, Tr.All.get (t := Tr.lf) trivial, mix⟩ Tryz.func93 (by kernel_rfl) (by kernel_rfl) g8 rfl _ k8
def g9 : Sig := ⟨⟨numD 0 [.int .i64], [], []⟩, .one (V7), [], [], false, false, [], []⟩
def E9 : Tr Sem1 := (.nd 18 (g0.sem S_spec_l01In) .lf .lf)
theorem k9 x : g9.den E9 TT AN F Tryz.f134 x = S_spec_l03Second x := by kernel_rfl
theorem o9 : OK 134 (g9.sem S_spec_l03Second) := typed_ok2 ⟨tok, eqs, Tr.All.get (t := E9) ⟨o0, trivial, trivial⟩, mix⟩ Tryz.func134 (by kernel_rfl) (by kernel_rfl) g9 rfl _ k9
def g10 : Sig := ⟨⟨numD 0 [.int .i64], [], []⟩, .one (V7), [], [], false, false, [], []⟩
def E10 : Tr Sem1 := (.nd 18 (g0.sem S_spec_l01In) .lf .lf)
def A10 : Anns := ⟨.lf, (.nd 192 ⟨[(2, (.konst (.ptr 0 0))), (3, .bool), (40, (.int .i64)), (96, .bool)], [(B5)], []⟩ (.nd 126 ⟨[(2, (.konst (.ptr 0 0))), (3, .bool), (40, (.int .i64)), (63, .bool)], [(B5)], []⟩ (.nd 116 ⟨[(2, (.konst (.ptr 0 0))), (3, .bool), (40, (.int .i64)), (58, .bool)], [(B5)], []⟩ (.nd 100 ⟨[(2, (.konst (.ptr 0 0))), (3, .bool), (40, (.int .i64)), (50, .bool)], [(B5)], []⟩ .lf .lf) .lf) (.nd 146 ⟨[(2, (.konst (.ptr 0 0))), (3, .bool), (40, (.int .i64)), (73, .bool)], [(B5)], []⟩ (.nd 136 ⟨[(2, (.konst (.ptr 0 0))), (3, .bool), (40, (.int .i64)), (68, .bool)], [(B5)], []⟩ .lf .lf) .lf)) (.nd 240 ⟨[(2, (.konst (.ptr 0 0))), (3, .bool), (40, (.int .i64)), (120, .bool)], [(B5)], []⟩ (.nd 224 ⟨[(2, (.konst (.ptr 0 0))), (3, .bool), (40, (.int .i64)), (112, .bool)], [(B5)], []⟩ (.nd 208 ⟨[(2, (.konst (.ptr 0 0))), (3, .bool), (40, (.int .i64)), (104, .bool)], [(B5)], []⟩ .lf .lf) .lf) (.nd 284 ⟨[(2, (.konst (.ptr 0 0))), (3, .bool), (40, (.int .i64)), (142, .bool)], [(B5)], []⟩ (.nd 250 ⟨[(2, (.konst (.ptr 0 0))), (3, .bool), (40, (.int .i64)), (125, .bool)], [(B5)], []⟩ .lf .lf) .lf))), []⟩
theorem k10 x : g10.den E10 TT A10 F Tryz.f135 x = S_spec_l03First x := by kernel_rfl
theorem o10 : OK 135 (g10.sem S_spec_l03First) := typed_ok2 ⟨tok, eqs, Tr.All.get (t := E10) ⟨o0, trivial, trivial⟩, mix⟩ Tryz.func135 (by kernel_rfl) (by kernel_rfl) g10 rfl _ k10
def g11 : Sig := ⟨⟨numD 0 [.bool, .int .i64], [], []⟩, .one (V7), [], [], false, false, [], []⟩
def E11 : Tr Sem1 := (.nd 135 (g10.sem S_spec_l03First) (.nd 134 (g9.sem S_spec_l03Second) .lf .lf) .lf)
theorem k11 x : g11.den E11 TT AN F Tryz.f94 x = S_spec_l03Shape x := by kernel_rfl
theorem o11 : OK 94 (g11.sem S_spec_l03Shape) := typed_ok2 ⟨tok, eqs, Tr.All.get (t := E11) ⟨o10, ⟨o9, trivial, trivial⟩, trivial⟩, mix⟩ Tryz.func94 (by kernel_rfl) (by kernel_rfl) g11 rfl _ k11
def g12 : Sig := ⟨⟨numD 0 [.konst (.ptr 0 0)], [B8], []⟩, .tup [V7, .int .i64], [B8], [(0, 1, 5)], false, false, [], []⟩
def E12 : Tr Sem1 := (.nd 93 (g8.sem S_spec_l04Prefix) (.nd 56 (g1.sem S_spec_l04In_fail) (.nd 54 (g7.sem S_spec_l04In_byte) .lf .lf) .lf) (.nd 94 (g11.sem S_spec_l03Shape) .lf .lf))
def A12 : Anns := ⟨(.nd 0 (.loop ⟨[(0, (.konst (.ptr 0 0))), (2, (.konst (.ptr 1 0))), (4, (.int .i64))], [(B6), (B5)], []⟩) .lf .lf), (.nd 124 ⟨[(0, (.konst (.ptr 0 0))), (2, (.konst (.ptr 1 0))), (4, (.int .i64)), (5, .bool)], [(B6), (B5)], []⟩ (.nd 92 ⟨[(0, (.konst (.ptr 0 0))), (2, (.konst (.ptr 1 0))), (4, (.int .i64))], [(B6), (B5)], []⟩ (.nd 58 ⟨[(0, (.konst (.ptr 0 0))), (2, (.konst (.ptr 1 0)))], [(B6), (B5)], []⟩ .lf .lf) .lf) (.nd 140 ⟨[(2, (.konst (.ptr 1 0))), (4, (.int .i64)), (6, (.konst (.ptr 2 0)))], [(B6), (B5), (B5)], []⟩ .lf .lf)), []⟩
theorem k12 x : g12.den E12 TT A12 F Tryz.f52 x = S_spec_l04In_head x := by kernel_rfl
theorem o12 : OK 52 (g12.sem S_spec_l04In_head) := typed_ok2 ⟨tok, eqs, Tr.All.get (t := E12) ⟨o8, ⟨o1, ⟨o7, trivial, trivial⟩, trivial⟩, ⟨o11, trivial, trivial⟩⟩, mix⟩ Tryz.func52 (by kernel_rfl) (by kernel_rfl) g12 rfl _ k12
def g13 : Sig := ⟨⟨numD 0 [.int .i64], [], []⟩, .one (.bool), [], [], false, false, [], []⟩
def A13 : Anns := ⟨.lf, (.nd 8 ⟨[(4, .bool)], [], []⟩ .lf .lf), []⟩
theorem k13 x : g13.den Tr.lf TT A13 F Tryz.f53 x = S_spec_l04HasModRM x := by kernel_rfl
theorem o13 : OK 53 (g13.sem S_spec_l04HasModRM) := typed_ok2 ⟨tok, eqs, Tr.All.get (t := Tr.lf) trivial, mix⟩ Tryz.func53 (by kernel_rfl) (by kernel_rfl) g13 rfl _ k13
def g14 : Sig := ⟨⟨numD 0 [.int .i64, .int .i64], [], []⟩, .one (.int .i64), [], [], false, false, [], []⟩
theorem k14 x : g14.den Tr.lf TT AN F Tryz.f55 x = S_spec_l03Group x := by kernel_rfl
theorem o14 : OK 55 (g14.sem S_spec_l03Group) := typed_ok2 ⟨tok, eqs, Tr.All.get (t := Tr.lf) trivial, mix⟩ Tryz.func55 (by kernel_rfl) (by kernel_rfl) g14 rfl _ k14
def g15 : Sig := ⟨⟨numD 0 [.konst (.ptr 0 0), V7, .int .i64], [B8], []⟩, .one (.int .i64), [B8], [], false, false, [], []⟩
def E15 : Tr Sem1 := (.nd 97 (g3.sem S_spec_l01Bit) .lf .lf)
def A15 : Anns := ⟨.lf, (.nd 26 ⟨[(0, (.konst (.ptr 0 0))), (4, (.konst (.ptr 1 0))), (13, .bool)], [(B6), (B5)], []⟩ (.nd 16 ⟨[(0, (.konst (.ptr 0 0))), (4, (.konst (.ptr 1 0))), (7, (.int .i64)), (8, .bool)], [(B6), (B5)], []⟩ .lf .lf) .lf), []⟩
theorem k15 x : g15.den E15 TT A15 F Tryz.f57 x = S_spec_l04In_size x := by kernel_rfl
theorem o15 : OK 57 (g15.sem S_spec_l04In_size) := typed_ok2 ⟨tok, eqs, Tr.All.get (t := E15) ⟨o3, trivial, trivial⟩, mix⟩ Tryz.func57 (by kernel_rfl) (by kernel_rfl) g15 rfl _ k15
def g16 : Sig := ⟨⟨numD 0 [V7, .int .i64], [], []⟩, .one (.bool), [], [], false, false, [], []⟩
def A16 : Anns := ⟨.lf, (.nd 12 ⟨[(2, (.konst (.ptr 0 0))), (6, .bool)], [(B5)], []⟩ .lf .lf), []⟩
theorem k16 x : g16.den Tr.lf TT A16 F Tryz.f98 x = S_spec_l04Wide x := by kernel_rfl
theorem o16 : OK 98 (g16.sem S_spec_l04Wide) := typed_ok2 ⟨tok, eqs, Tr.All.get (t := Tr.lf) trivial, mix⟩ Tryz.func98 (by kernel_rfl) (by kernel_rfl) g16 rfl _ k16
def g17 : Sig := ⟨⟨numD 0 [.el .ins, V7, .bool], [], []⟩, .one (.bool), [], [], false, false, [], []⟩
def E17 : Tr Sem1 := (.nd 98 (g16.sem S_spec_l04Wide) .lf .lf)
theorem k17 x : g17.den E17 TT AN F Tryz.f58 x = S_spec_l04Suits x := by kernel_rfl
theorem o17 : OK 58 (g17.sem S_spec_l04Suits) := typed_ok2 ⟨tok, eqs, Tr.All.get (t := E17) ⟨o16, trivial, trivial⟩, mix⟩ Tryz.func58 (by kernel_rfl) (by kernel_rfl) g17 rfl _ k17
def g18 : Sig := ⟨⟨numD 0 [.konst (.ptr 0 0), .int .i64], [B8], []⟩, .one (.int .i64), [B8], [], false, false, [], []⟩
def E18 : Tr Sem1 := (.nd 97 (g3.sem S_spec_l01Bit) .lf .lf)
theorem k18 x : g18.den E18 TT AN F Tryz.f100 x = S_spec_l04In_ext x := by kernel_rfl
theorem o18 : OK 100 (g18.sem S_spec_l04In_ext) := typed_ok2 ⟨tok, eqs, Tr.All.get (t := E18) ⟨o3, trivial, trivial⟩, mix⟩ Tryz.func100 (by kernel_rfl) (by kernel_rfl) g18 rfl _ k18
def g19 : Sig := ⟨⟨numD 0 [.konst (.ptr 0 0), .int .i64, .int .i64], [B8], []⟩, .one (V4), [B8], [], false, false, [], []⟩
def A19 : Anns := ⟨.lf, (.nd 38 ⟨[(1, (.int .i64)), (6, (.konst (.ptr 1 0)))], [(B6), (B3)], []⟩ .lf .lf), []⟩
theorem k19 x : g19.den Tr.lf TT A19 F Tryz.f99 x = S_spec_l04In_reg x := by kernel_rfl
theorem o19 : OK 99 (g19.sem S_spec_l04In_reg) := typed_ok2 ⟨tok, eqs, Tr.All.get (t := Tr.lf) trivial, mix⟩ Tryz.func99 (by kernel_rfl) (by kernel_rfl) g19 rfl _ k19
def g20 : Sig := ⟨⟨numD 0 [.konst (.ptr 0 0), .int .i64, .int .i64], [B8], []⟩, .one (V4), [B8], [(0, 1, 2), (0, 4, 5)], false, false, [], []⟩
def E20 : Tr Sem1 := (.nd 96 (g5.sem S_spec_l04In_number) (.nd 54 (g7.sem S_spec_l04In_byte) .lf .lf) (.nd 100 (g18.sem S_spec_l04In_ext) .lf .lf))
def A20 : Anns := ⟨.lf, (.nd 92 ⟨[(0, (.konst (.ptr 0 0))), (1, (.int .i64)), (6, (.konst (.ptr 1 0))), (7, (.konst (.ptr 2 0)))], [(B6), (B3), (B3)], []⟩ (.nd 64 ⟨[(0, (.konst (.ptr 0 0))), (1, (.int .i64)), (6, (.konst (.ptr 1 0))), (7, (.konst (.ptr 2 0))), (8, (.int .i64))], [(B6), (B3), (B3)], []⟩ (.nd 33 ⟨[(0, (.konst (.ptr 0 0))), (1, (.int .i64)), (6, (.konst (.ptr 1 0))), (7, (.konst (.ptr 2 0)))], [(B6), (B3), (B3)], []⟩ .lf .lf) .lf) (.nd 124 ⟨[(0, (.konst (.ptr 0 0))), (1, (.int .i64)), (6, (.konst (.ptr 1 0))), (7, (.konst (.ptr 2 0)))], [(B6), (B3), (B3)], []⟩ (.nd 112 ⟨[(0, (.konst (.ptr 0 0))), (1, (.int .i64)), (6, (.konst (.ptr 1 0))), (7, (.konst (.ptr 2 0)))], [(B6), (B3), (B3)], []⟩ .lf .lf) .lf)), []⟩
theorem k20 x : g20.den E20 TT A20 F Tryz.f101 x = S_spec_l04In_memory x := by kernel_rfl
theorem o20 : OK 101 (g20.sem S_spec_l04In_memory) := typed_ok2 ⟨tok, eqs, Tr.All.get (t := E20) ⟨o5, ⟨o7, trivial, trivial⟩, ⟨o18, trivial, trivial⟩⟩, mix⟩ Tryz.func101 (by kernel_rfl) (by kernel_rfl) g20 rfl _ k20
def g21 : Sig := ⟨⟨numD 0 [.konst (.ptr 0 0), .int .i64], [B8], []⟩, .one (V4), [B8], [(0, 1, 2), (0, 4, 5)], false, false, [], []⟩
def E21 : Tr Sem1 := (.nd 96 (g5.sem S_spec_l04In_number) .lf .lf)
theorem k21 x : g21.den E21 TT AN F Tryz.f102 x = S_spec_l04In_imm x := by kernel_rfl
theorem o21 : OK 102 (g21.sem S_spec_l04In_imm) := typed_ok2 ⟨tok, eqs, Tr.All.get (t := E21) ⟨o5, trivial, trivial⟩, mix⟩ Tryz.func102 (by kernel_rfl) (by kernel_rfl) g21 rfl _ k21
def g22 : Sig := ⟨⟨numD 0 [.el .ins, V4], [], []⟩, .one (.el .ins), [], [], false, false, [], []⟩
def A22 : Anns := ⟨.lf, (.nd 14 ⟨[(2, (.konst (.ptr 0 0))), (3, (.konst (.ptr 1 0))), (4, (.konst (.ptr 2 0))), (7, .bool)], [(B2), (B3), (B2)], []⟩ .lf .lf), []⟩
theorem k22 x : g22.den Tr.lf TT A22 F Tryz.f103 x = S_spec_l04One x := by kernel_rfl
theorem o22 : OK 103 (g22.sem S_spec_l04One) := typed_ok2 ⟨tok, eqs, Tr.All.get (t := Tr.lf) trivial, mix⟩ Tryz.func103 (by kernel_rfl) (by kernel_rfl) g22 rfl _ k22
def g23 : Sig := ⟨⟨numD 0 [.konst (.ptr 0 0), .el .ins, V7, .int .i64], [B8], []⟩, .one (.el .ins), [B8], [(0, 1, 2), (0, 4, 5)], false, false, [], []⟩
def E23 : Tr Sem1 := (.nd 101 (g20.sem S_spec_l04In_memory) (.nd 99 (g19.sem S_spec_l04In_reg) (.nd 54 (g7.sem S_spec_l04In_byte) .lf .lf) (.nd 100 (g18.sem S_spec_l04In_ext) .lf .lf)) (.nd 103 (g22.sem S_spec_l04One) (.nd 102 (g21.sem S_spec_l04In_imm) .lf .lf) .lf))
def A23 : Anns := ⟨.lf, (.nd 65 ⟨[(0, (.konst (.ptr 0 0))), (5, (.konst (.ptr 1 0))), (6, (.konst (.ptr 2 0))), (8, (.konst (.ptr 3 0))), (10, (.konst (.ptr 4 0))), (11, (.konst (.ptr 5 0)))], [(B6), (B2), (B5), (B2), (B3), (B3)], []⟩ (.nd 32 ⟨[(0, (.konst (.ptr 0 0))), (3, (.int .i64)), (5, (.konst (.ptr 1 0))), (6, (.konst (.ptr 2 0))), (8, (.konst (.ptr 3 0))), (9, (.int .i64))], [(B6), (B2), (B5), (B2)], []⟩ .lf .lf) (.nd 132 ⟨[(0, (.konst (.ptr 0 0))), (5, (.konst (.ptr 1 0))), (8, (.konst (.ptr 2 0))), (10, (.konst (.ptr 3 0))), (11, (.konst (.ptr 4 0))), (48, (.int .i64)), (66, .bool)], [(B6), (B2), (B2), (B3), (B3)], []⟩ .lf .lf)), []⟩
theorem k23 x : g23.den E23 TT A23 F Tryz.f59 x = S_spec_l04In_modrm x := by kernel_rfl
theorem o23 : OK 59 (g23.sem S_spec_l04In_modrm) := typed_ok2 ⟨tok, eqs, Tr.All.get (t := E23) ⟨o20, ⟨o19, ⟨o7, trivial, trivial⟩, ⟨o18, trivial, trivial⟩⟩, ⟨o22, ⟨o21, trivial, trivial⟩, trivial⟩⟩, mix⟩ Tryz.func59 (by kernel_rfl) (by kernel_rfl) g23 rfl _ k23
def g24 : Sig := ⟨⟨numD 0 [.konst (.ptr 0 0), .el .ins, V7, .int .i64], [B8], []⟩, .one (.el .ins), [B8], [(0, 1, 2), (0, 4, 5)], false, false, [], []⟩
def E24 : Tr Sem1 := (.nd 99 (g19.sem S_spec_l04In_reg) (.nd 96 (g5.sem S_spec_l04In_number) (.nd 95 (g6.sem S_spec_l01Zero) .lf .lf) .lf) (.nd 102 (g21.sem S_spec_l04In_imm) (.nd 100 (g18.sem S_spec_l04In_ext) .lf .lf) .lf))
def A24 : Anns := ⟨.lf, (.nd 118 ⟨[(0, (.konst (.ptr 0 0))), (5, (.konst (.ptr 1 0))), (8, (.konst (.ptr 2 0))), (11, (.int .i64)), (59, .bool)], [(B6), (B2), (B2)], []⟩ .lf .lf), []⟩
theorem k24 x : g24.den E24 TT A24 F Tryz.f60 x = S_spec_l04In_plain x := by kernel_rfl
theorem o24 : OK 60 (g24.sem S_spec_l04In_plain) := typed_ok2 ⟨tok, eqs, Tr.All.get (t := E24) ⟨o19, ⟨o5, ⟨o6, trivial, trivial⟩, trivial⟩, ⟨o21, ⟨o18, trivial, trivial⟩, trivial⟩⟩, mix⟩ Tryz.func60 (by kernel_rfl) (by kernel_rfl) g24 rfl _ k24
def g25 : Sig := ⟨⟨numD 0 [.str, .int .i64], [], []⟩, .tup [.el .ins, .int .i64], [], [], false, false, [], []⟩
def E25 : Tr Sem1 := (.nd 56 (g1.sem S_spec_l04In_fail) (.nd 54 (g7.sem S_spec_l04In_byte) (.nd 53 (g13.sem S_spec_l04HasModRM) (.nd 52 (g12.sem S_spec_l04In_head) .lf .lf) .lf) (.nd 55 (g14.sem S_spec_l03Group) .lf .lf)) (.nd 59 (g23.sem S_spec_l04In_modrm) (.nd 58 (g17.sem S_spec_l04Suits) (.nd 57 (g15.sem S_spec_l04In_size) .lf .lf) .lf) (.nd 60 (g24.sem S_spec_l04In_plain) .lf .lf)))
def A25 : Anns := ⟨.lf, (.nd 118 ⟨[(1, (.int .i64)), (4, (.konst (.ptr 0 0))), (6, (.konst (.ptr 1 0))), (7, (.konst (.ptr 2 0))), (8, (.int .i64)), (9, (.konst (.ptr 3 0))), (10, (.int .i64))], [(B2), (B6), (B5), (B2)], []⟩ (.nd 98 ⟨[(1, (.int .i64)), (4, (.konst (.ptr 0 0))), (6, (.konst (.ptr 1 0))), (7, (.konst (.ptr 2 0))), (8, (.int .i64)), (9, (.konst (.ptr 3 0))), (10, (.int .i64))], [(B2), (B6), (B5), (B2)], []⟩ (.nd 74 ⟨[(1, (.int .i64)), (4, (.konst (.ptr 0 0))), (6, (.konst (.ptr 1 0))), (7, (.konst (.ptr 2 0))), (8, (.int .i64)), (9, (.konst (.ptr 3 0))), (10, (.int .i64))], [(B2), (B6), (B5), (B2)], []⟩ .lf .lf) .lf) (.nd 229 ⟨[(1, (.int .i64)), (4, (.konst (.ptr 0 0))), (6, (.konst (.ptr 1 0))), (9, (.konst (.ptr 2 0)))], [(B2), (B6), (B2)], []⟩ (.nd 216 ⟨[(1, (.int .i64)), (4, (.konst (.ptr 0 0))), (6, (.konst (.ptr 1 0))), (7, (.konst (.ptr 2 0))), (8, (.int .i64)), (9, (.konst (.ptr 3 0))), (10, (.int .i64))], [(B2), (B6), (B5), (B2)], []⟩ .lf .lf) .lf)), []⟩
theorem k25 x : g25.den E25 TT A25 F Tryz.f19 x = S_spec_l04Decode x := by kernel_rfl
theorem o25 : OK 19 (g25.sem S_spec_l04Decode) := typed_ok2 ⟨tok, eqs, Tr.All.get (t := E25) ⟨o1, ⟨o7, ⟨o13, ⟨o12, trivial, trivial⟩, trivial⟩, ⟨o14, trivial, trivial⟩⟩, ⟨o23, ⟨o17, ⟨o15, trivial, trivial⟩, trivial⟩, ⟨o24, trivial, trivial⟩⟩⟩, mix⟩ Tryz.func19 (by kernel_rfl) (by kernel_rfl) g25 rfl _ k25
def g26 : Sig := ⟨⟨numD 0 [.int .i64], [], []⟩, .one (.str), [], [], false, false, [], []⟩
def E26 (n0 : Nat) : Tr Sem1 := (.nd 20 (g26.sem (RS_spec_l00Digits n0)) .lf .lf)
theorem k26 n0 x : g26.den (E26 n0) TT AN F Tryz.f20 x = RS_spec_l00Digits (n0 + 1) x := by kernel_rfl
theorem r26 : ∀ n0, OK 20 (g26.sem (RS_spec_l00Digits n0))
  | 0 => sem_none g26 (RS_spec_l00Digits 0) (fun _ => rfl)
  | n0 + 1 => typed_ok2 ⟨tok, eqs, Tr.All.get (t := E26 n0) ⟨(r26 n0), trivial, trivial⟩, mix⟩ Tryz.func20 (by kernel_rfl) (by kernel_rfl) g26 rfl _ (k26 n0)
theorem o26 : OK 20 (g26.sem S_spec_l00Digits) := r26 100
def g27 : Sig := ⟨⟨numD 0 [.int .i64], [], []⟩, .one (.str), [], [], false, false, [], []⟩
theorem k27 x : g27.den Tr.lf TT AN F Tryz.f21 x = S_spec_CodeWord x := by kernel_rfl
theorem o27 : OK 21 (g27.sem S_spec_CodeWord) := typed_ok2 ⟨tok, eqs, Tr.All.get (t := Tr.lf) trivial, mix⟩ Tryz.func21 (by kernel_rfl) (by kernel_rfl) g27 rfl _ k27
def g28 : Sig := ⟨⟨numD 0 [.str], [], []⟩, .one (.str), [], [], false, false, [], []⟩
def A28 : Anns := ⟨(.nd 0 (.loop ⟨[(0, .str), (3, (.konst (.vec 0))), (4, (.int .i64))], [(.row .u)], []⟩) .lf .lf), .lf, []⟩
theorem k28 x : g28.den Tr.lf TT A28 F Tryz.f22 x = S_spec_l01Hex x := by kernel_rfl
theorem o28 : OK 22 (g28.sem S_spec_l01Hex) := typed_ok2 ⟨tok, eqs, Tr.All.get (t := Tr.lf) trivial, mix⟩ Tryz.func22 (by kernel_rfl) (by kernel_rfl) g28 rfl _ k28
def g29 : Sig := ⟨⟨numD 0 [], [], []⟩, .one (.list .s), [], [], false, false, [], []⟩
theorem k29 x : g29.den Tr.lf TT AN F Tryz.f122 x = S_spec_l03Conds x := by kernel_rfl
theorem o29 : OK 122 (g29.sem S_spec_l03Conds) := typed_ok2 ⟨tok, eqs, Tr.All.get (t := Tr.lf) trivial, mix⟩ Tryz.func122 (by kernel_rfl) (by kernel_rfl) g29 rfl _ k29
def g30 : Sig := ⟨⟨numD 0 [.int .i64], [], []⟩, .one (.str), [], [], false, false, [], []⟩
def E30 : Tr Sem1 := (.nd 122 (g29.sem S_spec_l03Conds) (.nd 18 (g0.sem S_spec_l01In) .lf .lf) .lf)
theorem k30 x : g30.den E30 TT AN F Tryz.f72 x = S_spec_CondName x := by kernel_rfl
theorem o30 : OK 72 (g30.sem S_spec_CondName) := typed_ok2 ⟨tok, eqs, Tr.All.get (t := E30) ⟨o29, ⟨o0, trivial, trivial⟩, trivial⟩, mix⟩ Tryz.func72 (by kernel_rfl) (by kernel_rfl) g30 rfl _ k30
def g31 : Sig := ⟨⟨numD 0 [.int .i64], [], []⟩, .one (.bool), [], [], false, false, [], []⟩
def E31 : Tr Sem1 := (.nd 18 (g0.sem S_spec_l01In) .lf .lf)
theorem k31 x : g31.den E31 TT AN F Tryz.f29 x = S_spec_l03Op x := by kernel_rfl
theorem o31 : OK 29 (g31.sem S_spec_l03Op) := typed_ok2 ⟨tok, eqs, Tr.All.get (t := E31) ⟨o0, trivial, trivial⟩, mix⟩ Tryz.func29 (by kernel_rfl) (by kernel_rfl) g31 rfl _ k31
def g32 : Sig := ⟨⟨numD 0 [], [], []⟩, .one (.list .s), [], [], false, false, [], []⟩
theorem k32 x : g32.den Tr.lf TT AN F Tryz.f123 x = S_spec_l03Names x := by kernel_rfl
theorem o32 : OK 123 (g32.sem S_spec_l03Names) := typed_ok2 ⟨tok, eqs, Tr.All.get (t := Tr.lf) trivial, mix⟩ Tryz.func123 (by kernel_rfl) (by kernel_rfl) g32 rfl _ k32
def g33 : Sig := ⟨⟨numD 0 [.int .i64], [], []⟩, .one (.str), [], [], false, false, [], []⟩
def E33 : Tr Sem1 := (.nd 123 (g32.sem S_spec_l03Names) (.nd 29 (g31.sem S_spec_l03Op) .lf .lf) .lf)
theorem k33 x : g33.den E33 TT AN F Tryz.f73 x = S_spec_OpName x := by kernel_rfl
theorem o33 : OK 73 (g33.sem S_spec_OpName) := typed_ok2 ⟨tok, eqs, Tr.All.get (t := E33) ⟨o32, ⟨o31, trivial, trivial⟩, trivial⟩, mix⟩ Tryz.func73 (by kernel_rfl) (by kernel_rfl) g33 rfl _ k33
def g34 : Sig := ⟨⟨numD 0 [.int .i64], [], []⟩, .one (.str), [], [], false, false, [], []⟩
theorem k34 x : g34.den Tr.lf TT AN F Tryz.f74 x = S_spec_l16Size x := by kernel_rfl
theorem o34 : OK 74 (g34.sem S_spec_l16Size) := typed_ok2 ⟨tok, eqs, Tr.All.get (t := Tr.lf) trivial, mix⟩ Tryz.func74 (by kernel_rfl) (by kernel_rfl) g34 rfl _ k34
def g35 : Sig := ⟨⟨numD 0 [.el .ins], [], []⟩, .one (.str), [], [], false, false, [], []⟩
def E35 : Tr Sem1 := (.nd 73 (g33.sem S_spec_OpName) (.nd 72 (g30.sem S_spec_CondName) .lf .lf) (.nd 74 (g34.sem S_spec_l16Size) .lf .lf))
def A35 : Anns := ⟨.lf, (.nd 46 ⟨[(1, (.konst (.ptr 0 0))), (23, .bool)], [(B2)], []⟩ .lf .lf), []⟩
theorem k35 x : g35.den E35 TT A35 F Tryz.f35 x = S_spec_l16Name x := by kernel_rfl
theorem o35 : OK 35 (g35.sem S_spec_l16Name) := typed_ok2 ⟨tok, eqs, Tr.All.get (t := E35) ⟨o33, ⟨o30, trivial, trivial⟩, ⟨o34, trivial, trivial⟩⟩, mix⟩ Tryz.func35 (by kernel_rfl) (by kernel_rfl) g35 rfl _ k35
def g36 : Sig := ⟨⟨numD 0 [.el .ins], [], []⟩, .one (.int .i64), [], [], false, false, [], []⟩
theorem k36 x : g36.den Tr.lf TT AN F Tryz.f36 x = S_spec_l05From x := by kernel_rfl
theorem o36 : OK 36 (g36.sem S_spec_l05From) := typed_ok2 ⟨tok, eqs, Tr.All.get (t := Tr.lf) trivial, mix⟩ Tryz.func36 (by kernel_rfl) (by kernel_rfl) g36 rfl _ k36
def g37 : Sig := ⟨⟨numD 0 [.int .i64], [], []⟩, .one (.bool), [], [], false, false, [], []⟩
theorem k37 x : g37.den Tr.lf TT AN F Tryz.f69 x = S_spec_l01Size x := by kernel_rfl
theorem o37 : OK 69 (g37.sem S_spec_l01Size) := typed_ok2 ⟨tok, eqs, Tr.All.get (t := Tr.lf) trivial, mix⟩ Tryz.func69 (by kernel_rfl) (by kernel_rfl) g37 rfl _ k37
def g38 : Sig := ⟨⟨numD 0 [.int .i64], [], []⟩, .one (.list .s), [], [], false, false, [], []⟩
def E38 : Tr Sem1 := (.nd 20 (g26.sem S_spec_l00Digits) .lf .lf)
def A38 : Anns := ⟨(.nd 3 (.loop ⟨[(0, (.int .i64)), (3, (.konst (.vec 0))), (5, (.int .i64))], [(.row .s)], []⟩) (.nd 0 (.loop ⟨[(0, (.int .i64)), (3, (.konst (.vec 0))), (4, (.int .i64))], [(.row .s)], []⟩) .lf .lf) .lf), (.nd 72 ⟨[(0, (.int .i64)), (3, (.konst (.vec 0))), (4, (.int .i64))], [(.row .s)], []⟩ (.nd 47 ⟨[(0, (.int .i64)), (3, (.konst (.vec 0))), (4, (.int .i64))], [(.row .s)], []⟩ (.nd 27 ⟨[(0, (.int .i64)), (3, (.konst (.vec 0))), (4, (.int .i64))], [(.row .s)], []⟩ .lf .lf) (.nd 66 ⟨[(0, (.int .i64)), (3, (.konst (.vec 0))), (4, (.int .i64))], [(.row .s)], []⟩ .lf .lf)) (.nd 117 ⟨[(0, (.int .i64)), (3, (.konst (.vec 0))), (5, (.int .i64)), (6, .str)], [(.row .s)], []⟩ (.nd 113 ⟨[(0, (.int .i64)), (3, (.konst (.vec 0))), (5, (.int .i64)), (6, .str)], [(.row .s)], []⟩ .lf .lf) (.nd 120 ⟨[(0, (.int .i64)), (3, (.konst (.vec 0))), (5, (.int .i64)), (6, .str)], [(.row .s)], []⟩ .lf .lf))), []⟩
theorem k38 x : g38.den E38 TT A38 F Tryz.f124 x = S_spec_l03Regs x := by kernel_rfl
theorem o38 : OK 124 (g38.sem S_spec_l03Regs) := typed_ok2 ⟨tok, eqs, Tr.All.get (t := E38) ⟨o26, trivial, trivial⟩, mix⟩ Tryz.func124 (by kernel_rfl) (by kernel_rfl) g38 rfl _ k38
def g39 : Sig := ⟨⟨numD 0 [.int .i64, .int .i64], [], []⟩, .one (.str), [], [], false, false, [], []⟩
def E39 : Tr Sem1 := (.nd 124 (g38.sem S_spec_l03Regs) (.nd 69 (g37.sem S_spec_l01Size) .lf .lf) .lf)
theorem k39 x : g39.den E39 TT AN F Tryz.f75 x = S_spec_RegName x := by kernel_rfl
theorem o39 : OK 75 (g39.sem S_spec_RegName) := typed_ok2 ⟨tok, eqs, Tr.All.get (t := E39) ⟨o38, ⟨o37, trivial, trivial⟩, trivial⟩, mix⟩ Tryz.func75 (by kernel_rfl) (by kernel_rfl) g39 rfl _ k39
def g40 : Sig := ⟨⟨numD 0 [V4], [], []⟩, .one (.str), [], [], false, false, [], []⟩
def E40 : Tr Sem1 := (.nd 75 (g39.sem S_spec_RegName) (.nd 20 (g26.sem S_spec_l00Digits) .lf .lf) .lf)
def A40 : Anns := ⟨.lf, (.nd 34 ⟨[(1, (.konst (.ptr 0 0))), (3, .str)], [(B3)], []⟩ (.nd 18 ⟨[(1, (.konst (.ptr 0 0))), (3, .str)], [(B3)], []⟩ (.nd 13 ⟨[(1, (.konst (.ptr 0 0))), (3, .str)], [(B3)], []⟩ .lf .lf) (.nd 30 ⟨[(1, (.konst (.ptr 0 0))), (3, .str)], [(B3)], []⟩ .lf .lf)) (.nd 76 ⟨[(1, (.konst (.ptr 0 0))), (3, .str)], [(B3)], []⟩ (.nd 72 ⟨[(3, .str)], [], []⟩ .lf .lf) .lf)), []⟩
theorem k40 x : g40.den E40 TT A40 F Tryz.f76 x = S_spec_l16Memory x := by kernel_rfl
theorem o40 : OK 76 (g40.sem S_spec_l16Memory) := typed_ok2 ⟨tok, eqs, Tr.All.get (t := E40) ⟨o39, ⟨o26, trivial, trivial⟩, trivial⟩, mix⟩ Tryz.func76 (by kernel_rfl) (by kernel_rfl) g40 rfl _ k40
def g41 : Sig := ⟨⟨numD 0 [V4, .int .i64], [], []⟩, .one (.str), [], [], false, false, [], []⟩
def E41 : Tr Sem1 := (.nd 75 (g39.sem S_spec_RegName) (.nd 74 (g34.sem S_spec_l16Size) (.nd 20 (g26.sem S_spec_l00Digits) .lf .lf) .lf) (.nd 76 (g40.sem S_spec_l16Memory) .lf .lf))
theorem k41 x : g41.den E41 TT AN F Tryz.f37 x = S_spec_l16Operand x := by kernel_rfl
theorem o41 : OK 37 (g41.sem S_spec_l16Operand) := typed_ok2 ⟨tok, eqs, Tr.All.get (t := E41) ⟨o39, ⟨o34, ⟨o26, trivial, trivial⟩, trivial⟩, ⟨o40, trivial, trivial⟩⟩, mix⟩ Tryz.func37 (by kernel_rfl) (by kernel_rfl) g41 rfl _ k41
def g42 : Sig := ⟨⟨numD 0 [.el .ins], [], []⟩, .one (.str), [], [], false, false, [], []⟩
def E42 : Tr Sem1 := (.nd 36 (g36.sem S_spec_l05From) (.nd 35 (g35.sem S_spec_l16Name) (.nd 18 (g0.sem S_spec_l01In) .lf .lf) .lf) (.nd 37 (g41.sem S_spec_l16Operand) .lf .lf))
def A42 : Anns := ⟨.lf, (.nd 30 ⟨[(1, (.konst (.ptr 0 0))), (3, .str), (4, (.int .i64))], [(B2)], []⟩ (.nd 22 ⟨[(1, (.konst (.ptr 0 0))), (3, .str), (4, (.int .i64))], [(B2)], []⟩ .lf .lf) (.nd 62 ⟨[(1, (.konst (.ptr 0 0))), (3, .str), (4, (.int .i64))], [(B2)], []⟩ .lf .lf)), []⟩
theorem k42 x : g42.den E42 TT A42 F Tryz.f14 x = S_spec_l16Instr x := by kernel_rfl
theorem o42 : OK 14 (g42.sem S_spec_l16Instr) := typed_ok2 ⟨tok, eqs, Tr.All.get (t := E42) ⟨o36, ⟨o35, ⟨o0, trivial, trivial⟩, trivial⟩, ⟨o41, trivial, trivial⟩⟩, mix⟩ Tryz.func14 (by kernel_rfl) (by kernel_rfl) g42 rfl _ k42
def g43 : Sig := ⟨⟨numD 0 [.str, .int .i64], [], []⟩, .tup [.list .s, .int .i64], [], [], false, false, [], []⟩
def E43 : Tr Sem1 := (.nd 20 (g26.sem S_spec_l00Digits) (.nd 18 (g0.sem S_spec_l01In) (.nd 14 (g42.sem S_spec_l16Instr) .lf .lf) (.nd 19 (g25.sem S_spec_l04Decode) .lf .lf)) (.nd 22 (g28.sem S_spec_l01Hex) (.nd 21 (g27.sem S_spec_CodeWord) .lf .lf) .lf))
def A43 : Anns := ⟨(.nd 0 (.loop ⟨[(0, .str), (1, (.int .i64)), (6, (.konst (.vec 0))), (7, (.int .i64))], [(.row .s)], []⟩) .lf .lf), .lf, []⟩
theorem k43 x : g43.den E43 TT A43 F Tryz.f8 x = S_spec_ListLines x := by kernel_rfl
theorem o43 : OK 8 (g43.sem S_spec_ListLines) := typed_ok2 ⟨tok, eqs, Tr.All.get (t := E43) ⟨o26, ⟨o0, ⟨o42, trivial, trivial⟩, ⟨o25, trivial, trivial⟩⟩, ⟨o28, ⟨o27, trivial, trivial⟩, trivial⟩⟩, mix⟩ Tryz.func8 (by kernel_rfl) (by kernel_rfl) g43 rfl _ k43
def g44 : Sig := ⟨⟨numD 0 [.int .i64, .int .i64, .int .i64], [], []⟩, .one (.bool), [], [], false, false, [], []⟩
theorem k44 x : g44.den Tr.lf TT AN F Tryz.f23 x = S_impl_within x := by kernel_rfl
theorem o44 : OK 23 (g44.sem S_impl_within) := typed_ok2 ⟨tok, eqs, Tr.All.get (t := Tr.lf) trivial, mix⟩ Tryz.func23 (by kernel_rfl) (by kernel_rfl) g44 rfl _ k44
def g45 : Sig := ⟨⟨numD 0 [.int .i64], [], []⟩, .one (.str), [], [], false, false, [], []⟩
theorem o45 : OK 24 (g45.sem S_strconv_Itoa) := itoa_ok Tryz.func24 (by kernel_rfl) (by kernel_rfl) (by kernel_rfl) (gv := 1) (by simp [Ly]) (by kernel_rfl) (fun n h0 h1 w ht => Tryz.strconv_Itoa n h0 h1 w ht)
def g46 : Sig := ⟨⟨numD 0 [.konst (.ptr 0 0), .int .i64, .int .i64], [B1], []⟩, .one (.bool), [B1], [], false, false, [], []⟩
def E46 : Tr Sem1 := (.nd 23 (g44.sem S_impl_within) .lf .lf)
theorem k46 x : g46.den E46 TT AN F Tryz.f105 x = S_impl_decoder_peek x := by kernel_rfl
theorem o46 : OK 105 (g46.sem S_impl_decoder_peek) := typed_ok2 ⟨tok, eqs, Tr.All.get (t := E46) ⟨o44, trivial, trivial⟩, mix⟩ Tryz.func105 (by kernel_rfl) (by kernel_rfl) g46 rfl _ k46
def g47 : Sig := ⟨⟨numD 0 [.konst (.ptr 0 0), .bool, .int .i64], [B1], []⟩, .tup [], [B1], [(0, 2, 3)], false, false, [], []⟩
theorem k47 x : g47.den Tr.lf TT AN F Tryz.f107 x = S_impl_decoder_wrong x := by kernel_rfl
theorem o47 : OK 107 (g47.sem S_impl_decoder_wrong) := typed_ok2 ⟨tok, eqs, Tr.All.get (t := Tr.lf) trivial, mix⟩ Tryz.func107 (by kernel_rfl) (by kernel_rfl) g47 rfl _ k47
def g48 : Sig := ⟨⟨numD 0 [.str], [], []⟩, .one (.int .i64), [], [], false, false, [], []⟩
def A48 : Anns := ⟨(.nd 0 (.loop ⟨[(0, .str), (3, (.int .i64)), (6, (.int .i64)), (7, (.int .i64))], [], []⟩) .lf .lf), .lf, []⟩
theorem k48 x : g48.den Tr.lf TT A48 F Tryz.f141 x = S_impl_take x := by kernel_rfl
theorem o48 : OK 141 (g48.sem S_impl_take) := typed_ok2 ⟨tok, eqs, Tr.All.get (t := Tr.lf) trivial, mix⟩ Tryz.func141 (by kernel_rfl) (by kernel_rfl) g48 rfl _ k48
def g49 : Sig := ⟨⟨numD 0 [.konst (.ptr 0 0), .int .i64], [B1], []⟩, .one (.int .i64), [B1], [(0, 1, 3)], false, false, [], []⟩
def E49 : Tr Sem1 := (.nd 141 (g48.sem S_impl_take) (.nd 107 (g47.sem S_impl_decoder_wrong) .lf .lf) .lf)
theorem k49 x : g49.den E49 TT AN F Tryz.f106 x = S_impl_decoder_next x := by kernel_rfl
theorem o49 : OK 106 (g49.sem S_impl_decoder_next) := typed_ok2 ⟨tok, eqs, Tr.All.get (t := E49) ⟨o48, ⟨o47, trivial, trivial⟩, trivial⟩, mix⟩ Tryz.func106 (by kernel_rfl) (by kernel_rfl) g49 rfl _ k49
def g50 : Sig := ⟨⟨numD 0 [.konst (.ptr 0 0)], [B1], []⟩, .one (.bool), [B1], [], false, false, [], []⟩
def E50 : Tr Sem1 := (.nd 105 (g46.sem S_impl_decoder_peek) .lf .lf)
def A50 : Anns := ⟨(.nd 0 (.loop ⟨[(0, (.konst (.ptr 0 0))), (5, (.konst (.vec 1))), (6, (.int .i64)), (7, (.int .i64))], [(B0), (.row .i)], []⟩) .lf .lf), .lf, []⟩
theorem k50 x : g50.den E50 TT A50 F Tryz.f108 x = S_impl_decoder_isPrefix x := by kernel_rfl
theorem o50 : OK 108 (g50.sem S_impl_decoder_isPrefix) := typed_ok2 ⟨tok, eqs, Tr.All.get (t := E50) ⟨o46, trivial, trivial⟩, mix⟩ Tryz.func108 (by kernel_rfl) (by kernel_rfl) g50 rfl _ k50
def g51 : Sig := ⟨⟨numD 0 [.konst (.ptr 0 0)], [B1], []⟩, .tup [], [B1], [(0, 1, 6)], false, false, [], []⟩
def E51 : Tr Sem1 := (.nd 107 (g47.sem S_impl_decoder_wrong) (.nd 106 (g49.sem S_impl_decoder_next) (.nd 105 (g46.sem S_impl_decoder_peek) .lf .lf) .lf) (.nd 108 (g50.sem S_impl_decoder_isPrefix) .lf .lf))
def A51 : Anns := ⟨.lf, (.nd 6 ⟨[(0, (.konst (.ptr 0 0)))], [(B0)], []⟩ .lf .lf), []⟩
theorem k51 x : g51.den E51 TT A51 F Tryz.f62 x = S_impl_decoder_prefixes x := by kernel_rfl
theorem o51 : OK 62 (g51.sem S_impl_decoder_prefixes) := typed_ok2 ⟨tok, eqs, Tr.All.get (t := E51) ⟨o47, ⟨o49, ⟨o46, trivial, trivial⟩, trivial⟩, ⟨o50, trivial, trivial⟩⟩, mix⟩ Tryz.func62 (by kernel_rfl) (by kernel_rfl) g51 rfl _ k51
def g52 : Sig := ⟨⟨numD 0 [.int .i64], [], []⟩, .one (.bool), [], [], false, false, [], []⟩
def E52 : Tr Sem1 := (.nd 23 (g44.sem S_impl_within) .lf .lf)
theorem k52 x : g52.den E52 TT AN F Tryz.f83 x = S_impl_isByte x := by kernel_rfl
theorem o52 : OK 83 (g52.sem S_impl_isByte) := typed_ok2 ⟨tok, eqs, Tr.All.get (t := E52) ⟨o44, trivial, trivial⟩, mix⟩ Tryz.func83 (by kernel_rfl) (by kernel_rfl) g52 rfl _ k52
def g53 : Sig := ⟨⟨numD 0 [.int .i64, .int .i64, .int .i64, .konst (.ptr 0 0)], [.var [.bool]], []⟩, .one (V7), [.var [.bool]], [], false, false, [], []⟩
theorem k53 x : g53.den Tr.lf TT AN F Tryz.f157 x = S_impl_oneByte_1 x := by kernel_rfl
theorem o53 : OK 157 (g53.sem S_impl_oneByte_1) := typed_ok2 ⟨tok, eqs, Tr.All.get (t := Tr.lf) trivial, mix⟩ Tryz.func157 (by kernel_rfl) (by kernel_rfl) g53 rfl _ k53
def g54 : Sig := ⟨⟨numD 0 [.int .i64], [], []⟩, .one (V7), [], [], false, false, [], []⟩
def E54 : Tr Sem1 := (.nd 157 (g53.sem S_impl_oneByte_1) (.nd 23 (g44.sem S_impl_within) .lf .lf) .lf)
def A54 : Anns := ⟨.lf, (.nd 204 ⟨[(2, (.konst (.ptr 0 0))), (4, (.konst (.func (.func 157) [] [(.ptr 1 0)]))), (46, (.int .i64)), (102, .bool)], [(B5), (.var [.bool])], []⟩ (.nd 138 ⟨[(2, (.konst (.ptr 0 0))), (4, (.konst (.func (.func 157) [] [(.ptr 1 0)]))), (46, (.int .i64)), (69, .bool)], [(B5), (.var [.bool])], []⟩ (.nd 128 ⟨[(2, (.konst (.ptr 0 0))), (4, (.konst (.func (.func 157) [] [(.ptr 1 0)]))), (46, (.int .i64)), (64, .bool)], [(B5), (.var [.bool])], []⟩ (.nd 112 ⟨[(2, (.konst (.ptr 0 0))), (4, (.konst (.func (.func 157) [] [(.ptr 1 0)]))), (46, (.int .i64)), (56, .bool)], [(B5), (.var [.bool])], []⟩ .lf .lf) .lf) (.nd 158 ⟨[(2, (.konst (.ptr 0 0))), (4, (.konst (.func (.func 157) [] [(.ptr 1 0)]))), (46, (.int .i64)), (79, .bool)], [(B5), (.var [.bool])], []⟩ (.nd 148 ⟨[(2, (.konst (.ptr 0 0))), (4, (.konst (.func (.func 157) [] [(.ptr 1 0)]))), (46, (.int .i64)), (74, .bool)], [(B5), (.var [.bool])], []⟩ .lf .lf) .lf)) (.nd 252 ⟨[(2, (.konst (.ptr 0 0))), (4, (.konst (.func (.func 157) [] [(.ptr 1 0)]))), (46, (.int .i64)), (126, .bool)], [(B5), (.var [.bool])], []⟩ (.nd 236 ⟨[(2, (.konst (.ptr 0 0))), (4, (.konst (.func (.func 157) [] [(.ptr 1 0)]))), (46, (.int .i64)), (118, .bool)], [(B5), (.var [.bool])], []⟩ (.nd 220 ⟨[(2, (.konst (.ptr 0 0))), (4, (.konst (.func (.func 157) [] [(.ptr 1 0)]))), (46, (.int .i64)), (110, .bool)], [(B5), (.var [.bool])], []⟩ .lf .lf) .lf) (.nd 296 ⟨[(2, (.konst (.ptr 0 0))), (4, (.konst (.func (.func 157) [] [(.ptr 1 0)]))), (46, (.int .i64)), (148, .bool)], [(B5), (.var [.bool])], []⟩ (.nd 262 ⟨[(2, (.konst (.ptr 0 0))), (4, (.konst (.func (.func 157) [] [(.ptr 1 0)]))), (46, (.int .i64)), (131, .bool)], [(B5), (.var [.bool])], []⟩ .lf .lf) .lf))), []⟩
theorem k54 x : g54.den E54 TT A54 F Tryz.f142 x = S_impl_oneByte x := by kernel_rfl
theorem o54 : OK 142 (g54.sem S_impl_oneByte) := typed_ok2 ⟨tok, eqs, Tr.All.get (t := E54) ⟨o53, ⟨o44, trivial, trivial⟩, trivial⟩, mix⟩ Tryz.func142 (by kernel_rfl) (by kernel_rfl) g54 rfl _ k54
def g55 : Sig := ⟨⟨numD 0 [.int .i64], [], []⟩, .one (V7), [], [], false, false, [], []⟩
def E55 : Tr Sem1 := (.nd 23 (g44.sem S_impl_within) .lf .lf)
theorem k55 x : g55.den E55 TT AN F Tryz.f143 x = S_impl_twoByte x := by kernel_rfl
theorem o55 : OK 143 (g55.sem S_impl_twoByte) := typed_ok2 ⟨tok, eqs, Tr.All.get (t := E55) ⟨o44, trivial, trivial⟩, mix⟩ Tryz.func143 (by kernel_rfl) (by kernel_rfl) g55 rfl _ k55
def g56 : Sig := ⟨⟨numD 0 [.bool, .int .i64], [], []⟩, .tup [V7, .int .i64], [], [], false, false, [], []⟩
def E56 : Tr Sem1 := (.nd 142 (g54.sem S_impl_oneByte) (.nd 83 (g52.sem S_impl_isByte) .lf .lf) (.nd 143 (g55.sem S_impl_twoByte) .lf .lf))
def A56 : Anns := ⟨.lf, (.nd 26 ⟨[(4, (.konst (.ptr 0 0))), (6, (.konst (.ptr 1 0)))], [(B5), (B5)], []⟩ .lf .lf), []⟩
theorem k56 x : g56.den E56 TT A56 F Tryz.f109 x = S_impl_ShapeOf x := by kernel_rfl
theorem o56 : OK 109 (g56.sem S_impl_ShapeOf) := typed_ok2 ⟨tok, eqs, Tr.All.get (t := E56) ⟨o54, ⟨o52, trivial, trivial⟩, ⟨o55, trivial, trivial⟩⟩, mix⟩ Tryz.func109 (by kernel_rfl) (by kernel_rfl) g56 rfl _ k56
def g57 : Sig := ⟨⟨numD 0 [.konst (.ptr 0 0)], [B1], []⟩, .tup [], [B1], [(0, 1, 3), (0, 6, 12), (0, 15, 16)], false, false, [], []⟩
def E57 : Tr Sem1 := (.nd 107 (g47.sem S_impl_decoder_wrong) (.nd 106 (g49.sem S_impl_decoder_next) .lf .lf) (.nd 109 (g56.sem S_impl_ShapeOf) .lf .lf))
def A57 : Anns := ⟨.lf, (.nd 44 ⟨[(0, (.konst (.ptr 0 0))), (2, .bool)], [(B0)], []⟩ .lf .lf), []⟩
theorem k57 x : g57.den E57 TT A57 F Tryz.f63 x = S_impl_decoder_operation x := by kernel_rfl
theorem o57 : OK 63 (g57.sem S_impl_decoder_operation) := typed_ok2 ⟨tok, eqs, Tr.All.get (t := E57) ⟨o47, ⟨o49, trivial, trivial⟩, ⟨o56, trivial, trivial⟩⟩, mix⟩ Tryz.func63 (by kernel_rfl) (by kernel_rfl) g57 rfl _ k57
def g58 : Sig := ⟨⟨numD 0 [.int .i64], [], []⟩, .one (.bool), [], [], false, false, [], []⟩
def A58 : Anns := ⟨.lf, (.nd 8 ⟨[(4, .bool)], [], []⟩ .lf .lf), []⟩
theorem k58 x : g58.den Tr.lf TT A58 F Tryz.f110 x = S_impl_hasModrm x := by kernel_rfl
theorem o58 : OK 110 (g58.sem S_impl_hasModrm) := typed_ok2 ⟨tok, eqs, Tr.All.get (t := Tr.lf) trivial, mix⟩ Tryz.func110 (by kernel_rfl) (by kernel_rfl) g58 rfl _ k58
def g59 : Sig := ⟨⟨numD 0 [.int .i64], [], []⟩, .one (.list .i), [], [], false, false, [], []⟩
theorem k59 x : g59.den Tr.lf TT AN F Tryz.f144 x = S_impl_groupOps x := by kernel_rfl
theorem o59 : OK 144 (g59.sem S_impl_groupOps) := typed_ok2 ⟨tok, eqs, Tr.All.get (t := Tr.lf) trivial, mix⟩ Tryz.func144 (by kernel_rfl) (by kernel_rfl) g59 rfl _ k59
def g60 : Sig := ⟨⟨numD 0 [.int .i64, .int .i64], [], []⟩, .tup [.int .i64, .int .i64], [], [], false, false, [], []⟩
def E60 : Tr Sem1 := (.nd 144 (g59.sem S_impl_groupOps) (.nd 23 (g44.sem S_impl_within) .lf .lf) .lf)
theorem k60 x : g60.den E60 TT AN F Tryz.f111 x = S_impl_GroupOp x := by kernel_rfl
theorem o60 : OK 111 (g60.sem S_impl_GroupOp) := typed_ok2 ⟨tok, eqs, Tr.All.get (t := E60) ⟨o59, ⟨o44, trivial, trivial⟩, trivial⟩, mix⟩ Tryz.func111 (by kernel_rfl) (by kernel_rfl) g60 rfl _ k60
def g61 : Sig := ⟨⟨numD 0 [.konst (.ptr 0 0)], [B1], []⟩, .tup [], [B1], [(0, 1, 3), (0, 12, 16)], false, false, [], []⟩
def E61 : Tr Sem1 := (.nd 110 (g58.sem S_impl_hasModrm) (.nd 107 (g47.sem S_impl_decoder_wrong) (.nd 106 (g49.sem S_impl_decoder_next) .lf .lf) .lf) (.nd 111 (g60.sem S_impl_GroupOp) .lf .lf))
theorem k61 x : g61.den E61 TT AN F Tryz.f64 x = S_impl_decoder_modrm x := by kernel_rfl
theorem o61 : OK 64 (g61.sem S_impl_decoder_modrm) := typed_ok2 ⟨tok, eqs, Tr.All.get (t := E61) ⟨o58, ⟨o47, ⟨o49, trivial, trivial⟩, trivial⟩, ⟨o60, trivial, trivial⟩⟩, mix⟩ Tryz.func64 (by kernel_rfl) (by kernel_rfl) g61 rfl _ k61
def g62 : Sig := ⟨⟨numD 0 [.int .i64], [], []⟩, .tup [.int .i64, .bool], [], [], false, false, [], []⟩
def A62 : Anns := ⟨.lf, (.nd 20 ⟨[(10, .bool)], [], []⟩ (.nd 10 ⟨[(4, (.int .i64)), (5, .bool)], [], []⟩ .lf .lf) .lf), []⟩
theorem k62 x : g62.den Tr.lf TT A62 F Tryz.f112 x = S_impl_fixedSize x := by kernel_rfl
theorem o62 : OK 112 (g62.sem S_impl_fixedSize) := typed_ok2 ⟨tok, eqs, Tr.All.get (t := Tr.lf) trivial, mix⟩ Tryz.func112 (by kernel_rfl) (by kernel_rfl) g62 rfl _ k62
def g63 : Sig := ⟨⟨numD 0 [.konst (.ptr 0 0), .int .i64], [B1], []⟩, .one (.int .i64), [B1], [], false, false, [], []⟩
theorem k63 x : g63.den Tr.lf TT AN F Tryz.f113 x = S_impl_decoder_bit x := by kernel_rfl
theorem o63 : OK 113 (g63.sem S_impl_decoder_bit) := typed_ok2 ⟨tok, eqs, Tr.All.get (t := Tr.lf) trivial, mix⟩ Tryz.func113 (by kernel_rfl) (by kernel_rfl) g63 rfl _ k63
def g64 : Sig := ⟨⟨numD 0 [.konst (.ptr 0 0)], [B1], []⟩, .tup [], [B1], [(0, 2, 3), (0, 16, 17)], false, false, [], []⟩
def E64 : Tr Sem1 := (.nd 112 (g62.sem S_impl_fixedSize) (.nd 107 (g47.sem S_impl_decoder_wrong) (.nd 23 (g44.sem S_impl_within) .lf .lf) .lf) (.nd 113 (g63.sem S_impl_decoder_bit) .lf .lf))
def A64 : Anns := ⟨.lf, (.nd 69 ⟨[(0, (.konst (.ptr 0 0))), (3, .bool)], [(B0)], []⟩ (.nd 49 ⟨[(0, (.konst (.ptr 0 0))), (3, .bool)], [(B0)], []⟩ (.nd 35 ⟨[(0, (.konst (.ptr 0 0))), (3, .bool)], [(B0)], []⟩ .lf .lf) .lf) (.nd 85 ⟨[(0, (.konst (.ptr 0 0))), (3, .bool)], [(B0)], []⟩ .lf .lf)), []⟩
theorem k64 x : g64.den E64 TT A64 F Tryz.f65 x = S_impl_decoder_size x := by kernel_rfl
theorem o64 : OK 65 (g64.sem S_impl_decoder_size) := typed_ok2 ⟨tok, eqs, Tr.All.get (t := E64) ⟨o62, ⟨o47, ⟨o44, trivial, trivial⟩, trivial⟩, ⟨o63, trivial, trivial⟩⟩, mix⟩ Tryz.func65 (by kernel_rfl) (by kernel_rfl) g64 rfl _ k64
def g65 : Sig := ⟨⟨numD 0 [.int .i64], [], []⟩, .one (V4), [], [], false, false, [], []⟩
theorem k65 x : g65.den Tr.lf TT AN F Tryz.f79 x = S_impl_regOf x := by kernel_rfl
theorem o65 : OK 79 (g65.sem S_impl_regOf) := typed_ok2 ⟨tok, eqs, Tr.All.get (t := Tr.lf) trivial, mix⟩ Tryz.func79 (by kernel_rfl) (by kernel_rfl) g65 rfl _ k65
def g66 : Sig := ⟨⟨numD 0 [.konst (.ptr 0 0), .int .i64, .int .i64], [B1], []⟩, .one (V4), [B1], [], false, false, [], []⟩
def E66 : Tr Sem1 := (.nd 79 (g65.sem S_impl_regOf) (.nd 23 (g44.sem S_impl_within) .lf .lf) .lf)
def A66 : Anns := ⟨.lf, (.nd 38 ⟨[(1, (.int .i64)), (6, (.konst (.ptr 1 0)))], [(B0), (B3)], []⟩ .lf .lf), []⟩
theorem k66 x : g66.den E66 TT A66 F Tryz.f114 x = S_impl_decoder_register x := by kernel_rfl
theorem o66 : OK 114 (g66.sem S_impl_decoder_register) := typed_ok2 ⟨tok, eqs, Tr.All.get (t := E66) ⟨o65, ⟨o44, trivial, trivial⟩, trivial⟩, mix⟩ Tryz.func114 (by kernel_rfl) (by kernel_rfl) g66 rfl _ k66
def g67 : Sig := ⟨⟨numD 0 [.int .i64, .int .i64], [], []⟩, .one (.int .i64), [], [], false, false, [], []⟩
theorem k67 x : g67.den Tr.lf TT AN F Tryz.f119 x = S_impl_sign x := by kernel_rfl
theorem o67 : OK 119 (g67.sem S_impl_sign) := typed_ok2 ⟨tok, eqs, Tr.All.get (t := Tr.lf) trivial, mix⟩ Tryz.func119 (by kernel_rfl) (by kernel_rfl) g67 rfl _ k67
def g68 : Sig := ⟨⟨numD 0 [.konst (.ptr 0 0), .int .i64], [B1], []⟩, .one (.int .i64), [B1], [(0, 1, 3)], false, false, [], []⟩
def E68 : Tr Sem1 := (.nd 119 (g67.sem S_impl_sign) (.nd 106 (g49.sem S_impl_decoder_next) .lf .lf) .lf)
theorem k68 x : g68.den E68 TT AN F Tryz.f117 x = S_impl_decoder_number x := by kernel_rfl
theorem o68 : OK 117 (g68.sem S_impl_decoder_number) := typed_ok2 ⟨tok, eqs, Tr.All.get (t := E68) ⟨o67, ⟨o49, trivial, trivial⟩, trivial⟩, mix⟩ Tryz.func117 (by kernel_rfl) (by kernel_rfl) g68 rfl _ k68
def g69 : Sig := ⟨⟨numD 0 [.konst (.ptr 0 0), .int .i64], [B1], []⟩, .one (V4), [B1], [(0, 1, 3)], false, false, [], []⟩
def E69 : Tr Sem1 := (.nd 114 (g66.sem S_impl_decoder_register) (.nd 113 (g63.sem S_impl_decoder_bit) (.nd 106 (g49.sem S_impl_decoder_next) .lf .lf) .lf) (.nd 117 (g68.sem S_impl_decoder_number) .lf .lf))
def A69 : Anns := ⟨.lf, (.nd 148 ⟨[(0, (.konst (.ptr 0 0))), (4, (.konst (.ptr 1 0))), (5, (.konst (.ptr 2 0))), (6, .bool)], [(B0), (B3), (B3)], []⟩ (.nd 116 ⟨[(0, (.konst (.ptr 0 0))), (4, (.konst (.ptr 1 0))), (5, (.konst (.ptr 2 0))), (6, .bool), (7, (.int .i64))], [(B0), (B3), (B3)], []⟩ (.nd 75 ⟨[(0, (.konst (.ptr 0 0))), (4, (.konst (.ptr 1 0))), (5, (.konst (.ptr 2 0))), (6, .bool)], [(B0), (B3), (B3)], []⟩ .lf .lf) .lf) (.nd 152 ⟨[(0, (.konst (.ptr 0 0))), (4, (.konst (.ptr 1 0))), (5, (.konst (.ptr 2 0))), (6, .bool)], [(B0), (B3), (B3)], []⟩ .lf .lf)), []⟩
theorem k69 x : g69.den E69 TT A69 F Tryz.f115 x = S_impl_decoder_place x := by kernel_rfl
theorem o69 : OK 115 (g69.sem S_impl_decoder_place) := typed_ok2 ⟨tok, eqs, Tr.All.get (t := E69) ⟨o66, ⟨o63, ⟨o49, trivial, trivial⟩, trivial⟩, ⟨o68, trivial, trivial⟩⟩, mix⟩ Tryz.func115 (by kernel_rfl) (by kernel_rfl) g69 rfl _ k69
def g70 : Sig := ⟨⟨numD 0 [.int .i64], [], []⟩, .one (V4), [], [], false, false, [], []⟩
theorem k70 x : g70.den Tr.lf TT AN F Tryz.f82 x = S_impl_immOf x := by kernel_rfl
theorem o70 : OK 82 (g70.sem S_impl_immOf) := typed_ok2 ⟨tok, eqs, Tr.All.get (t := Tr.lf) trivial, mix⟩ Tryz.func82 (by kernel_rfl) (by kernel_rfl) g70 rfl _ k70
def g71 : Sig := ⟨⟨numD 0 [.konst (.ptr 0 0)], [B1], []⟩, .one (V4), [B1], [(0, 1, 3)], false, false, [], []⟩
def E71 : Tr Sem1 := (.nd 117 (g68.sem S_impl_decoder_number) (.nd 82 (g70.sem S_impl_immOf) .lf .lf) .lf)
theorem k71 x : g71.den E71 TT AN F Tryz.f116 x = S_impl_decoder_immediate x := by kernel_rfl
theorem o71 : OK 116 (g71.sem S_impl_decoder_immediate) := typed_ok2 ⟨tok, eqs, Tr.All.get (t := E71) ⟨o68, ⟨o70, trivial, trivial⟩, trivial⟩, mix⟩ Tryz.func116 (by kernel_rfl) (by kernel_rfl) g71 rfl _ k71
def g72 : Sig := ⟨⟨numD 0 [.konst (.ptr 0 0)], [B1], []⟩, .tup [], [B1], [(0, 1, 3), (0, 19, 33)], false, false, [], []⟩
def E72 : Tr Sem1 := (.nd 116 (g71.sem S_impl_decoder_immediate) (.nd 115 (g69.sem S_impl_decoder_place) .lf .lf) .lf)
def A72 : Anns := ⟨.lf, (.nd 30 ⟨[(0, (.konst (.ptr 0 0))), (2, (.konst (.ptr 1 0))), (15, .bool)], [(B0), (B3)], []⟩ .lf .lf), []⟩
theorem k72 x : g72.den E72 TT A72 F Tryz.f118 x = S_impl_decoder_onePlace x := by kernel_rfl
theorem o72 : OK 118 (g72.sem S_impl_decoder_onePlace) := typed_ok2 ⟨tok, eqs, Tr.All.get (t := E72) ⟨o71, ⟨o69, trivial, trivial⟩, trivial⟩, mix⟩ Tryz.func118 (by kernel_rfl) (by kernel_rfl) g72 rfl _ k72
def g73 : Sig := ⟨⟨numD 0 [.konst (.ptr 0 0)], [B1], []⟩, .tup [], [B1], [(0, 1, 3), (0, 18, 33)], false, false, [], []⟩
def E73 : Tr Sem1 := (.nd 115 (g69.sem S_impl_decoder_place) (.nd 106 (g49.sem S_impl_decoder_next) (.nd 82 (g70.sem S_impl_immOf) (.nd 79 (g65.sem S_impl_regOf) .lf .lf) .lf) (.nd 114 (g66.sem S_impl_decoder_register) (.nd 113 (g63.sem S_impl_decoder_bit) .lf .lf) .lf)) (.nd 118 (g72.sem S_impl_decoder_onePlace) (.nd 117 (g68.sem S_impl_decoder_number) (.nd 116 (g71.sem S_impl_decoder_immediate) .lf .lf) .lf) (.nd 119 (g67.sem S_impl_sign) .lf .lf)))
def A73 : Anns := ⟨.lf, (.nd 410 ⟨[(0, (.konst (.ptr 0 0))), (2, (.konst (.ptr 0 15))), (26, (.int .i64)), (205, .bool)], [(B0)], []⟩ (.nd 394 ⟨[(2, (.konst (.ptr 0 15))), (5, (.int .i64))], [(B0)], []⟩ .lf .lf) .lf), []⟩
theorem k73 x : g73.den E73 TT A73 F Tryz.f66 x = S_impl_decoder_operands x := by kernel_rfl
theorem o73 : OK 66 (g73.sem S_impl_decoder_operands) := typed_ok2 ⟨tok, eqs, Tr.All.get (t := E73) ⟨o69, ⟨o49, ⟨o70, ⟨o65, trivial, trivial⟩, trivial⟩, ⟨o66, ⟨o63, trivial, trivial⟩, trivial⟩⟩, ⟨o72, ⟨o68, ⟨o71, trivial, trivial⟩, trivial⟩, ⟨o67, trivial, trivial⟩⟩⟩, mix⟩ Tryz.func66 (by kernel_rfl) (by kernel_rfl) g73 rfl _ k73
def g74 : Sig := ⟨⟨numD 0 [.str, .int .i64], [], []⟩, .tup [.el .ins, .int .i64], [], [], false, false, [], []⟩
def E74 : Tr Sem1 := (.nd 64 (g61.sem S_impl_decoder_modrm) (.nd 63 (g57.sem S_impl_decoder_operation) (.nd 62 (g51.sem S_impl_decoder_prefixes) .lf .lf) .lf) (.nd 66 (g73.sem S_impl_decoder_operands) (.nd 65 (g64.sem S_impl_decoder_size) .lf .lf) .lf))
def A74 : Anns := ⟨(.nd 0 (.unroll 6) .lf .lf), (.nd 94 ⟨[(1, (.int .i64)), (4, (.konst (.ptr 0 0))), (6, (.konst (.ptr 1 0))), (47, .bool)], [(B2), (B0)], []⟩ .lf .lf), []⟩
theorem k74 x : g74.den E74 TT A74 F Tryz.f25 x = S_impl_decode x := by kernel_rfl
theorem o74 : OK 25 (g74.sem S_impl_decode) := typed_ok2 ⟨tok, eqs, Tr.All.get (t := E74) ⟨o61, ⟨o57, ⟨o51, trivial, trivial⟩, trivial⟩, ⟨o73, ⟨o64, trivial, trivial⟩, trivial⟩⟩, mix⟩ Tryz.func25 (by kernel_rfl) (by kernel_rfl) g74 rfl _ k74
def g75 : Sig := ⟨⟨numD 0 [], [], []⟩, .one (.list .s), [], [], false, false, [], []⟩
theorem k75 x : g75.den Tr.lf TT AN F Tryz.f67 x = S_impl_codeWords x := by kernel_rfl
theorem o75 : OK 67 (g75.sem S_impl_codeWords) := typed_ok2 ⟨tok, eqs, Tr.All.get (t := Tr.lf) trivial, mix⟩ Tryz.func67 (by kernel_rfl) (by kernel_rfl) g75 rfl _ k75
def g76 : Sig := ⟨⟨numD 0 [.int .i64], [], []⟩, .one (.str), [], [], false, false, [], []⟩
def E76 : Tr Sem1 := (.nd 67 (g75.sem S_impl_codeWords) (.nd 23 (g44.sem S_impl_within) .lf .lf) .lf)
theorem k76 x : g76.den E76 TT AN F Tryz.f26 x = S_impl_CodeWord x := by kernel_rfl
theorem o76 : OK 26 (g76.sem S_impl_CodeWord) := typed_ok2 ⟨tok, eqs, Tr.All.get (t := E76) ⟨o75, ⟨o44, trivial, trivial⟩, trivial⟩, mix⟩ Tryz.func26 (by kernel_rfl) (by kernel_rfl) g76 rfl _ k76
def g77 : Sig := ⟨⟨numD 0 [.str], [], []⟩, .one (.str), [], [], false, false, [], []⟩
def A77 : Anns := ⟨(.nd 0 (.loop ⟨[(0, .str), (3, (.konst (.vec 0))), (10, (.int .i64)), (11, (.int .i64))], [(.row .u)], []⟩) .lf .lf), .lf, []⟩
theorem k77 x : g77.den Tr.lf TT A77 F Tryz.f68 x = S_impl_hexText x := by kernel_rfl
theorem o77 : OK 68 (g77.sem S_impl_hexText) := typed_ok2 ⟨tok, eqs, Tr.All.get (t := Tr.lf) trivial, mix⟩ Tryz.func68 (by kernel_rfl) (by kernel_rfl) g77 rfl _ k77
def g78 : Sig := ⟨⟨numD 0 [.str], [], []⟩, .one (.str), [], [], false, false, [], []⟩
def E78 : Tr Sem1 := (.nd 68 (g77.sem S_impl_hexText) .lf .lf)
theorem k78 x : g78.den E78 TT AN F Tryz.f27 x = S_impl_HexOf x := by kernel_rfl
theorem o78 : OK 27 (g78.sem S_impl_HexOf) := typed_ok2 ⟨tok, eqs, Tr.All.get (t := E78) ⟨o77, trivial, trivial⟩, mix⟩ Tryz.func27 (by kernel_rfl) (by kernel_rfl) g78 rfl _ k78
def g79 : Sig := ⟨⟨numD 0 [], [], []⟩, .one (.list .s), [], [], false, false, [], []⟩
theorem k79 x : g79.den Tr.lf TT AN F Tryz.f128 x = S_impl_condNames x := by kernel_rfl
theorem o79 : OK 128 (g79.sem S_impl_condNames) := typed_ok2 ⟨tok, eqs, Tr.All.get (t := Tr.lf) trivial, mix⟩ Tryz.func128 (by kernel_rfl) (by kernel_rfl) g79 rfl _ k79
def g80 : Sig := ⟨⟨numD 0 [.int .i64], [], []⟩, .one (.str), [], [], false, false, [], []⟩
def E80 : Tr Sem1 := (.nd 128 (g79.sem S_impl_condNames) (.nd 23 (g44.sem S_impl_within) .lf .lf) .lf)
theorem k80 x : g80.den E80 TT AN F Tryz.f88 x = S_impl_CondName x := by kernel_rfl
theorem o80 : OK 88 (g80.sem S_impl_CondName) := typed_ok2 ⟨tok, eqs, Tr.All.get (t := E80) ⟨o79, ⟨o44, trivial, trivial⟩, trivial⟩, mix⟩ Tryz.func88 (by kernel_rfl) (by kernel_rfl) g80 rfl _ k80
def g81 : Sig := ⟨⟨numD 0 [.int .i64], [], []⟩, .one (.bool), [], [], false, false, [], []⟩
def E81 : Tr Sem1 := (.nd 23 (g44.sem S_impl_within) .lf .lf)
theorem k81 x : g81.den E81 TT AN F Tryz.f38 x = S_impl_isOp x := by kernel_rfl
theorem o81 : OK 38 (g81.sem S_impl_isOp) := typed_ok2 ⟨tok, eqs, Tr.All.get (t := E81) ⟨o44, trivial, trivial⟩, mix⟩ Tryz.func38 (by kernel_rfl) (by kernel_rfl) g81 rfl _ k81
def g82 : Sig := ⟨⟨numD 0 [], [], []⟩, .one (.list .s), [], [], false, false, [], []⟩
theorem k82 x : g82.den Tr.lf TT AN F Tryz.f129 x = S_impl_opNames x := by kernel_rfl
theorem o82 : OK 129 (g82.sem S_impl_opNames) := typed_ok2 ⟨tok, eqs, Tr.All.get (t := Tr.lf) trivial, mix⟩ Tryz.func129 (by kernel_rfl) (by kernel_rfl) g82 rfl _ k82
def g83 : Sig := ⟨⟨numD 0 [.int .i64], [], []⟩, .one (.str), [], [], false, false, [], []⟩
def E83 : Tr Sem1 := (.nd 129 (g82.sem S_impl_opNames) (.nd 38 (g81.sem S_impl_isOp) .lf .lf) .lf)
theorem k83 x : g83.den E83 TT AN F Tryz.f89 x = S_impl_OpName x := by kernel_rfl
theorem o83 : OK 89 (g83.sem S_impl_OpName) := typed_ok2 ⟨tok, eqs, Tr.All.get (t := E83) ⟨o82, ⟨o81, trivial, trivial⟩, trivial⟩, mix⟩ Tryz.func89 (by kernel_rfl) (by kernel_rfl) g83 rfl _ k83
def g84 : Sig := ⟨⟨numD 0 [.int .i64], [], []⟩, .one (.str), [], [], false, false, [], []⟩
theorem k84 x : g84.den Tr.lf TT AN F Tryz.f90 x = S_impl_sizeWord x := by kernel_rfl
theorem o84 : OK 90 (g84.sem S_impl_sizeWord) := typed_ok2 ⟨tok, eqs, Tr.All.get (t := Tr.lf) trivial, mix⟩ Tryz.func90 (by kernel_rfl) (by kernel_rfl) g84 rfl _ k84
def g85 : Sig := ⟨⟨numD 0 [.el .ins], [], []⟩, .one (.str), [], [], false, false, [], []⟩
def E85 : Tr Sem1 := (.nd 89 (g83.sem S_impl_OpName) (.nd 88 (g80.sem S_impl_CondName) .lf .lf) (.nd 90 (g84.sem S_impl_sizeWord) .lf .lf))
def A85 : Anns := ⟨.lf, (.nd 46 ⟨[(1, (.konst (.ptr 0 0))), (23, .bool)], [(B2)], []⟩ .lf .lf), []⟩
theorem k85 x : g85.den E85 TT A85 F Tryz.f50 x = S_impl_instrName x := by kernel_rfl
theorem o85 : OK 50 (g85.sem S_impl_instrName) := typed_ok2 ⟨tok, eqs, Tr.All.get (t := E85) ⟨o83, ⟨o80, trivial, trivial⟩, ⟨o84, trivial, trivial⟩⟩, mix⟩ Tryz.func50 (by kernel_rfl) (by kernel_rfl) g85 rfl _ k85
def g86 : Sig := ⟨⟨numD 0 [.int .i64], [], []⟩, .one (.bool), [], [], false, false, [], []⟩
theorem k86 x : g86.den Tr.lf TT AN F Tryz.f78 x = S_impl_isSize x := by kernel_rfl
theorem o86 : OK 78 (g86.sem S_impl_isSize) := typed_ok2 ⟨tok, eqs, Tr.All.get (t := Tr.lf) trivial, mix⟩ Tryz.func78 (by kernel_rfl) (by kernel_rfl) g86 rfl _ k86
def g87 : Sig := ⟨⟨numD 0 [.int .i64], [], []⟩, .one (.bool), [], [], false, false, [], []⟩
def E87 : Tr Sem1 := (.nd 23 (g44.sem S_impl_within) .lf .lf)
theorem k87 x : g87.den E87 TT AN F Tryz.f85 x = S_impl_isHigh x := by kernel_rfl
theorem o87 : OK 85 (g87.sem S_impl_isHigh) := typed_ok2 ⟨tok, eqs, Tr.All.get (t := E87) ⟨o44, trivial, trivial⟩, mix⟩ Tryz.func85 (by kernel_rfl) (by kernel_rfl) g87 rfl _ k87
def g88 : Sig := ⟨⟨numD 0 [.int .i64, .int .i64], [], []⟩, .one (.bool), [], [], false, false, [], []⟩
def E88 : Tr Sem1 := (.nd 78 (g86.sem S_impl_isSize) (.nd 23 (g44.sem S_impl_within) .lf .lf) (.nd 85 (g87.sem S_impl_isHigh) .lf .lf))
theorem k88 x : g88.den E88 TT AN F Tryz.f80 x = S_impl_isReg x := by kernel_rfl
theorem o88 : OK 80 (g88.sem S_impl_isReg) := typed_ok2 ⟨tok, eqs, Tr.All.get (t := E88) ⟨o86, ⟨o44, trivial, trivial⟩, ⟨o87, trivial, trivial⟩⟩, mix⟩ Tryz.func80 (by kernel_rfl) (by kernel_rfl) g88 rfl _ k88
def g89 : Sig := ⟨⟨numD 0 [.int .i64], [], []⟩, .one (.list .s), [], [], false, false, [], []⟩
def E89 : Tr Sem1 := (.nd 24 (g45.sem S_strconv_Itoa) .lf .lf)
def A89 : Anns := ⟨(.nd 2 (.loop ⟨[(0, (.int .i64)), (5, .str), (6, (.konst (.vec 0))), (9, (.int .i64))], [(.row .s)], []⟩) (.nd 0 (.loop ⟨[(0, (.int .i64)), (4, .str), (5, .str), (6, (.konst (.vec 0))), (20, (.konst (.vec 1))), (21, (.int .i64)), (22, (.int .i64))], [(.row .s), (.row .s)], []⟩) .lf .lf) .lf), (.nd 68 ⟨[(0, (.int .i64)), (5, .str), (6, (.konst (.vec 0)))], [(.row .s)], []⟩ .lf .lf), []⟩
theorem k89 x : g89.den E89 TT A89 F Tryz.f130 x = S_impl_regNames x := by kernel_rfl
theorem o89 : OK 130 (g89.sem S_impl_regNames) := typed_ok2 ⟨tok, eqs, Tr.All.get (t := E89) ⟨o45, trivial, trivial⟩, mix⟩ Tryz.func130 (by kernel_rfl) (by kernel_rfl) g89 rfl _ k89
def g90 : Sig := ⟨⟨numD 0 [.int .i64, .int .i64], [], []⟩, .one (.str), [], [], false, false, [], []⟩
def E90 : Tr Sem1 := (.nd 130 (g89.sem S_impl_regNames) (.nd 80 (g88.sem S_impl_isReg) .lf .lf) .lf)
theorem k90 x : g90.den E90 TT AN F Tryz.f91 x = S_impl_RegName x := by kernel_rfl
theorem o90 : OK 91 (g90.sem S_impl_RegName) := typed_ok2 ⟨tok, eqs, Tr.All.get (t := E90) ⟨o89, ⟨o88, trivial, trivial⟩, trivial⟩, mix⟩ Tryz.func91 (by kernel_rfl) (by kernel_rfl) g90 rfl _ k90
theorem o91 : OK 92 joinSem := join_ok Tryz.func92 (by kernel_rfl) (by kernel_rfl) (fun a c s w => Tryz.strings_Join_none a c s w) (fun bk o c xs s w h1 h2 h3 h4 h5 => Tryz.strings_Join bk o c xs s w h1 h2 h3 h4 h5)
def g92 : Sig := ⟨⟨numD 0 [V4, .int .i64], [], []⟩, .one (.str), [], [], false, false, [], []⟩
def E92 : Tr Sem1 := (.nd 91 (g90.sem S_impl_RegName) (.nd 90 (g84.sem S_impl_sizeWord) (.nd 24 (g45.sem S_strconv_Itoa) .lf .lf) .lf) (.nd 92 joinSem .lf .lf))
def A92 : Anns := ⟨.lf, (.nd 82 ⟨[(1, (.int .i64)), (2, (.konst (.ptr 0 0))), (5, (.konst (.vec 1)))], [(B3), (.row .s)], []⟩ (.nd 58 ⟨[(1, (.int .i64)), (2, (.konst (.ptr 0 0))), (5, (.konst (.vec 1)))], [(B3), (.row .s)], []⟩ (.nd 45 ⟨[(1, (.int .i64)), (2, (.konst (.ptr 0 0))), (5, (.konst (.vec 1)))], [(B3), (.row .s)], []⟩ .lf .lf) .lf) (.nd 120 ⟨[(1, (.int .i64)), (5, (.konst (.vec 0)))], [(.row .s)], []⟩ .lf .lf)), []⟩
theorem k92 x : g92.den E92 TT A92 F Tryz.f51 x = S_impl_operandText x := by kernel_rfl
theorem o92 : OK 51 (g92.sem S_impl_operandText) := typed_ok2 ⟨tok, eqs, Tr.All.get (t := E92) ⟨o90, ⟨o84, ⟨o45, trivial, trivial⟩, trivial⟩, ⟨o91, trivial, trivial⟩⟩, mix⟩ Tryz.func51 (by kernel_rfl) (by kernel_rfl) g92 rfl _ k92
def g93 : Sig := ⟨⟨numD 0 [.int .i64], [], []⟩, .one (.bool), [], [], false, false, [], []⟩
def E93 : Tr Sem1 := (.nd 23 (g44.sem S_impl_within) .lf .lf)
theorem k93 x : g93.den E93 TT AN F Tryz.f47 x = S_impl_isShift x := by kernel_rfl
theorem o93 : OK 47 (g93.sem S_impl_isShift) := typed_ok2 ⟨tok, eqs, Tr.All.get (t := E93) ⟨o44, trivial, trivial⟩, mix⟩ Tryz.func47 (by kernel_rfl) (by kernel_rfl) g93 rfl _ k93
def g94 : Sig := ⟨⟨numD 0 [.el .ins], [], []⟩, .one (.int .i64), [], [], false, false, [], []⟩
def E94 : Tr Sem1 := (.nd 47 (g93.sem S_impl_isShift) .lf .lf)
theorem k94 x : g94.den E94 TT AN F Tryz.f45 x = S_impl_srcSize x := by kernel_rfl
theorem o94 : OK 45 (g94.sem S_impl_srcSize) := typed_ok2 ⟨tok, eqs, Tr.All.get (t := E94) ⟨o93, trivial, trivial⟩, mix⟩ Tryz.func45 (by kernel_rfl) (by kernel_rfl) g94 rfl _ k94
def g95 : Sig := ⟨⟨numD 0 [.el .ins], [], []⟩, .one (.str), [], [], false, false, [], []⟩
def E95 : Tr Sem1 := (.nd 50 (g85.sem S_impl_instrName) (.nd 47 (g93.sem S_impl_isShift) (.nd 45 (g94.sem S_impl_srcSize) .lf .lf) .lf) (.nd 51 (g92.sem S_impl_operandText) .lf .lf))
def A95 : Anns := ⟨.lf, (.nd 54 ⟨[(1, (.konst (.ptr 0 0))), (3, .str)], [(B2)], []⟩ (.nd 20 ⟨[(1, (.konst (.ptr 0 0))), (3, .str)], [(B2)], []⟩ .lf .lf) (.nd 68 ⟨[(1, (.konst (.ptr 0 0))), (3, .str), (4, (.int .i64))], [(B2)], []⟩ .lf .lf)), []⟩
theorem k95 x : g95.den E95 TT A95 F Tryz.f17 x = S_impl_instrText x := by kernel_rfl
theorem o95 : OK 17 (g95.sem S_impl_instrText) := typed_ok2 ⟨tok, eqs, Tr.All.get (t := E95) ⟨o85, ⟨o93, ⟨o94, trivial, trivial⟩, trivial⟩, ⟨o92, trivial, trivial⟩⟩, mix⟩ Tryz.func17 (by kernel_rfl) (by kernel_rfl) g95 rfl _ k95
def g96 : Sig := ⟨⟨numD 0 [.str, .int .i64], [], []⟩, .tup [.konst (.vec 0), .int .i64], [.row .s], [], false, true, [(4, 0, .s)], []⟩
def E96 : Tr Sem1 := (.nd 25 (g74.sem S_impl_decode) (.nd 23 (g44.sem S_impl_within) (.nd 17 (g95.sem S_impl_instrText) .lf .lf) (.nd 24 (g45.sem S_strconv_Itoa) .lf .lf)) (.nd 27 (g78.sem S_impl_HexOf) (.nd 26 (g76.sem S_impl_CodeWord) .lf .lf) .lf))
def A96 : Anns := ⟨(.nd 1 (.loop ⟨[(0, .str), (1, (.int .i64)), (6, (.konst (.vec 0))), (7, (.int .i64))], [(.row .s)], []⟩) .lf .lf), .lf, []⟩
theorem k96 x : g96.den E96 TT A96 F Tryz.f9 x = S_impl_ListLines x := by kernel_rfl
theorem o96 : OK 9 (g96.sem S_impl_ListLines) := typed_ok2 ⟨tok, eqs, Tr.All.get (t := E96) ⟨o74, ⟨o44, ⟨o95, trivial, trivial⟩, ⟨o45, trivial, trivial⟩⟩, ⟨o78, ⟨o76, trivial, trivial⟩, trivial⟩⟩, mix⟩ Tryz.func9 (by kernel_rfl) (by kernel_rfl) g96 rfl _ k96
def g97 : Sig := ⟨⟨numD 0 [.list .s, .list .s], [], []⟩, .one (.bool), [], [], false, false, [], []⟩
def A97 : Anns := ⟨(.nd 0 (.loop ⟨[(0, (.list .s)), (1, (.list .s)), (5, (.int .i64))], [], []⟩) .lf .lf), .lf, []⟩
theorem k97 x : g97.den Tr.lf TT A97 F Tryz.f10 x = S_laws_eqStringS x := by kernel_rfl
theorem o97 : OK 10 (g97.sem S_laws_eqStringS) := typed_ok2 ⟨tok, eqs, Tr.All.get (t := Tr.lf) trivial, mix⟩ Tryz.func10 (by kernel_rfl) (by kernel_rfl) g97 rfl _ k97
def g98 : Sig := ⟨⟨numD 0 [.int .i64], [], []⟩, .one (.str), [], [], true, false, [], []⟩
def A98 : Anns := ⟨(.nd 0 (.loop ⟨[(0, (.int .i64)), (3, .str)], [], []⟩) .lf .lf), .lf, []⟩
theorem k98 x : g98.den Tr.lf TT A98 F Tryz.f28 x = S_laws_markText x := by kernel_rfl
theorem o98 : OK 28 (g98.sem S_laws_markText) := typed_ok2 ⟨tok, eqs, Tr.All.get (t := Tr.lf) trivial, mix⟩ Tryz.func28 (by kernel_rfl) (by kernel_rfl) g98 rfl _ k98
def g99 : Sig := ⟨⟨numD 0 [.konst (.vec 0), .int .i64], [.row .s], []⟩, .one (.int .i64), [.row .s], [(0, 0, big)], true, false, [], []⟩
def E99 : Tr Sem1 := (.nd 28 (g98.sem S_laws_markText) .lf .lf)
def A99 : Anns := ⟨(.nd 0 (.loop ⟨[(0, (.konst (.vec 0))), (1, (.int .i64)), (5, (.int .i64))], [(.row .s)], []⟩) .lf .lf), .lf, []⟩
theorem k99 x : g99.den E99 TT A99 F Tryz.f11 x = S_laws_markStringS x := by kernel_rfl
theorem o99 : OK 11 (g99.sem S_laws_markStringS) := typed_ok2 ⟨tok, eqs, Tr.All.get (t := E99) ⟨o98, trivial, trivial⟩, mix⟩ Tryz.func11 (by kernel_rfl) (by kernel_rfl) g99 rfl _ k99
def g100 : Sig := ⟨⟨numD 0 [.list .s, .int .i64], [], []⟩, .one (.int .i64), [], [], false, false, [], []⟩
def E100 : Tr Sem1 := (.nd 28 (g98.sem S_laws_markText) .lf .lf)
def A100 : Anns := ⟨(.nd 0 (.loop ⟨[(0, (.list .s)), (1, (.int .i64)), (5, (.int .i64))], [], []⟩) .lf .lf), .lf, []⟩
theorem k100 x : g100.den E100 TT A100 F Tryz.f12 x = S_laws_heldStringS x := by kernel_rfl
theorem o100 : OK 12 (g100.sem S_laws_heldStringS) := typed_ok2 ⟨tok, eqs, Tr.All.get (t := E100) ⟨o98, trivial, trivial⟩, mix⟩ Tryz.func12 (by kernel_rfl) (by kernel_rfl) g100 rfl _ k100
def g101 : Sig := ⟨⟨numD 0 [.str, .int .i64], [], []⟩, .one (.bool), [], [], false, false, [], []⟩
def E101 : Tr Sem1 := (.nd 10 (g97.sem S_laws_eqStringS) (.nd 9 (g96.sem S_impl_ListLines) (.nd 8 (g43.sem S_spec_ListLines) .lf .lf) .lf) (.nd 12 (g100.sem S_laws_heldStringS) (.nd 11 (g99.sem S_laws_markStringS) .lf .lf) .lf))
theorem k101 x : g101.den E101 TT AN F Tryz.f4 x = S_laws_FnExactListLines x := by kernel_rfl
theorem o101 : OK 4 (g101.sem S_laws_FnExactListLines) := typed_ok2 ⟨tok, eqs, Tr.All.get (t := E101) ⟨o97, ⟨o96, ⟨o43, trivial, trivial⟩, trivial⟩, ⟨o100, ⟨o99, trivial, trivial⟩, trivial⟩⟩, mix⟩ Tryz.func4 (by kernel_rfl) (by kernel_rfl) g101 rfl _ k101
end Go.Proofs.YthgjocpbmnpjjaaGreatDoor.ListLines
