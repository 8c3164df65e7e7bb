/- Theory for the proofs of this claim: see its last text. -/
import Derived.Test.YthgjocpbmnpjjaaDoorFnStmts
import Derived.Test.YthgjocpbmnpjjaaDoorDenF
import Derived.Test.YthgjocpbmnpjjaaDoorShl
import Derived.Test.YthgjocpbmnpjjaaDoorProg
import Derived.KernelRfl
set_option maxRecDepth 100000
set_option linter.unusedVariables false
noncomputable section
namespace Go.Proofs.YthgjocpbmnpjjaaDoor.Stmts
open Go Go.Den Go.Den.G Go.Proofs Go.Proofs.YthgjocpbmnpjjaaDoor
abbrev B1 : BT := .var [(.list .u), (.int .i64), (.int .i64)]
abbrev B0 : BT := .var [(.int .i64), (.int .i64), (.int .i64), (.int .i64)]
def Ly : Lay := [(1, fun cs => ∃ m, cs = #[.int .i64 m]), (0, fun cs => cs = (Go.Lib.pow10Tab.map fun z => Value.int .u64 z).toArray), (3, fun cs => ∃ te pe, cs = #[.iface te pe]), (2, fun cs => ∃ te pe, cs = #[.iface te pe])]
def TT : Tr TI := (.nd 100 ⟨.fn, 1, 8, [.nilf], none, false⟩ (.nd 50 ⟨.fn, 1, 8, [.nilf], none, false⟩ (.nd 25 ⟨.fn, 1, 8, [.nilf], none, false⟩ (.nd 12 ⟨.int .u64, 1, 8, [.int .u64 0], none, false⟩ (.nd 6 ⟨.int .u8, 1, 1, [.int .u8 0], some .u, false⟩ (.nd 3 ⟨.int .i64, 1, 8, [.int .i64 0], some .i, false⟩ (.nd 2 ⟨.int .i64, 1, 8, [.int .i64 0], some .i, false⟩ (.nd 1 ⟨.fn, 1, 8, [.nilf], none, false⟩ .lf .lf) .lf) (.nd 5 ⟨.int .u8, 1, 1, [.int .u8 0], some .u, false⟩ (.nd 4 ⟨.bool, 1, 1, [.bool false], some .b, false⟩ .lf .lf) .lf)) (.nd 9 ⟨.str, 1, 16, [.str []], some .s, false⟩ (.nd 8 ⟨.struct [(0, 2), (1, 3), (2, 4), (3, 6)], 4, 24, [.int .i64 0, .int .i64 0, .bool false, .int .u8 0], none, false⟩ (.nd 7 ⟨.struct [(0, 2), (1, 3), (2, 4), (3, 6)], 4, 24, [.int .i64 0, .int .i64 0, .bool false, .int .u8 0], none, false⟩ .lf .lf) .lf) (.nd 11 ⟨.str, 1, 16, [.str []], some .s, false⟩ (.nd 10 ⟨.str, 1, 16, [.str []], some .s, false⟩ .lf .lf) .lf))) (.nd 18 ⟨.struct [(0, 17)], 1, 8, [.nilp], none, false⟩ (.nd 15 ⟨.ptr 194, 1, 8, [.nilp], none, false⟩ (.nd 14 ⟨.struct [(0, 9), (1, 12)], 2, 24, [.str [], .int .u64 0], none, false⟩ (.nd 13 ⟨.struct [(0, 9), (1, 12)], 2, 24, [.str [], .int .u64 0], none, false⟩ .lf .lf) .lf) (.nd 17 ⟨.ptr 204, 1, 8, [.nilp], none, false⟩ (.nd 16 ⟨.ptr 197, 1, 8, [.nilp], none, false⟩ .lf .lf) .lf)) (.nd 21 ⟨.int .i32, 1, 4, [.int .i32 0], none, false⟩ (.nd 20 ⟨.iface, 1, 16, [.err true], none, false⟩ (.nd 19 ⟨.struct [(0, 17)], 1, 8, [.nilp], none, false⟩ .lf .lf) .lf) (.nd 23 ⟨.struct [(0, 3), (1, 3), (2, 3), (3, 3), (4, 3), (5, 3), (6, 3)], 7, 56, [.int .i64 0, .int .i64 0, .int .i64 0, .int .i64 0, .int .i64 0, .int .i64 0, .int .i64 0], none, true⟩ (.nd 22 ⟨.struct [(0, 3), (1, 3), (2, 3), (3, 3), (4, 3), (5, 3), (6, 3)], 7, 56, [.int .i64 0, .int .i64 0, .int .i64 0, .int .i64 0, .int .i64 0, .int .i64 0, .int .i64 0], none, false⟩ .lf .lf) .lf)))) (.nd 37 ⟨.fn, 1, 8, [.nilf], none, false⟩ (.nd 31 ⟨.struct [(0, 29), (16, 3), (17, 3)], 18, 144, [.arr .i 16 [], .int .i64 0, .int .i64 0], none, true⟩ (.nd 28 ⟨.fn, 1, 8, [.nilf], none, false⟩ (.nd 27 ⟨.fn, 1, 8, [.nilf], none, false⟩ (.nd 26 ⟨.struct [(0, 3), (1, 3), (2, 3), (3, 3), (4, 3), (5, 3), (6, 3)], 7, 56, [.int .i64 0, .int .i64 0, .int .i64 0, .int .i64 0, .int .i64 0, .int .i64 0, .int .i64 0], none, true⟩ .lf .lf) .lf) (.nd 30 ⟨.struct [(0, 29), (16, 3), (17, 3)], 18, 144, [.arr .i 16 [], .int .i64 0, .int .i64 0], none, false⟩ (.nd 29 ⟨.array 16 3, 16, 128, [.arr .i 16 []], none, false⟩ .lf .lf) .lf)) (.nd 34 ⟨.struct [(0, 32)], 1, 24, [.nils], none, false⟩ (.nd 33 ⟨.struct [(0, 32)], 1, 24, [.nils], none, false⟩ (.nd 32 ⟨.slice 137, 1, 24, [.nils], none, false⟩ .lf .lf) .lf) (.nd 36 ⟨.struct [(0, 31), (18, 34), (19, 3), (20, 3), (21, 9), (22, 3), (23, 9), (24, 3), (25, 3), (26, 3), (27, 3), (28, 3), (29, 3)], 30, 272, [.arr .i 16 [], .int .i64 0, .int .i64 0, .nils, .int .i64 0, .int .i64 0, .str [], .int .i64 0, .str [], .int .i64 0, .int .i64 0, .int .i64 0, .int .i64 0, .int .i64 0, .int .i64 0], none, false⟩ (.nd 35 ⟨.struct [(0, 31), (18, 34), (19, 3), (20, 3), (21, 9), (22, 3), (23, 9), (24, 3), (25, 3), (26, 3), (27, 3), (28, 3), (29, 3)], 30, 272, [.arr .i 16 [], .int .i64 0, .int .i64 0, .nils, .int .i64 0, .int .i64 0, .str [], .int .i64 0, .str [], .int .i64 0, .int .i64 0, .int .i64 0, .int .i64 0, .int .i64 0, .int .i64 0], none, false⟩ .lf .lf) .lf))) (.nd 44 ⟨.struct [(0, 42)], 1, 24, [.nils], none, false⟩ (.nd 41 ⟨.struct [(0, 29), (16, 3), (17, 3)], 18, 144, [.arr .i 16 [], .int .i64 0, .int .i64 0], none, true⟩ (.nd 40 ⟨.fn, 1, 8, [.nilf], none, false⟩ (.nd 38 ⟨.slice 9, 1, 24, [.nils], none, false⟩ .lf .lf) .lf) (.nd 43 ⟨.struct [(0, 42)], 1, 24, [.nils], none, false⟩ (.nd 42 ⟨.slice 138, 1, 24, [.nils], none, false⟩ .lf .lf) .lf)) (.nd 47 ⟨.fn, 1, 8, [.nilf], none, false⟩ (.nd 46 ⟨.struct [(0, 41), (18, 44), (19, 3), (20, 3), (21, 9), (22, 3), (23, 9), (24, 3), (25, 3), (26, 3), (27, 3), (28, 3), (29, 3)], 30, 272, [.arr .i 16 [], .int .i64 0, .int .i64 0, .nils, .int .i64 0, .int .i64 0, .str [], .int .i64 0, .str [], .int .i64 0, .int .i64 0, .int .i64 0, .int .i64 0, .int .i64 0, .int .i64 0], none, false⟩ (.nd 45 ⟨.struct [(0, 41), (18, 44), (19, 3), (20, 3), (21, 9), (22, 3), (23, 9), (24, 3), (25, 3), (26, 3), (27, 3), (28, 3), (29, 3)], 30, 272, [.arr .i 16 [], .int .i64 0, .int .i64 0, .nils, .int .i64 0, .int .i64 0, .str [], .int .i64 0, .str [], .int .i64 0, .int .i64 0, .int .i64 0, .int .i64 0, .int .i64 0, .int .i64 0], none, false⟩ .lf .lf) .lf) (.nd 49 ⟨.fn, 1, 8, [.nilf], none, false⟩ (.nd 48 ⟨.fn, 1, 8, [.nilf], none, false⟩ .lf .lf) .lf))))) (.nd 75 ⟨.fn, 1, 8, [.nilf], none, false⟩ (.nd 63 ⟨.fn, 1, 8, [.nilf], none, false⟩ (.nd 56 ⟨.fn, 1, 8, [.nilf], none, false⟩ (.nd 53 ⟨.slice 59, 1, 24, [.nils], none, false⟩ (.nd 52 ⟨.fn, 1, 8, [.nilf], none, false⟩ (.nd 51 ⟨.fn, 1, 8, [.nilf], none, false⟩ .lf .lf) .lf) (.nd 55 ⟨.fn, 1, 8, [.nilf], none, false⟩ (.nd 54 ⟨.fn, 1, 8, [.nilf], none, false⟩ .lf .lf) .lf)) (.nd 59 ⟨.struct [(0, 3), (1, 3), (2, 3), (3, 3)], 4, 32, [.int .i64 0, .int .i64 0, .int .i64 0, .int .i64 0], some .stm, true⟩ (.nd 58 ⟨.struct [(0, 3), (1, 3), (2, 3), (3, 3)], 4, 32, [.int .i64 0, .int .i64 0, .int .i64 0, .int .i64 0], none, false⟩ (.nd 57 ⟨.fn, 1, 8, [.nilf], none, false⟩ .lf .lf) .lf) (.nd 62 ⟨.fn, 1, 8, [.nilf], none, false⟩ (.nd 61 ⟨.fn, 1, 8, [.nilf], none, false⟩ .lf .lf) .lf))) (.nd 69 ⟨.fn, 1, 8, [.nilf], none, false⟩ (.nd 66 ⟨.fn, 1, 8, [.nilf], none, false⟩ (.nd 65 ⟨.fn, 1, 8, [.nilf], none, false⟩ (.nd 64 ⟨.slice 5, 1, 24, [.nils], none, false⟩ .lf .lf) .lf) (.nd 68 ⟨.fn, 1, 8, [.nilf], none, false⟩ (.nd 67 ⟨.fn, 1, 8, [.nilf], none, false⟩ .lf .lf) .lf)) (.nd 72 ⟨.fn, 1, 8, [.nilf], none, false⟩ (.nd 71 ⟨.fn, 1, 8, [.nilf], none, false⟩ (.nd 70 ⟨.fn, 1, 8, [.nilf], none, false⟩ .lf .lf) .lf) (.nd 74 ⟨.fn, 1, 8, [.nilf], none, false⟩ (.nd 73 ⟨.fn, 1, 8, [.nilf], none, false⟩ .lf .lf) .lf)))) (.nd 88 ⟨.fn, 1, 8, [.nilf], none, false⟩ (.nd 82 ⟨.fn, 1, 8, [.nilf], none, false⟩ (.nd 78 ⟨.fn, 1, 8, [.nilf], none, false⟩ (.nd 77 ⟨.fn, 1, 8, [.nilf], none, false⟩ (.nd 76 ⟨.fn, 1, 8, [.nilf], none, false⟩ .lf .lf) .lf) (.nd 81 ⟨.fn, 1, 8, [.nilf], none, false⟩ (.nd 79 ⟨.fn, 1, 8, [.nilf], none, false⟩ .lf .lf) .lf)) (.nd 85 ⟨.fn, 1, 8, [.nilf], none, false⟩ (.nd 84 ⟨.ptr 121, 1, 8, [.nilp], none, false⟩ (.nd 83 ⟨.fn, 1, 8, [.nilf], none, false⟩ .lf .lf) .lf) (.nd 87 ⟨.fn, 1, 8, [.nilf], none, false⟩ (.nd 86 ⟨.fn, 1, 8, [.nilf], none, false⟩ .lf .lf) .lf))) (.nd 94 ⟨.fn, 1, 8, [.nilf], none, false⟩ (.nd 91 ⟨.fn, 1, 8, [.nilf], none, false⟩ (.nd 90 ⟨.fn, 1, 8, [.nilf], none, false⟩ (.nd 89 ⟨.fn, 1, 8, [.nilf], none, false⟩ .lf .lf) .lf) (.nd 93 ⟨.fn, 1, 8, [.nilf], none, false⟩ (.nd 92 ⟨.fn, 1, 8, [.nilf], none, false⟩ .lf .lf) .lf)) (.nd 97 ⟨.fn, 1, 8, [.nilf], none, false⟩ (.nd 96 ⟨.fn, 1, 8, [.nilf], none, false⟩ (.nd 95 ⟨.fn, 1, 8, [.nilf], none, false⟩ .lf .lf) .lf) (.nd 99 ⟨.fn, 1, 8, [.nilf], none, false⟩ (.nd 98 ⟨.fn, 1, 8, [.nilf], none, false⟩ .lf .lf) .lf)))))) (.nd 150 ⟨.fn, 1, 8, [.nilf], none, false⟩ (.nd 125 ⟨.fn, 1, 8, [.nilf], none, false⟩ (.nd 113 ⟨.fn, 1, 8, [.nilf], none, false⟩ (.nd 106 ⟨.fn, 1, 8, [.nilf], none, false⟩ (.nd 103 ⟨.fn, 1, 8, [.nilf], none, false⟩ (.nd 102 ⟨.fn, 1, 8, [.nilf], none, false⟩ (.nd 101 ⟨.fn, 1, 8, [.nilf], none, false⟩ .lf .lf) .lf) (.nd 105 ⟨.fn, 1, 8, [.nilf], none, false⟩ (.nd 104 ⟨.fn, 1, 8, [.nilf], none, false⟩ .lf .lf) .lf)) (.nd 109 ⟨.fn, 1, 8, [.nilf], none, false⟩ (.nd 108 ⟨.fn, 1, 8, [.nilf], none, false⟩ (.nd 107 ⟨.fn, 1, 8, [.nilf], none, false⟩ .lf .lf) .lf) (.nd 111 ⟨.slice 3, 1, 24, [.nils], none, false⟩ (.nd 110 ⟨.fn, 1, 8, [.nilf], none, false⟩ .lf .lf) .lf))) (.nd 119 ⟨.fn, 1, 8, [.nilf], none, false⟩ (.nd 116 ⟨.slice 117, 1, 24, [.nils], none, false⟩ (.nd 115 ⟨.fn, 1, 8, [.nilf], none, false⟩ (.nd 114 ⟨.fn, 1, 8, [.nilf], none, false⟩ .lf .lf) .lf) (.nd 118 ⟨.fn, 1, 8, [.nilf], none, false⟩ (.nd 117 ⟨.ptr 3, 1, 8, [.nilp], none, false⟩ .lf .lf) .lf)) (.nd 122 ⟨.fn, 1, 8, [.nilf], none, false⟩ (.nd 121 ⟨.struct [(0, 64), (1, 3), (2, 3)], 3, 40, [.nils, .int .i64 0, .int .i64 0], none, false⟩ (.nd 120 ⟨.struct [(0, 64), (1, 3), (2, 3)], 3, 40, [.nils, .int .i64 0, .int .i64 0], none, false⟩ .lf .lf) .lf) (.nd 124 ⟨.fn, 1, 8, [.nilf], none, false⟩ (.nd 123 ⟨.fn, 1, 8, [.nilf], none, false⟩ .lf .lf) .lf)))) (.nd 138 ⟨.struct [(0, 3), (1, 3), (2, 9)], 3, 32, [.int .i64 0, .int .i64 0, .str []], some .page, true⟩ (.nd 131 ⟨.iface, 1, 16, [.err true], none, false⟩ (.nd 128 ⟨.struct [(0, 127), (1, 64)], 2, 32, [.nilp, .nils], none, false⟩ (.nd 127 ⟨.ptr 129, 1, 8, [.nilp], none, false⟩ (.nd 126 ⟨.map 3 9, 1, 8, [.dead], none, false⟩ .lf .lf) .lf) (.nd 130 ⟨.fn, 1, 8, [.nilf], none, false⟩ (.nd 129 ⟨.struct [(0, 127), (1, 64)], 2, 32, [.nilp, .nils], none, false⟩ .lf .lf) .lf)) (.nd 135 ⟨.fn, 1, 8, [.nilf], none, false⟩ (.nd 134 ⟨.fn, 1, 8, [.nilf], none, false⟩ (.nd 132 ⟨.iface, 1, 16, [.err true], none, false⟩ .lf .lf) .lf) (.nd 137 ⟨.struct [(0, 3), (1, 3), (2, 9)], 3, 32, [.int .i64 0, .int .i64 0, .str []], some .page, true⟩ (.nd 136 ⟨.struct [(0, 3), (1, 3), (2, 9)], 3, 32, [.int .i64 0, .int .i64 0, .str []], none, false⟩ .lf .lf) .lf))) (.nd 144 ⟨.fn, 1, 8, [.nilf], none, false⟩ (.nd 141 ⟨.fn, 1, 8, [.nilf], none, false⟩ (.nd 140 ⟨.fn, 1, 8, [.nilf], none, false⟩ (.nd 139 ⟨.int .u64, 1, 8, [.int .u64 0], none, false⟩ .lf .lf) .lf) (.nd 143 ⟨.fn, 1, 8, [.nilf], none, false⟩ (.nd 142 ⟨.fn, 1, 8, [.nilf], none, false⟩ .lf .lf) .lf)) (.nd 147 ⟨.int .u64, 1, 8, [.int .u64 0], none, false⟩ (.nd 146 ⟨.ptr 5, 1, 8, [.nilp], none, false⟩ (.nd 145 ⟨.fn, 1, 8, [.nilf], none, false⟩ .lf .lf) .lf) (.nd 149 ⟨.fn, 1, 8, [.nilf], none, false⟩ (.nd 148 ⟨.fn, 1, 8, [.nilf], none, false⟩ .lf .lf) .lf))))) (.nd 180 ⟨.fn, 1, 8, [.nilf], none, false⟩ (.nd 165 ⟨.fn, 1, 8, [.nilf], none, false⟩ (.nd 158 ⟨.fn, 1, 8, [.nilf], none, false⟩ (.nd 153 ⟨.fn, 1, 8, [.nilf], none, false⟩ (.nd 152 ⟨.fn, 1, 8, [.nilf], none, false⟩ (.nd 151 ⟨.array 24 5, 24, 24, [.arr .u 24 []], none, false⟩ .lf .lf) .lf) (.nd 157 ⟨.fn, 1, 8, [.nilf], none, false⟩ (.nd 155 ⟨.fn, 1, 8, [.nilf], none, false⟩ .lf .lf) .lf)) (.nd 162 ⟨.ptr 178, 1, 8, [.nilp], none, false⟩ (.nd 161 ⟨.fn, 1, 8, [.nilf], none, false⟩ (.nd 159 ⟨.int .i64, 1, 8, [.int .i64 0], some .i, false⟩ .lf .lf) .lf) (.nd 164 ⟨.fn, 1, 8, [.nilf], none, false⟩ (.nd 163 ⟨.fn, 1, 8, [.nilf], none, false⟩ .lf .lf) .lf))) (.nd 173 ⟨.array 65 5, 65, 65, [.arr .u 65 []], none, false⟩ (.nd 169 ⟨.fn, 1, 8, [.nilf], none, false⟩ (.nd 168 ⟨.fn, 1, 8, [.nilf], none, false⟩ (.nd 166 ⟨.fn, 1, 8, [.nilf], none, false⟩ .lf .lf) .lf) (.nd 172 ⟨.int .u32, 1, 4, [.int .u32 0], none, false⟩ (.nd 170 ⟨.fn, 1, 8, [.nilf], none, false⟩ .lf .lf) .lf)) (.nd 177 ⟨.struct [(0, 9), (1, 9), (2, 132)], 3, 48, [.str [], .str [], .err true], none, false⟩ (.nd 176 ⟨.fn, 1, 8, [.nilf], none, false⟩ (.nd 174 ⟨.fn, 1, 8, [.nilf], none, false⟩ .lf .lf) .lf) (.nd 179 ⟨.fn, 1, 8, [.nilf], none, false⟩ (.nd 178 ⟨.struct [(0, 9), (1, 9), (2, 132)], 3, 48, [.str [], .str [], .err true], none, false⟩ .lf .lf) .lf)))) (.nd 193 ⟨.struct [(0, 17), (1, 17), (2, 17), (3, 9)], 4, 40, [.nilp, .nilp, .nilp, .str []], none, false⟩ (.nd 186 ⟨.struct [(0, 5), (1, 5)], 2, 2, [.int .u8 0, .int .u8 0], none, false⟩ (.nd 183 ⟨.struct [(0, 9)], 1, 16, [.str []], none, false⟩ (.nd 182 ⟨.ptr 184, 1, 8, [.nilp], none, false⟩ (.nd 181 ⟨.fn, 1, 8, [.nilf], none, false⟩ .lf .lf) .lf) (.nd 185 ⟨.array 256 5, 256, 256, [.arr .u 256 []], none, false⟩ (.nd 184 ⟨.struct [(0, 9)], 1, 16, [.str []], none, false⟩ .lf .lf) .lf)) (.nd 190 ⟨.fn, 1, 8, [.nilf], none, false⟩ (.nd 188 ⟨.array 16 187, 32, 32, [.int .u8 0, .int .u8 0, .int .u8 0, .int .u8 0, .int .u8 0, .int .u8 0, .int .u8 0, .int .u8 0, .int .u8 0, .int .u8 0, .int .u8 0, .int .u8 0, .int .u8 0, .int .u8 0, .int .u8 0, .int .u8 0, .int .u8 0, .int .u8 0, .int .u8 0, .int .u8 0, .int .u8 0, .int .u8 0, .int .u8 0, .int .u8 0, .int .u8 0, .int .u8 0, .int .u8 0, .int .u8 0, .int .u8 0, .int .u8 0, .int .u8 0, .int .u8 0], none, false⟩ (.nd 187 ⟨.struct [(0, 5), (1, 5)], 2, 2, [.int .u8 0, .int .u8 0], none, false⟩ .lf .lf) .lf) (.nd 192 ⟨.array 64 5, 64, 64, [.arr .u 64 []], none, false⟩ (.nd 191 ⟨.array 32 5, 32, 32, [.arr .u 32 []], none, false⟩ .lf .lf) .lf))) (.nd 199 ⟨.int .u8, 1, 1, [.int .u8 0], some .u, false⟩ (.nd 196 ⟨.struct [(0, 195)], 0, 0, [], none, false⟩ (.nd 195 ⟨.array 0 16, 0, 0, [], none, false⟩ (.nd 194 ⟨.struct [(0, 17), (1, 17), (2, 17), (3, 9)], 4, 40, [.nilp, .nilp, .nilp, .str []], none, false⟩ .lf .lf) .lf) (.nd 198 ⟨.int .u8, 1, 1, [.int .u8 0], some .u, false⟩ (.nd 197 ⟨.struct [(0, 195)], 0, 0, [], none, false⟩ .lf .lf) .lf)) (.nd 202 ⟨.int .i32, 1, 4, [.int .i32 0], none, false⟩ (.nd 201 ⟨.int .i32, 1, 4, [.int .i32 0], none, false⟩ (.nd 200 ⟨.fn, 1, 8, [.nilf], none, false⟩ .lf .lf) .lf) (.nd 204 ⟨.struct [(0, 12), (1, 12), (2, 172), (3, 198), (4, 5), (5, 5), (6, 199), (7, 200), (8, 146), (9, 201), (10, 202)], 11, 48, [.int .u64 0, .int .u64 0, .int .u32 0, .int .u8 0, .int .u8 0, .int .u8 0, .int .u8 0, .nilf, .nilp, .int .i32 0, .int .i32 0], none, false⟩ (.nd 203 ⟨.struct [(0, 12), (1, 12), (2, 172), (3, 198), (4, 5), (5, 5), (6, 199), (7, 200), (8, 146), (9, 201), (10, 202)], 11, 48, [.int .u64 0, .int .u64 0, .int .u32 0, .int .u8 0, .int .u8 0, .int .u8 0, .int .u8 0, .nilf, .nilp, .int .i32 0, .int .i32 0], none, false⟩ .lf .lf) .lf)))))))
abbrev OK (n : Nat) (S : Sem1) : Prop := SemOK Tryd.prog Ly n S
def AN : Anns := ⟨.lf, .lf, []⟩
theorem tok : TOK Tryd.prog TT := by unfold TOK; kernel_rfl
theorem eqs : EqAgg Tryd.prog TT := eqTab_ok (by kernel_rfl)
theorem mix : Tryd.prog.follows .mixedOrders = true := by kernel_rfl
def g0 : Sig := ⟨⟨numD 0 [.list .u], [], []⟩, .one (.konst (.ptr 0 0)), [.var [.list .u, .int .i64, .int .i64]], [], false, false, [], []⟩
theorem k0 x : g0.den Tr.lf TT AN F Tryd.f50 x = S_spec_l00Source x := by kernel_rfl
theorem o0 : OK 50 (g0.sem S_spec_l00Source) := typed_ok2 ⟨tok, eqs, Tr.All.get (t := Tr.lf) trivial, mix⟩ Tryd.func50 (by kernel_rfl) (by kernel_rfl) g0 rfl _ k0
def g1 : Sig := ⟨⟨numD 0 [.konst (.ptr 0 0)], [.var [.list .u, .int .i64, .int .i64]], []⟩, .one (.int .i64), [.var [.list .u, .int .i64, .int .i64]], [(0, 1, 3)], false, false, [], []⟩
theorem k1 x : g1.den Tr.lf TT AN F Tryd.f139 x = S_spec_l00Src_byte x := by kernel_rfl
theorem o1 : OK 139 (g1.sem S_spec_l00Src_byte) := typed_ok2 ⟨tok, eqs, Tr.All.get (t := Tr.lf) trivial, mix⟩ Tryd.func139 (by kernel_rfl) (by kernel_rfl) g1 rfl _ k1
def g2 : Sig := ⟨⟨numD 0 [.konst (.ptr 0 0), .int .i64], [.var [.list .u, .int .i64, .int .i64]], []⟩, .one (.int .i64), [.var [.list .u, .int .i64, .int .i64]], [(0, 1, 3)], false, false, [], []⟩
def E2 : Tr Sem1 := (.nd 139 (g1.sem S_spec_l00Src_byte) .lf .lf)
theorem k2 x : g2.den E2 TT AN F Tryd.f103 x = S_spec_l00Src_next x := by kernel_rfl
theorem o2 : OK 103 (g2.sem S_spec_l00Src_next) := typed_ok2 ⟨tok, eqs, Tr.All.get (t := E2) ⟨o1, trivial, trivial⟩, mix⟩ Tryd.func103 (by kernel_rfl) (by kernel_rfl) g2 rfl _ k2
def g3 : Sig := ⟨⟨numD 0 [.konst (.ptr 0 0)], [.var [.list .u, .int .i64, .int .i64]], []⟩, .one (.int .i64), [.var [.list .u, .int .i64, .int .i64]], [(0, 1, 3)], false, false, [], []⟩
def E3 : Tr Sem1 := (.nd 103 (g2.sem S_spec_l00Src_next) .lf .lf)
theorem k3 x : g3.den E3 TT AN F Tryd.f105 x = S_spec_l00Src_named x := by kernel_rfl
theorem o3 : OK 105 (g3.sem S_spec_l00Src_named) := typed_ok2 ⟨tok, eqs, Tr.All.get (t := E3) ⟨o2, trivial, trivial⟩, mix⟩ Tryd.func105 (by kernel_rfl) (by kernel_rfl) g3 rfl _ k3
def g4 : Sig := ⟨⟨numD 0 [.konst (.ptr 0 0)], [.var [.list .u, .int .i64, .int .i64]], []⟩, .one (.int .i64), [.var [.list .u, .int .i64, .int .i64]], [(0, 1, 3)], false, false, [], []⟩
def E4 : Tr Sem1 := (.nd 139 (g1.sem S_spec_l00Src_byte) .lf .lf)
theorem k4 x : g4.den E4 TT AN F Tryd.f106 x = S_spec_l00Src_word x := by kernel_rfl
theorem o4 : OK 106 (g4.sem S_spec_l00Src_word) := typed_ok2 ⟨tok, eqs, Tr.All.get (t := E4) ⟨o1, trivial, trivial⟩, mix⟩ Tryd.func106 (by kernel_rfl) (by kernel_rfl) g4 rfl _ k4
def g5 : Sig := ⟨⟨numD 0 [.konst (.ptr 0 0), .int .i64], [.var [.list .u, .int .i64, .int .i64]], []⟩, .one (.el .stm), [.var [.list .u, .int .i64, .int .i64]], [(0, 1, 3)], false, false, [], []⟩
def E5 : Tr Sem1 := (.nd 105 (g3.sem S_spec_l00Src_named) (.nd 103 (g2.sem S_spec_l00Src_next) .lf .lf) (.nd 106 (g4.sem S_spec_l00Src_word) .lf .lf))
def A5 : Anns := ⟨.lf, (.nd 80 ⟨[(0, (.konst (.ptr 0 0))), (1, (.int .i64)), (4, (.konst (.ptr 1 0))), (5, (.int .i64)), (6, (.int .i64)), (13, (.int .i64)), (40, .bool)], [(B1), (B0)], []⟩ (.nd 28 ⟨[(0, (.konst (.ptr 0 0))), (1, (.int .i64)), (4, (.konst (.ptr 1 0))), (5, (.int .i64)), (6, (.int .i64)), (13, (.int .i64)), (14, .bool)], [(B1), (B0)], []⟩ .lf .lf) (.nd 232 ⟨[(0, (.konst (.ptr 0 0))), (4, (.konst (.ptr 1 0))), (5, (.int .i64)), (7, (.int .i64)), (111, (.int .i64)), (116, .bool)], [(B1), (B0)], []⟩ .lf .lf)), []⟩
theorem k5 x : g5.den E5 TT A5 F Tryd.f52 x = S_spec_l00Src_stmt x := by kernel_rfl
theorem o5 : OK 52 (g5.sem S_spec_l00Src_stmt) := typed_ok2 ⟨tok, eqs, Tr.All.get (t := E5) ⟨o3, ⟨o2, trivial, trivial⟩, ⟨o4, trivial, trivial⟩⟩, mix⟩ Tryd.func52 (by kernel_rfl) (by kernel_rfl) g5 rfl _ k5
def g6 : Sig := ⟨⟨numD 0 [], [], []⟩, .one (.list .s), [], [], false, false, [], []⟩
theorem k6 x : g6.den Tr.lf TT AN F Tryd.f95 x = S_spec_l16Words x := by kernel_rfl
theorem o6 : OK 95 (g6.sem S_spec_l16Words) := typed_ok2 ⟨tok, eqs, Tr.All.get (t := Tr.lf) trivial, mix⟩ Tryd.func95 (by kernel_rfl) (by kernel_rfl) g6 rfl _ k6
def g7 : Sig := ⟨⟨numD 0 [.int .i64], [], []⟩, .one (.int .i64), [], [], false, false, [], []⟩
theorem k7 x : g7.den Tr.lf TT AN F Tryd.f97 x = S_spec_l16Many x := by kernel_rfl
theorem o7 : OK 97 (g7.sem S_spec_l16Many) := typed_ok2 ⟨tok, eqs, Tr.All.get (t := Tr.lf) trivial, mix⟩ Tryd.func97 (by kernel_rfl) (by kernel_rfl) g7 rfl _ k7
def g8 : Sig := ⟨⟨numD 0 [.int .i64], [], []⟩, .one (.str), [], [], false, false, [], []⟩
def E8 (n0 : Nat) : Tr Sem1 := (.nd 62 (g8.sem (RS_spec_l00Digits n0)) .lf .lf)
theorem k8 n0 x : g8.den (E8 n0) TT AN F Tryd.f62 x = RS_spec_l00Digits (n0 + 1) x := by kernel_rfl
theorem r8 : ∀ n0, OK 62 (g8.sem (RS_spec_l00Digits n0))
  | 0 => sem_none g8 (RS_spec_l00Digits 0) (fun _ => rfl)
  | n0 + 1 => typed_ok2 ⟨tok, eqs, Tr.All.get (t := E8 n0) ⟨(r8 n0), trivial, trivial⟩, mix⟩ Tryd.func62 (by kernel_rfl) (by kernel_rfl) g8 rfl _ (k8 n0)
theorem o8 : OK 62 (g8.sem S_spec_l00Digits) := r8 100
def g9 : Sig := ⟨⟨numD 0 [.str, .list .i], [], []⟩, .one (.str), [], [], false, false, [], []⟩
def E9 : Tr Sem1 := (.nd 62 (g8.sem S_spec_l00Digits) .lf .lf)
def A9 : Anns := ⟨(.nd 0 (.loop ⟨[(0, .str), (1, (.list .i)), (5, (.int .i64))], [], []⟩) .lf .lf), .lf, []⟩
theorem k9 x : g9.den E9 TT A9 F Tryd.f114 x = S_spec_l16Numbers x := by kernel_rfl
theorem o9 : OK 114 (g9.sem S_spec_l16Numbers) := typed_ok2 ⟨tok, eqs, Tr.All.get (t := E9) ⟨o8, trivial, trivial⟩, mix⟩ Tryd.func114 (by kernel_rfl) (by kernel_rfl) g9 rfl _ k9
def g10 : Sig := ⟨⟨numD 0 [.el .stm], [], []⟩, .one (.str), [], [], false, false, [], []⟩
def E10 : Tr Sem1 := (.nd 97 (g7.sem S_spec_l16Many) (.nd 95 (g6.sem S_spec_l16Words) .lf .lf) (.nd 114 (g9.sem S_spec_l16Numbers) .lf .lf))
theorem k10 x : g10.den E10 TT AN F Tryd.f56 x = S_spec_l16Stmt x := by kernel_rfl
theorem o10 : OK 56 (g10.sem S_spec_l16Stmt) := typed_ok2 ⟨tok, eqs, Tr.All.get (t := E10) ⟨o7, ⟨o6, trivial, trivial⟩, ⟨o9, trivial, trivial⟩⟩, mix⟩ Tryd.func56 (by kernel_rfl) (by kernel_rfl) g10 rfl _ k10
def g11 : Sig := ⟨⟨numD 0 [.konst (.ptr 0 0), .list .s], [.var [.list .u, .int .i64, .int .i64]], []⟩, .one (.str), [.var [.list .u, .int .i64, .int .i64]], [(0, 1, 3)], false, false, [], []⟩
def E11 : Tr Sem1 := (.nd 103 (g2.sem S_spec_l00Src_next) .lf .lf)
theorem k11 x : g11.den E11 TT AN F Tryd.f104 x = S_spec_l00Src_pick x := by kernel_rfl
theorem o11 : OK 104 (g11.sem S_spec_l00Src_pick) := typed_ok2 ⟨tok, eqs, Tr.All.get (t := E11) ⟨o2, trivial, trivial⟩, mix⟩ Tryd.func104 (by kernel_rfl) (by kernel_rfl) g11 rfl _ k11
def g12 : Sig := ⟨⟨numD 0 [.konst (.ptr 0 0)], [.var [.list .u, .int .i64, .int .i64]], []⟩, .one (.str), [.var [.list .u, .int .i64, .int .i64]], [(0, 1, 3)], false, false, [], []⟩
def E12 : Tr Sem1 := (.nd 103 (g2.sem S_spec_l00Src_next) (.nd 56 (g10.sem S_spec_l16Stmt) (.nd 52 (g5.sem S_spec_l00Src_stmt) .lf .lf) .lf) (.nd 104 (g11.sem S_spec_l00Src_pick) .lf .lf))
theorem k12 x : g12.den E12 TT AN F Tryd.f51 x = S_spec_l00Src_stmtLine x := by kernel_rfl
theorem o12 : OK 51 (g12.sem S_spec_l00Src_stmtLine) := typed_ok2 ⟨tok, eqs, Tr.All.get (t := E12) ⟨o2, ⟨o10, ⟨o5, trivial, trivial⟩, trivial⟩, ⟨o11, trivial, trivial⟩⟩, mix⟩ Tryd.func51 (by kernel_rfl) (by kernel_rfl) g12 rfl _ k12
def g13 : Sig := ⟨⟨numD 0 [.list .u], [], []⟩, .one (.str), [], [], false, false, [], []⟩
def E13 : Tr Sem1 := (.nd 51 (g12.sem S_spec_l00Src_stmtLine) (.nd 50 (g0.sem S_spec_l00Source) .lf .lf) .lf)
theorem k13 x : g13.den E13 TT AN F Tryd.f28 x = S_spec_StmtLine x := by kernel_rfl
theorem o13 : OK 28 (g13.sem S_spec_StmtLine) := typed_ok2 ⟨tok, eqs, Tr.All.get (t := E13) ⟨o12, ⟨o0, trivial, trivial⟩, trivial⟩, mix⟩ Tryd.func28 (by kernel_rfl) (by kernel_rfl) g13 rfl _ k13
theorem o14 : OK 101 splitSem := split_ok Tryd.func101 (by kernel_rfl) (by kernel_rfl) (gm := 1) (by simp [Ly]) (fun s p m w h1 h2 h3 => Tryd.strings_Split s p m w h1 h2 h3) (fun s p h => Go.Lib.splitB_all p h 0 _ s rfl)
def g15 : Sig := ⟨⟨numD 0 [.str], [], []⟩, .one (.bool), [], [], false, false, [], []⟩
theorem k15 x : g15.den Tr.lf TT AN F Tryd.f102 x = S_impl_wordsOf_1 x := by kernel_rfl
theorem o15 : OK 102 (g15.sem S_impl_wordsOf_1) := typed_ok2 ⟨tok, eqs, Tr.All.get (t := Tr.lf) trivial, mix⟩ Tryd.func102 (by kernel_rfl) (by kernel_rfl) g15 rfl _ k15
def g16 : Sig := ⟨⟨numD 0 [.list .s, .konst (.func (.func 102) [] [])], [], []⟩, .one (.int .i64), [], [], false, false, [], []⟩
def E16 : Tr Sem1 := (.nd 102 (g15.sem S_impl_wordsOf_1) .lf .lf)
def A16 : Anns := ⟨(.nd 0 (.loop ⟨[(0, (.list .s)), (1, (.konst (.func (.func 102) [] []))), (7, (.int .i64)), (8, (.int .i64))], [], []⟩) .lf .lf), .lf, []⟩
theorem k16 x : g16.den E16 TT A16 F Tryd.f137 x = S_slices_IndexFunc_string_cimpl_wordsOf_1 x := by kernel_rfl
theorem o16 : OK 137 (g16.sem S_slices_IndexFunc_string_cimpl_wordsOf_1) := typed_ok2 ⟨tok, eqs, Tr.All.get (t := E16) ⟨o15, trivial, trivial⟩, mix⟩ Tryd.func137 (by kernel_rfl) (by kernel_rfl) g16 rfl _ k16
def g17 : Sig := ⟨⟨numD 0 [.konst (.vec 0), .konst (.func (.func 102) [] [])], [.row .s], []⟩, .one (.list .s), [.konst .gone], [(0, 0, big)], true, false, [], [0]⟩
def E17 : Tr Sem1 := (.nd 137 (g16.sem S_slices_IndexFunc_string_cimpl_wordsOf_1) (.nd 102 (g15.sem S_impl_wordsOf_1) .lf .lf) .lf)
def A17 : Anns := ⟨(.nd 0 (.loop ⟨[(0, (.konst (.vec 1))), (1, (.konst (.func (.func 102) [] []))), (5, (.int .i64)), (6, (.int .i64))], [(.konst .gone), (.row .s)], []⟩) .lf .lf), (.nd 58 ⟨[(0, (.konst (.vec 1))), (1, (.konst (.func (.func 102) [] []))), (5, (.int .i64)), (6, (.int .i64))], [(.konst .gone), (.row .s)], []⟩ .lf .lf), []⟩
theorem k17 x : g17.den E17 TT A17 F Tryd.f100 x = S_slices_DeleteFunc_string_cimpl_wordsOf_1 x := by kernel_rfl
theorem o17 : OK 100 (g17.sem S_slices_DeleteFunc_string_cimpl_wordsOf_1) := typed_ok2 ⟨tok, eqs, Tr.All.get (t := E17) ⟨o16, ⟨o15, trivial, trivial⟩, trivial⟩, mix⟩ Tryd.func100 (by kernel_rfl) (by kernel_rfl) g17 rfl _ k17
def g18 : Sig := ⟨⟨numD 0 [.str], [], []⟩, .one (.list .s), [], [], false, false, [], []⟩
def E18 : Tr Sem1 := (.nd 101 splitSem (.nd 100 (g17.sem S_slices_DeleteFunc_string_cimpl_wordsOf_1) .lf .lf) .lf)
theorem k18 x : g18.den E18 TT AN F Tryd.f49 x = S_impl_wordsOf x := by kernel_rfl
theorem o18 : OK 49 (g18.sem S_impl_wordsOf) := typed_ok2 ⟨tok, eqs, Tr.All.get (t := E18) ⟨o14, ⟨o17, trivial, trivial⟩, trivial⟩, mix⟩ Tryd.func49 (by kernel_rfl) (by kernel_rfl) g18 rfl _ k18
def g19 : Sig := ⟨⟨numD 0 [.int .i64], [], []⟩, .tup [.str, .int .i64], [], [], false, false, [], []⟩
theorem k19 x : g19.den Tr.lf TT AN F Tryd.f98 x = S_impl_stmtForm x := by kernel_rfl
theorem o19 : OK 98 (g19.sem S_impl_stmtForm) := typed_ok2 ⟨tok, eqs, Tr.All.get (t := Tr.lf) trivial, mix⟩ Tryd.func98 (by kernel_rfl) (by kernel_rfl) g19 rfl _ k19
theorem o20 : OK 135 atoiSem := atoi_ok Tryd.func135 (by kernel_rfl) (by kernel_rfl) (gs := 2) (gr := 3) (by simp [Ly]) (by simp [Ly]) (fun s v w h1 h2 => (Tryd.strconv_Atoi_ok s h1 v h2 w).mono fun e w2 ⟨h3, h4⟩ => ⟨h3, by rcases h4 with rfl | ⟨t, rfl⟩ <;> first | exact Go.RowKit.Below.refl _ _ | exact below_bytes _ _ _⟩) (fun s ev w h1 h2 h3 h4 => (Tryd.strconv_Atoi_syntax s h1 (fun v h => by rw [h] at h2; exact h2) (fun h => by rw [h] at h2; exact h2) ev w h3 h4).mono fun e w2 ⟨N, h5, _, _, h6⟩ => ⟨N, h5, h6⟩) (fun s ev w h1 h2 h3 h4 => (Tryd.strconv_Atoi_range s h1 h2 ev w h3 h4).mono fun e w2 ⟨N, h5, _, _, h6⟩ => ⟨N, h5, h6⟩)
def g21 : Sig := ⟨⟨numD 0 [.int .i64], [], []⟩, .one (.str), [], [], false, false, [], []⟩
theorem o21 : OK 69 (g21.sem S_strconv_Itoa) := itoa_ok Tryd.func69 (by kernel_rfl) (by kernel_rfl) (by kernel_rfl) (gv := 0) (by simp [Ly]) (by kernel_rfl) (fun n h0 h1 w ht => Tryd.strconv_Itoa n h0 h1 w ht)
def g22 : Sig := ⟨⟨numD 0 [.str, .str], [], []⟩, .one (.bool), [], [], false, false, [], []⟩
theorem k22 x : g22.den Tr.lf TT AN F Tryd.f163 x = S_internal_stringslite_HasPrefix x := by kernel_rfl
theorem o22 : OK 163 (g22.sem S_internal_stringslite_HasPrefix) := typed_ok2 ⟨tok, eqs, Tr.All.get (t := Tr.lf) trivial, mix⟩ Tryd.func163 (by kernel_rfl) (by kernel_rfl) g22 rfl _ k22
def g23 : Sig := ⟨⟨numD 0 [.str, .str], [], []⟩, .one (.str), [], [], false, false, [], []⟩
def E23 : Tr Sem1 := (.nd 163 (g22.sem S_internal_stringslite_HasPrefix) .lf .lf)
theorem k23 x : g23.den E23 TT AN F Tryd.f148 x = S_internal_stringslite_TrimPrefix x := by kernel_rfl
theorem o23 : OK 148 (g23.sem S_internal_stringslite_TrimPrefix) := typed_ok2 ⟨tok, eqs, Tr.All.get (t := E23) ⟨o22, trivial, trivial⟩, mix⟩ Tryd.func148 (by kernel_rfl) (by kernel_rfl) g23 rfl _ k23
def g24 : Sig := ⟨⟨numD 0 [.str, .str], [], []⟩, .one (.str), [], [], false, false, [], []⟩
def E24 : Tr Sem1 := (.nd 148 (g23.sem S_internal_stringslite_TrimPrefix) .lf .lf)
theorem k24 x : g24.den E24 TT AN F Tryd.f136 x = S_strings_TrimPrefix x := by kernel_rfl
theorem o24 : OK 136 (g24.sem S_strings_TrimPrefix) := typed_ok2 ⟨tok, eqs, Tr.All.get (t := E24) ⟨o23, trivial, trivial⟩, mix⟩ Tryd.func136 (by kernel_rfl) (by kernel_rfl) g24 rfl _ k24
def g25 : Sig := ⟨⟨numD 0 [.str], [], []⟩, .tup [.int .i64, .bool], [], [], false, false, [], []⟩
def E25 : Tr Sem1 := (.nd 135 atoiSem (.nd 69 (g21.sem S_strconv_Itoa) .lf .lf) (.nd 136 (g24.sem S_strings_TrimPrefix) .lf .lf))
theorem k25 x : g25.den E25 TT AN F Tryd.f99 x = S_impl_readNumber x := by kernel_rfl
theorem o25 : OK 99 (g25.sem S_impl_readNumber) := typed_ok2 ⟨tok, eqs, Tr.All.get (t := E25) ⟨o20, ⟨o21, trivial, trivial⟩, ⟨o24, trivial, trivial⟩⟩, mix⟩ Tryd.func99 (by kernel_rfl) (by kernel_rfl) g25 rfl _ k25
def g26 : Sig := ⟨⟨numD 0 [.int .i64, .int .i64, .int .i64], [], []⟩, .one (.bool), [], [], false, false, [], []⟩
theorem k26 x : g26.den Tr.lf TT AN F Tryd.f84 x = S_impl_within x := by kernel_rfl
theorem o26 : OK 84 (g26.sem S_impl_within) := typed_ok2 ⟨tok, eqs, Tr.All.get (t := Tr.lf) trivial, mix⟩ Tryd.func84 (by kernel_rfl) (by kernel_rfl) g26 rfl _ k26
def g27 : Sig := ⟨⟨numD 0 [.int .i64], [], []⟩, .one (.bool), [], [], false, false, [], []⟩
def E27 : Tr Sem1 := (.nd 84 (g26.sem S_impl_within) .lf .lf)
theorem k27 x : g27.den E27 TT AN F Tryd.f107 x = S_impl_isLabel x := by kernel_rfl
theorem o27 : OK 107 (g27.sem S_impl_isLabel) := typed_ok2 ⟨tok, eqs, Tr.All.get (t := E27) ⟨o26, trivial, trivial⟩, mix⟩ Tryd.func107 (by kernel_rfl) (by kernel_rfl) g27 rfl _ k27
def g28 : Sig := ⟨⟨numD 0 [.int .i64], [], []⟩, .one (.bool), [], [], false, false, [], []⟩
theorem k28 x : g28.den Tr.lf TT AN F Tryd.f140 x = S_impl_isStackReg x := by kernel_rfl
theorem o28 : OK 140 (g28.sem S_impl_isStackReg) := typed_ok2 ⟨tok, eqs, Tr.All.get (t := Tr.lf) trivial, mix⟩ Tryd.func140 (by kernel_rfl) (by kernel_rfl) g28 rfl _ k28
def g29 : Sig := ⟨⟨numD 0 [.int .i64], [], []⟩, .one (.bool), [], [], false, false, [], []⟩
def E29 : Tr Sem1 := (.nd 140 (g28.sem S_impl_isStackReg) (.nd 84 (g26.sem S_impl_within) .lf .lf) .lf)
theorem k29 x : g29.den E29 TT AN F Tryd.f108 x = S_impl_isOwnReg x := by kernel_rfl
theorem o29 : OK 108 (g29.sem S_impl_isOwnReg) := typed_ok2 ⟨tok, eqs, Tr.All.get (t := E29) ⟨o28, ⟨o26, trivial, trivial⟩, trivial⟩, mix⟩ Tryd.func108 (by kernel_rfl) (by kernel_rfl) g29 rfl _ k29
def g30 : Sig := ⟨⟨numD 0 [.int .i64, .int .i64], [], []⟩, .one (.int .i64), [], [], false, false, [], []⟩
theorem k30 x : g30.den Tr.lf TT AN F Tryd.f141 x = S_impl_sign x := by kernel_rfl
theorem o30 : OK 141 (g30.sem S_impl_sign) := typed_ok2 ⟨tok, eqs, Tr.All.get (t := Tr.lf) trivial, mix⟩ Tryd.func141 (by kernel_rfl) (by kernel_rfl) g30 rfl _ k30
def g31 : Sig := ⟨⟨numD 0 [.int .i64, .int .i64], [], []⟩, .one (.bool), [], [], false, false, [], []⟩
def E31 : Tr Sem1 := (.nd 141 (g30.sem S_impl_sign) .lf .lf)
theorem k31 x : g31.den E31 TT AN F Tryd.f109 x = S_impl_fits x := by kernel_rfl
theorem o31 : OK 109 (g31.sem S_impl_fits) := typed_ok2 ⟨tok, eqs, Tr.All.get (t := E31) ⟨o30, trivial, trivial⟩, mix⟩ Tryd.func109 (by kernel_rfl) (by kernel_rfl) g31 rfl _ k31
def g32 : Sig := ⟨⟨numD 0 [.el .stm], [], []⟩, .one (.bool), [], [], false, false, [], []⟩
def E32 : Tr Sem1 := (.nd 108 (g29.sem S_impl_isOwnReg) (.nd 107 (g27.sem S_impl_isLabel) (.nd 84 (g26.sem S_impl_within) .lf .lf) .lf) (.nd 109 (g31.sem S_impl_fits) .lf .lf))
def A32 : Anns := ⟨.lf, (.nd 166 ⟨[(1, (.konst (.ptr 0 0))), (4, (.int .i64)), (83, .bool)], [(B0)], []⟩ (.nd 134 ⟨[(1, (.konst (.ptr 0 0))), (4, (.int .i64)), (67, .bool)], [(B0)], []⟩ (.nd 10 ⟨[(1, (.konst (.ptr 0 0))), (4, (.int .i64)), (5, .bool)], [(B0)], []⟩ .lf .lf) .lf) (.nd 272 ⟨[(1, (.konst (.ptr 0 0))), (4, (.int .i64)), (136, .bool)], [(B0)], []⟩ .lf .lf)), []⟩
theorem k32 x : g32.den E32 TT A32 F Tryd.f53 x = S_impl_StmtOK x := by kernel_rfl
theorem o32 : OK 53 (g32.sem S_impl_StmtOK) := typed_ok2 ⟨tok, eqs, Tr.All.get (t := E32) ⟨o29, ⟨o27, ⟨o26, trivial, trivial⟩, trivial⟩, ⟨o31, trivial, trivial⟩⟩, mix⟩ Tryd.func53 (by kernel_rfl) (by kernel_rfl) g32 rfl _ k32
def g33 : Sig := ⟨⟨numD 0 [.list .s], [], []⟩, .tup [.el .stm, .bool], [], [], false, false, [], []⟩
def E33 : Tr Sem1 := (.nd 98 (g19.sem S_impl_stmtForm) (.nd 53 (g32.sem S_impl_StmtOK) .lf .lf) (.nd 99 (g25.sem S_impl_readNumber) .lf .lf))
def A33 : Anns := ⟨(.nd 2 (.unroll 4) (.nd 0 (.loop ⟨[(0, (.list .s)), (2, (.konst (.ptr 0 0))), (4, (.int .i64))], [(B0)], []⟩) .lf .lf) .lf), .lf, []⟩
theorem k33 x : g33.den E33 TT A33 F Tryd.f48 x = S_impl_readStmt x := by kernel_rfl
theorem o33 : OK 48 (g33.sem S_impl_readStmt) := typed_ok2 ⟨tok, eqs, Tr.All.get (t := E33) ⟨o19, ⟨o32, trivial, trivial⟩, ⟨o25, trivial, trivial⟩⟩, mix⟩ Tryd.func48 (by kernel_rfl) (by kernel_rfl) g33 rfl _ k33
def g34 : Sig := ⟨⟨numD 0 [.str], [], []⟩, .tup [.el .stm, .int .i64], [], [], false, false, [], []⟩
def E34 : Tr Sem1 := (.nd 49 (g18.sem S_impl_wordsOf) (.nd 48 (g33.sem S_impl_readStmt) .lf .lf) .lf)
theorem k34 x : g34.den E34 TT AN F Tryd.f26 x = S_impl_ReadStmt x := by kernel_rfl
theorem o34 : OK 26 (g34.sem S_impl_ReadStmt) := typed_ok2 ⟨tok, eqs, Tr.All.get (t := E34) ⟨o18, ⟨o33, trivial, trivial⟩, trivial⟩, mix⟩ Tryd.func26 (by kernel_rfl) (by kernel_rfl) g34 rfl _ k34
def g35 : Sig := ⟨⟨numD 0 [.str], [], []⟩, .one (.list .s), [], [], false, false, [], []⟩
def A35 : Anns := ⟨(.nd 0 (.loop ⟨[(0, .str), (3, (.konst (.vec 0))), (4, (.int .i64)), (5, (.int .i64))], [(.row .s)], []⟩) .lf .lf), (.nd 50 ⟨[(0, .str), (3, (.konst (.vec 0))), (5, (.int .i64))], [(.row .s)], []⟩ (.nd 44 ⟨[(0, .str), (3, (.konst (.vec 0))), (4, (.int .i64)), (5, (.int .i64))], [(.row .s)], []⟩ .lf .lf) .lf), []⟩
theorem k35 x : g35.den Tr.lf TT A35 F Tryd.f93 x = S_spec_l00Words x := by kernel_rfl
theorem o35 : OK 93 (g35.sem S_spec_l00Words) := typed_ok2 ⟨tok, eqs, Tr.All.get (t := Tr.lf) trivial, mix⟩ Tryd.func93 (by kernel_rfl) (by kernel_rfl) g35 rfl _ k35
def g36 : Sig := ⟨⟨numD 0 [.list .s, .str], [], []⟩, .one (.int .i64), [], [], false, false, [], []⟩
def A36 : Anns := ⟨(.nd 0 (.loop ⟨[(0, (.list .s)), (1, .str), (5, (.int .i64))], [], []⟩) .lf .lf), .lf, []⟩
theorem k36 x : g36.den Tr.lf TT A36 F Tryd.f94 x = S_spec_l03At x := by kernel_rfl
theorem o36 : OK 94 (g36.sem S_spec_l03At) := typed_ok2 ⟨tok, eqs, Tr.All.get (t := Tr.lf) trivial, mix⟩ Tryd.func94 (by kernel_rfl) (by kernel_rfl) g36 rfl _ k36
def g37 : Sig := ⟨⟨numD 0 [.str], [], []⟩, .tup [.int .i64, .bool], [], [], false, false, [], []⟩
def A37 : Anns := ⟨(.nd 0 (.loop ⟨[(0, .str), (4, (.int .i64)), (5, (.int .i64)), (6, (.int .i64))], [], []⟩) .lf .lf), (.nd 28 ⟨[(0, .str), (4, (.int .i64))], [], []⟩ .lf .lf), []⟩
theorem k37 x : g37.den Tr.lf TT A37 F Tryd.f96 x = S_spec_l00Number x := by kernel_rfl
theorem o37 : OK 96 (g37.sem S_spec_l00Number) := typed_ok2 ⟨tok, eqs, Tr.All.get (t := Tr.lf) trivial, mix⟩ Tryd.func96 (by kernel_rfl) (by kernel_rfl) g37 rfl _ k37
def g38 : Sig := ⟨⟨numD 0 [.int .i64, .int .i64, .int .i64], [], []⟩, .one (.bool), [], [], false, false, [], []⟩
theorem k38 x : g38.den Tr.lf TT AN F Tryd.f75 x = S_spec_l01In x := by kernel_rfl
theorem o38 : OK 75 (g38.sem S_spec_l01In) := typed_ok2 ⟨tok, eqs, Tr.All.get (t := Tr.lf) trivial, mix⟩ Tryd.func75 (by kernel_rfl) (by kernel_rfl) g38 rfl _ k38
def g39 : Sig := ⟨⟨numD 0 [.int .i64], [], []⟩, .one (.bool), [], [], false, false, [], []⟩
def E39 : Tr Sem1 := (.nd 75 (g38.sem S_spec_l01In) .lf .lf)
theorem k39 x : g39.den E39 TT AN F Tryd.f110 x = S_spec_l14Label x := by kernel_rfl
theorem o39 : OK 110 (g39.sem S_spec_l14Label) := typed_ok2 ⟨tok, eqs, Tr.All.get (t := E39) ⟨o38, trivial, trivial⟩, mix⟩ Tryd.func110 (by kernel_rfl) (by kernel_rfl) g39 rfl _ k39
def g40 : Sig := ⟨⟨numD 0 [.int .i64], [], []⟩, .one (.bool), [], [], false, false, [], []⟩
def E40 : Tr Sem1 := (.nd 75 (g38.sem S_spec_l01In) .lf .lf)
theorem k40 x : g40.den E40 TT AN F Tryd.f111 x = S_spec_l14Reg x := by kernel_rfl
theorem o40 : OK 111 (g40.sem S_spec_l14Reg) := typed_ok2 ⟨tok, eqs, Tr.All.get (t := E40) ⟨o38, trivial, trivial⟩, mix⟩ Tryd.func111 (by kernel_rfl) (by kernel_rfl) g40 rfl _ k40
def g41 : Sig := ⟨⟨numD 0 [.int .i64, .int .i64], [], []⟩, .one (.int .i64), [], [], false, false, [], []⟩
theorem k41 x : g41.den Tr.lf TT AN F Tryd.f126 x = S_spec_l01Bit x := by kernel_rfl
theorem o41 : OK 126 (g41.sem S_spec_l01Bit) := typed_ok2 ⟨tok, eqs, Tr.All.get (t := Tr.lf) trivial, mix⟩ Tryd.func126 (by kernel_rfl) (by kernel_rfl) g41 rfl _ k41
def g42 : Sig := ⟨⟨numD 0 [.int .i64, .int .i64], [], []⟩, .one (.int .i64), [], [], false, false, [], []⟩
def E42 : Tr Sem1 := (.nd 126 (g41.sem S_spec_l01Bit) .lf .lf)
def A42 : Anns := ⟨(.nd 0 (.loop ⟨[(0, (.int .i64)), (1, (.int .i64)), (5, (.int .u64)), (6, (.int .i64))], [], []⟩) .lf .lf), .lf, []⟩
theorem k42 x : g42.den E42 TT A42 F Tryd.f76 x = S_spec_l01Sign x := by kernel_rfl
theorem o42 : OK 76 (g42.sem S_spec_l01Sign) := typed_ok2 ⟨tok, eqs, Tr.All.get (t := E42) ⟨o41, trivial, trivial⟩, mix⟩ Tryd.func76 (by kernel_rfl) (by kernel_rfl) g42 rfl _ k42
def g43 : Sig := ⟨⟨numD 0 [.int .i64, .int .i64], [], []⟩, .one (.bool), [], [], false, false, [], []⟩
def E43 : Tr Sem1 := (.nd 76 (g42.sem S_spec_l01Sign) .lf .lf)
theorem k43 x : g43.den E43 TT AN F Tryd.f112 x = S_spec_l05Fits x := by kernel_rfl
theorem o43 : OK 112 (g43.sem S_spec_l05Fits) := typed_ok2 ⟨tok, eqs, Tr.All.get (t := E43) ⟨o42, trivial, trivial⟩, mix⟩ Tryd.func112 (by kernel_rfl) (by kernel_rfl) g43 rfl _ k43
def g44 : Sig := ⟨⟨numD 0 [.int .i64], [], []⟩, .one (.bool), [], [], false, false, [], []⟩
def E44 : Tr Sem1 := (.nd 75 (g38.sem S_spec_l01In) .lf .lf)
theorem k44 x : g44.den E44 TT AN F Tryd.f113 x = S_spec_l14Disp x := by kernel_rfl
theorem o44 : OK 113 (g44.sem S_spec_l14Disp) := typed_ok2 ⟨tok, eqs, Tr.All.get (t := E44) ⟨o38, trivial, trivial⟩, mix⟩ Tryd.func113 (by kernel_rfl) (by kernel_rfl) g44 rfl _ k44
def g45 : Sig := ⟨⟨numD 0 [.el .stm], [], []⟩, .one (.bool), [], [], false, false, [], []⟩
def E45 : Tr Sem1 := (.nd 111 (g40.sem S_spec_l14Reg) (.nd 110 (g39.sem S_spec_l14Label) (.nd 75 (g38.sem S_spec_l01In) .lf .lf) .lf) (.nd 113 (g44.sem S_spec_l14Disp) (.nd 112 (g43.sem S_spec_l05Fits) .lf .lf) .lf))
def A45 : Anns := ⟨.lf, (.nd 166 ⟨[(1, (.konst (.ptr 0 0))), (3, .bool), (4, .bool), (15, (.int .i64)), (83, .bool)], [(B0)], []⟩ (.nd 134 ⟨[(1, (.konst (.ptr 0 0))), (3, .bool), (4, .bool), (15, (.int .i64)), (67, .bool)], [(B0)], []⟩ (.nd 32 ⟨[(1, (.konst (.ptr 0 0))), (3, .bool), (4, .bool), (15, (.int .i64)), (16, .bool)], [(B0)], []⟩ .lf .lf) .lf) (.nd 282 ⟨[(1, (.konst (.ptr 0 0))), (4, .bool), (141, .bool)], [(B0)], []⟩ .lf .lf)), []⟩
theorem k45 x : g45.den E45 TT A45 F Tryd.f55 x = S_spec_StmtOK x := by kernel_rfl
theorem o45 : OK 55 (g45.sem S_spec_StmtOK) := typed_ok2 ⟨tok, eqs, Tr.All.get (t := E45) ⟨o40, ⟨o39, ⟨o38, trivial, trivial⟩, trivial⟩, ⟨o44, ⟨o43, trivial, trivial⟩, trivial⟩⟩, mix⟩ Tryd.func55 (by kernel_rfl) (by kernel_rfl) g45 rfl _ k45
def g46 : Sig := ⟨⟨numD 0 [.str], [], []⟩, .tup [.el .stm, .bool], [], [], false, false, [], []⟩
def E46 : Tr Sem1 := (.nd 95 (g6.sem S_spec_l16Words) (.nd 93 (g35.sem S_spec_l00Words) (.nd 55 (g45.sem S_spec_StmtOK) .lf .lf) (.nd 94 (g36.sem S_spec_l03At) .lf .lf)) (.nd 97 (g7.sem S_spec_l16Many) (.nd 96 (g37.sem S_spec_l00Number) .lf .lf) .lf))
def A46 : Anns := ⟨(.nd 0 (.loop ⟨[(2, (.konst (.ptr 0 0))), (4, (.list .s)), (5, (.konst (.ptr 1 0))), (6, (.konst (.vec 2))), (7, (.int .i64))], [(B0), (B0), (.row .i)], []⟩) .lf .lf), .lf, []⟩
theorem k46 x : g46.den E46 TT A46 F Tryd.f47 x = S_spec_l16Read x := by kernel_rfl
theorem o46 : OK 47 (g46.sem S_spec_l16Read) := typed_ok2 ⟨tok, eqs, Tr.All.get (t := E46) ⟨o6, ⟨o35, ⟨o45, trivial, trivial⟩, ⟨o36, trivial, trivial⟩⟩, ⟨o7, ⟨o37, trivial, trivial⟩, trivial⟩⟩, mix⟩ Tryd.func47 (by kernel_rfl) (by kernel_rfl) g46 rfl _ k46
def g47 : Sig := ⟨⟨numD 0 [.str], [], []⟩, .tup [.el .stm, .int .i64], [], [], false, false, [], []⟩
def E47 : Tr Sem1 := (.nd 47 (g46.sem S_spec_l16Read) .lf .lf)
theorem k47 x : g47.den E47 TT AN F Tryd.f25 x = S_spec_ReadStmt x := by kernel_rfl
theorem o47 : OK 25 (g47.sem S_spec_ReadStmt) := typed_ok2 ⟨tok, eqs, Tr.All.get (t := E47) ⟨o46, trivial, trivial⟩, mix⟩ Tryd.func25 (by kernel_rfl) (by kernel_rfl) g47 rfl _ k47
def g48 : Sig := ⟨⟨numD 0 [.list .u], [], []⟩, .one (.el .stm), [], [], false, false, [], []⟩
def E48 : Tr Sem1 := (.nd 52 (g5.sem S_spec_l00Src_stmt) (.nd 50 (g0.sem S_spec_l00Source) .lf .lf) .lf)
theorem k48 x : g48.den E48 TT AN F Tryd.f29 x = S_spec_StmtDrawn x := by kernel_rfl
theorem o48 : OK 29 (g48.sem S_spec_StmtDrawn) := typed_ok2 ⟨tok, eqs, Tr.All.get (t := E48) ⟨o5, ⟨o0, trivial, trivial⟩, trivial⟩, mix⟩ Tryd.func29 (by kernel_rfl) (by kernel_rfl) g48 rfl _ k48
def g49 : Sig := ⟨⟨numD 0 [.str, .list .i], [], []⟩, .one (.str), [], [], false, false, [], []⟩
def E49 : Tr Sem1 := (.nd 69 (g21.sem S_strconv_Itoa) .lf .lf)
def A49 : Anns := ⟨(.nd 0 (.loop ⟨[(5, .str), (9, (.list .i)), (10, (.int .i64)), (11, (.int .i64))], [], []⟩) .lf .lf), .lf, []⟩
theorem k49 x : g49.den E49 TT A49 F Tryd.f88 x = S_impl_wordsLine x := by kernel_rfl
theorem o49 : OK 88 (g49.sem S_impl_wordsLine) := typed_ok2 ⟨tok, eqs, Tr.All.get (t := E49) ⟨o21, trivial, trivial⟩, mix⟩ Tryd.func88 (by kernel_rfl) (by kernel_rfl) g49 rfl _ k49
def g50 : Sig := ⟨⟨numD 0 [.el .stm], [], []⟩, .one (.str), [], [], false, false, [], []⟩
def E50 : Tr Sem1 := (.nd 98 (g19.sem S_impl_stmtForm) (.nd 88 (g49.sem S_impl_wordsLine) .lf .lf) .lf)
theorem k50 x : g50.den E50 TT AN F Tryd.f54 x = S_impl_stmtText x := by kernel_rfl
theorem o50 : OK 54 (g50.sem S_impl_stmtText) := typed_ok2 ⟨tok, eqs, Tr.All.get (t := E50) ⟨o19, ⟨o49, trivial, trivial⟩, trivial⟩, mix⟩ Tryd.func54 (by kernel_rfl) (by kernel_rfl) g50 rfl _ k50
def g51 : Sig := ⟨⟨numD 0 [.el .stm], [], []⟩, .tup [.str, .int .i64], [], [], false, false, [], []⟩
def E51 : Tr Sem1 := (.nd 54 (g50.sem S_impl_stmtText) (.nd 53 (g32.sem S_impl_StmtOK) .lf .lf) .lf)
theorem k51 x : g51.den E51 TT AN F Tryd.f30 x = S_impl_StmtText x := by kernel_rfl
theorem o51 : OK 30 (g51.sem S_impl_StmtText) := typed_ok2 ⟨tok, eqs, Tr.All.get (t := E51) ⟨o50, ⟨o32, trivial, trivial⟩, trivial⟩, mix⟩ Tryd.func30 (by kernel_rfl) (by kernel_rfl) g51 rfl _ k51
def g52 : Sig := ⟨⟨numD 0 [.el .stm], [], []⟩, .tup [.str, .int .i64], [], [], false, false, [], []⟩
def E52 : Tr Sem1 := (.nd 56 (g10.sem S_spec_l16Stmt) (.nd 55 (g45.sem S_spec_StmtOK) .lf .lf) .lf)
theorem k52 x : g52.den E52 TT AN F Tryd.f31 x = S_spec_StmtText x := by kernel_rfl
theorem o52 : OK 31 (g52.sem S_spec_StmtText) := typed_ok2 ⟨tok, eqs, Tr.All.get (t := E52) ⟨o10, ⟨o45, trivial, trivial⟩, trivial⟩, mix⟩ Tryd.func31 (by kernel_rfl) (by kernel_rfl) g52 rfl _ k52
def g53 : Sig := ⟨⟨numD 0 [.list .u, .list .u], [], []⟩, .one (.bool), [], [], false, false, [], []⟩
def E53 : Tr Sem1 := (.nd 29 (g48.sem S_spec_StmtDrawn) (.nd 26 (g34.sem S_impl_ReadStmt) (.nd 25 (g47.sem S_spec_ReadStmt) .lf .lf) (.nd 28 (g13.sem S_spec_StmtLine) .lf .lf)) (.nd 31 (g52.sem S_spec_StmtText) (.nd 30 (g51.sem S_impl_StmtText) .lf .lf) .lf))
theorem k53 x : g53.den E53 TT AN F Tryd.f7 x = S_laws_FnStmts x := by kernel_rfl
theorem o53 : OK 7 (g53.sem S_laws_FnStmts) := typed_ok2 ⟨tok, eqs, Tr.All.get (t := E53) ⟨o48, ⟨o34, ⟨o47, trivial, trivial⟩, ⟨o13, trivial, trivial⟩⟩, ⟨o52, ⟨o51, trivial, trivial⟩, trivial⟩⟩, mix⟩ Tryd.func7 (by kernel_rfl) (by kernel_rfl) g53 rfl _ k53
end Go.Proofs.YthgjocpbmnpjjaaDoor.Stmts
