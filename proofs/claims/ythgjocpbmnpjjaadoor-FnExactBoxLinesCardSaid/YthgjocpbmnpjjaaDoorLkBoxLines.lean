/- Theory for the proofs of this claim: see its last text. -/
import Derived.Test.YthgjocpbmnpjjaaDoorFnBoxLines
import Derived.Test.YthgjocpbmnpjjaaDoorDenF
import Derived.Test.YthgjocpbmnpjjaaDoorShl
import Derived.Test.YthgjocpbmnpjjaaDoorProg
import Derived.KernelRfl
set_option maxRecDepth 100000
set_option linter.unusedVariables false
noncomputable section
namespace Go.Proofs.YthgjocpbmnpjjaaDoor.BoxLines
open Go Go.Den Go.Den.G Go.Proofs Go.Proofs.YthgjocpbmnpjjaaDoor
abbrev V1 : VT := .agg [.arr .i 16, .int .i64, .int .i64, .list .page, .int .i64, .int .i64, .str, .int .i64, .str, .int .i64, .int .i64, .int .i64, .int .i64, .int .i64, .int .i64]
abbrev B0 : BT := .var [(.arr .i 16), (.int .i64), (.int .i64), (.list .page), (.int .i64), (.int .i64), .str, (.int .i64), .str, (.int .i64), (.int .i64), (.int .i64), (.int .i64), (.int .i64), (.int .i64)]
def Ly : Lay := [(0, fun cs => cs = (Go.Lib.pow10Tab.map fun z => Value.int .u64 z).toArray)]
def TT : Tr TI := (.nd 100 ⟨.fn, 1, 8, [.nilf], none, false⟩ (.nd 50 ⟨.fn, 1, 8, [.nilf], none, false⟩ (.nd 25 ⟨.fn, 1, 8, [.nilf], none, false⟩ (.nd 12 ⟨.int .u64, 1, 8, [.int .u64 0], none, false⟩ (.nd 6 ⟨.int .u8, 1, 1, [.int .u8 0], some .u, false⟩ (.nd 3 ⟨.int .i64, 1, 8, [.int .i64 0], some .i, false⟩ (.nd 2 ⟨.int .i64, 1, 8, [.int .i64 0], some .i, false⟩ (.nd 1 ⟨.fn, 1, 8, [.nilf], none, false⟩ .lf .lf) .lf) (.nd 5 ⟨.int .u8, 1, 1, [.int .u8 0], some .u, false⟩ (.nd 4 ⟨.bool, 1, 1, [.bool false], some .b, false⟩ .lf .lf) .lf)) (.nd 9 ⟨.str, 1, 16, [.str []], some .s, false⟩ (.nd 8 ⟨.struct [(0, 2), (1, 3), (2, 4), (3, 6)], 4, 24, [.int .i64 0, .int .i64 0, .bool false, .int .u8 0], none, false⟩ (.nd 7 ⟨.struct [(0, 2), (1, 3), (2, 4), (3, 6)], 4, 24, [.int .i64 0, .int .i64 0, .bool false, .int .u8 0], none, false⟩ .lf .lf) .lf) (.nd 11 ⟨.str, 1, 16, [.str []], some .s, false⟩ (.nd 10 ⟨.str, 1, 16, [.str []], some .s, false⟩ .lf .lf) .lf))) (.nd 18 ⟨.struct [(0, 17)], 1, 8, [.nilp], none, false⟩ (.nd 15 ⟨.ptr 194, 1, 8, [.nilp], none, false⟩ (.nd 14 ⟨.struct [(0, 9), (1, 12)], 2, 24, [.str [], .int .u64 0], none, false⟩ (.nd 13 ⟨.struct [(0, 9), (1, 12)], 2, 24, [.str [], .int .u64 0], none, false⟩ .lf .lf) .lf) (.nd 17 ⟨.ptr 204, 1, 8, [.nilp], none, false⟩ (.nd 16 ⟨.ptr 197, 1, 8, [.nilp], none, false⟩ .lf .lf) .lf)) (.nd 21 ⟨.int .i32, 1, 4, [.int .i32 0], none, false⟩ (.nd 20 ⟨.iface, 1, 16, [.err true], none, false⟩ (.nd 19 ⟨.struct [(0, 17)], 1, 8, [.nilp], none, false⟩ .lf .lf) .lf) (.nd 23 ⟨.struct [(0, 3), (1, 3), (2, 3), (3, 3), (4, 3), (5, 3), (6, 3)], 7, 56, [.int .i64 0, .int .i64 0, .int .i64 0, .int .i64 0, .int .i64 0, .int .i64 0, .int .i64 0], none, true⟩ (.nd 22 ⟨.struct [(0, 3), (1, 3), (2, 3), (3, 3), (4, 3), (5, 3), (6, 3)], 7, 56, [.int .i64 0, .int .i64 0, .int .i64 0, .int .i64 0, .int .i64 0, .int .i64 0, .int .i64 0], none, false⟩ .lf .lf) .lf)))) (.nd 37 ⟨.fn, 1, 8, [.nilf], none, false⟩ (.nd 31 ⟨.struct [(0, 29), (16, 3), (17, 3)], 18, 144, [.arr .i 16 [], .int .i64 0, .int .i64 0], none, true⟩ (.nd 28 ⟨.fn, 1, 8, [.nilf], none, false⟩ (.nd 27 ⟨.fn, 1, 8, [.nilf], none, false⟩ (.nd 26 ⟨.struct [(0, 3), (1, 3), (2, 3), (3, 3), (4, 3), (5, 3), (6, 3)], 7, 56, [.int .i64 0, .int .i64 0, .int .i64 0, .int .i64 0, .int .i64 0, .int .i64 0, .int .i64 0], none, true⟩ .lf .lf) .lf) (.nd 30 ⟨.struct [(0, 29), (16, 3), (17, 3)], 18, 144, [.arr .i 16 [], .int .i64 0, .int .i64 0], none, false⟩ (.nd 29 ⟨.array 16 3, 16, 128, [.arr .i 16 []], none, false⟩ .lf .lf) .lf)) (.nd 34 ⟨.struct [(0, 32)], 1, 24, [.nils], none, false⟩ (.nd 33 ⟨.struct [(0, 32)], 1, 24, [.nils], none, false⟩ (.nd 32 ⟨.slice 137, 1, 24, [.nils], none, false⟩ .lf .lf) .lf) (.nd 36 ⟨.struct [(0, 31), (18, 34), (19, 3), (20, 3), (21, 9), (22, 3), (23, 9), (24, 3), (25, 3), (26, 3), (27, 3), (28, 3), (29, 3)], 30, 272, [.arr .i 16 [], .int .i64 0, .int .i64 0, .nils, .int .i64 0, .int .i64 0, .str [], .int .i64 0, .str [], .int .i64 0, .int .i64 0, .int .i64 0, .int .i64 0, .int .i64 0, .int .i64 0], none, false⟩ (.nd 35 ⟨.struct [(0, 31), (18, 34), (19, 3), (20, 3), (21, 9), (22, 3), (23, 9), (24, 3), (25, 3), (26, 3), (27, 3), (28, 3), (29, 3)], 30, 272, [.arr .i 16 [], .int .i64 0, .int .i64 0, .nils, .int .i64 0, .int .i64 0, .str [], .int .i64 0, .str [], .int .i64 0, .int .i64 0, .int .i64 0, .int .i64 0, .int .i64 0, .int .i64 0], none, false⟩ .lf .lf) .lf))) (.nd 44 ⟨.struct [(0, 42)], 1, 24, [.nils], none, false⟩ (.nd 41 ⟨.struct [(0, 29), (16, 3), (17, 3)], 18, 144, [.arr .i 16 [], .int .i64 0, .int .i64 0], none, true⟩ (.nd 40 ⟨.fn, 1, 8, [.nilf], none, false⟩ (.nd 38 ⟨.slice 9, 1, 24, [.nils], none, false⟩ .lf .lf) .lf) (.nd 43 ⟨.struct [(0, 42)], 1, 24, [.nils], none, false⟩ (.nd 42 ⟨.slice 138, 1, 24, [.nils], none, false⟩ .lf .lf) .lf)) (.nd 47 ⟨.fn, 1, 8, [.nilf], none, false⟩ (.nd 46 ⟨.struct [(0, 41), (18, 44), (19, 3), (20, 3), (21, 9), (22, 3), (23, 9), (24, 3), (25, 3), (26, 3), (27, 3), (28, 3), (29, 3)], 30, 272, [.arr .i 16 [], .int .i64 0, .int .i64 0, .nils, .int .i64 0, .int .i64 0, .str [], .int .i64 0, .str [], .int .i64 0, .int .i64 0, .int .i64 0, .int .i64 0, .int .i64 0, .int .i64 0], none, false⟩ (.nd 45 ⟨.struct [(0, 41), (18, 44), (19, 3), (20, 3), (21, 9), (22, 3), (23, 9), (24, 3), (25, 3), (26, 3), (27, 3), (28, 3), (29, 3)], 30, 272, [.arr .i 16 [], .int .i64 0, .int .i64 0, .nils, .int .i64 0, .int .i64 0, .str [], .int .i64 0, .str [], .int .i64 0, .int .i64 0, .int .i64 0, .int .i64 0, .int .i64 0, .int .i64 0], none, false⟩ .lf .lf) .lf) (.nd 49 ⟨.fn, 1, 8, [.nilf], none, false⟩ (.nd 48 ⟨.fn, 1, 8, [.nilf], none, false⟩ .lf .lf) .lf))))) (.nd 75 ⟨.fn, 1, 8, [.nilf], none, false⟩ (.nd 63 ⟨.fn, 1, 8, [.nilf], none, false⟩ (.nd 56 ⟨.fn, 1, 8, [.nilf], none, false⟩ (.nd 53 ⟨.slice 59, 1, 24, [.nils], none, false⟩ (.nd 52 ⟨.fn, 1, 8, [.nilf], none, false⟩ (.nd 51 ⟨.fn, 1, 8, [.nilf], none, false⟩ .lf .lf) .lf) (.nd 55 ⟨.fn, 1, 8, [.nilf], none, false⟩ (.nd 54 ⟨.fn, 1, 8, [.nilf], none, false⟩ .lf .lf) .lf)) (.nd 59 ⟨.struct [(0, 3), (1, 3), (2, 3), (3, 3)], 4, 32, [.int .i64 0, .int .i64 0, .int .i64 0, .int .i64 0], some .stm, true⟩ (.nd 58 ⟨.struct [(0, 3), (1, 3), (2, 3), (3, 3)], 4, 32, [.int .i64 0, .int .i64 0, .int .i64 0, .int .i64 0], none, false⟩ (.nd 57 ⟨.fn, 1, 8, [.nilf], none, false⟩ .lf .lf) .lf) (.nd 62 ⟨.fn, 1, 8, [.nilf], none, false⟩ (.nd 61 ⟨.fn, 1, 8, [.nilf], none, false⟩ .lf .lf) .lf))) (.nd 69 ⟨.fn, 1, 8, [.nilf], none, false⟩ (.nd 66 ⟨.fn, 1, 8, [.nilf], none, false⟩ (.nd 65 ⟨.fn, 1, 8, [.nilf], none, false⟩ (.nd 64 ⟨.slice 5, 1, 24, [.nils], none, false⟩ .lf .lf) .lf) (.nd 68 ⟨.fn, 1, 8, [.nilf], none, false⟩ (.nd 67 ⟨.fn, 1, 8, [.nilf], none, false⟩ .lf .lf) .lf)) (.nd 72 ⟨.fn, 1, 8, [.nilf], none, false⟩ (.nd 71 ⟨.fn, 1, 8, [.nilf], none, false⟩ (.nd 70 ⟨.fn, 1, 8, [.nilf], none, false⟩ .lf .lf) .lf) (.nd 74 ⟨.fn, 1, 8, [.nilf], none, false⟩ (.nd 73 ⟨.fn, 1, 8, [.nilf], none, false⟩ .lf .lf) .lf)))) (.nd 88 ⟨.fn, 1, 8, [.nilf], none, false⟩ (.nd 82 ⟨.fn, 1, 8, [.nilf], none, false⟩ (.nd 78 ⟨.fn, 1, 8, [.nilf], none, false⟩ (.nd 77 ⟨.fn, 1, 8, [.nilf], none, false⟩ (.nd 76 ⟨.fn, 1, 8, [.nilf], none, false⟩ .lf .lf) .lf) (.nd 81 ⟨.fn, 1, 8, [.nilf], none, false⟩ (.nd 79 ⟨.fn, 1, 8, [.nilf], none, false⟩ .lf .lf) .lf)) (.nd 85 ⟨.fn, 1, 8, [.nilf], none, false⟩ (.nd 84 ⟨.ptr 121, 1, 8, [.nilp], none, false⟩ (.nd 83 ⟨.fn, 1, 8, [.nilf], none, false⟩ .lf .lf) .lf) (.nd 87 ⟨.fn, 1, 8, [.nilf], none, false⟩ (.nd 86 ⟨.fn, 1, 8, [.nilf], none, false⟩ .lf .lf) .lf))) (.nd 94 ⟨.fn, 1, 8, [.nilf], none, false⟩ (.nd 91 ⟨.fn, 1, 8, [.nilf], none, false⟩ (.nd 90 ⟨.fn, 1, 8, [.nilf], none, false⟩ (.nd 89 ⟨.fn, 1, 8, [.nilf], none, false⟩ .lf .lf) .lf) (.nd 93 ⟨.fn, 1, 8, [.nilf], none, false⟩ (.nd 92 ⟨.fn, 1, 8, [.nilf], none, false⟩ .lf .lf) .lf)) (.nd 97 ⟨.fn, 1, 8, [.nilf], none, false⟩ (.nd 96 ⟨.fn, 1, 8, [.nilf], none, false⟩ (.nd 95 ⟨.fn, 1, 8, [.nilf], none, false⟩ .lf .lf) .lf) (.nd 99 ⟨.fn, 1, 8, [.nilf], none, false⟩ (.nd 98 ⟨.fn, 1, 8, [.nilf], none, false⟩ .lf .lf) .lf)))))) (.nd 150 ⟨.fn, 1, 8, [.nilf], none, false⟩ (.nd 125 ⟨.fn, 1, 8, [.nilf], none, false⟩ (.nd 113 ⟨.fn, 1, 8, [.nilf], none, false⟩ (.nd 106 ⟨.fn, 1, 8, [.nilf], none, false⟩ (.nd 103 ⟨.fn, 1, 8, [.nilf], none, false⟩ (.nd 102 ⟨.fn, 1, 8, [.nilf], none, false⟩ (.nd 101 ⟨.fn, 1, 8, [.nilf], none, false⟩ .lf .lf) .lf) (.nd 105 ⟨.fn, 1, 8, [.nilf], none, false⟩ (.nd 104 ⟨.fn, 1, 8, [.nilf], none, false⟩ .lf .lf) .lf)) (.nd 109 ⟨.fn, 1, 8, [.nilf], none, false⟩ (.nd 108 ⟨.fn, 1, 8, [.nilf], none, false⟩ (.nd 107 ⟨.fn, 1, 8, [.nilf], none, false⟩ .lf .lf) .lf) (.nd 111 ⟨.slice 3, 1, 24, [.nils], none, false⟩ (.nd 110 ⟨.fn, 1, 8, [.nilf], none, false⟩ .lf .lf) .lf))) (.nd 119 ⟨.fn, 1, 8, [.nilf], none, false⟩ (.nd 116 ⟨.slice 117, 1, 24, [.nils], none, false⟩ (.nd 115 ⟨.fn, 1, 8, [.nilf], none, false⟩ (.nd 114 ⟨.fn, 1, 8, [.nilf], none, false⟩ .lf .lf) .lf) (.nd 118 ⟨.fn, 1, 8, [.nilf], none, false⟩ (.nd 117 ⟨.ptr 3, 1, 8, [.nilp], none, false⟩ .lf .lf) .lf)) (.nd 122 ⟨.fn, 1, 8, [.nilf], none, false⟩ (.nd 121 ⟨.struct [(0, 64), (1, 3), (2, 3)], 3, 40, [.nils, .int .i64 0, .int .i64 0], none, false⟩ (.nd 120 ⟨.struct [(0, 64), (1, 3), (2, 3)], 3, 40, [.nils, .int .i64 0, .int .i64 0], none, false⟩ .lf .lf) .lf) (.nd 124 ⟨.fn, 1, 8, [.nilf], none, false⟩ (.nd 123 ⟨.fn, 1, 8, [.nilf], none, false⟩ .lf .lf) .lf)))) (.nd 138 ⟨.struct [(0, 3), (1, 3), (2, 9)], 3, 32, [.int .i64 0, .int .i64 0, .str []], some .page, true⟩ (.nd 131 ⟨.iface, 1, 16, [.err true], none, false⟩ (.nd 128 ⟨.struct [(0, 127), (1, 64)], 2, 32, [.nilp, .nils], none, false⟩ (.nd 127 ⟨.ptr 129, 1, 8, [.nilp], none, false⟩ (.nd 126 ⟨.map 3 9, 1, 8, [.dead], none, false⟩ .lf .lf) .lf) (.nd 130 ⟨.fn, 1, 8, [.nilf], none, false⟩ (.nd 129 ⟨.struct [(0, 127), (1, 64)], 2, 32, [.nilp, .nils], none, false⟩ .lf .lf) .lf)) (.nd 135 ⟨.fn, 1, 8, [.nilf], none, false⟩ (.nd 134 ⟨.fn, 1, 8, [.nilf], none, false⟩ (.nd 132 ⟨.iface, 1, 16, [.err true], none, false⟩ .lf .lf) .lf) (.nd 137 ⟨.struct [(0, 3), (1, 3), (2, 9)], 3, 32, [.int .i64 0, .int .i64 0, .str []], some .page, true⟩ (.nd 136 ⟨.struct [(0, 3), (1, 3), (2, 9)], 3, 32, [.int .i64 0, .int .i64 0, .str []], none, false⟩ .lf .lf) .lf))) (.nd 144 ⟨.fn, 1, 8, [.nilf], none, false⟩ (.nd 141 ⟨.fn, 1, 8, [.nilf], none, false⟩ (.nd 140 ⟨.fn, 1, 8, [.nilf], none, false⟩ (.nd 139 ⟨.int .u64, 1, 8, [.int .u64 0], none, false⟩ .lf .lf) .lf) (.nd 143 ⟨.fn, 1, 8, [.nilf], none, false⟩ (.nd 142 ⟨.fn, 1, 8, [.nilf], none, false⟩ .lf .lf) .lf)) (.nd 147 ⟨.int .u64, 1, 8, [.int .u64 0], none, false⟩ (.nd 146 ⟨.ptr 5, 1, 8, [.nilp], none, false⟩ (.nd 145 ⟨.fn, 1, 8, [.nilf], none, false⟩ .lf .lf) .lf) (.nd 149 ⟨.fn, 1, 8, [.nilf], none, false⟩ (.nd 148 ⟨.fn, 1, 8, [.nilf], none, false⟩ .lf .lf) .lf))))) (.nd 180 ⟨.fn, 1, 8, [.nilf], none, false⟩ (.nd 165 ⟨.fn, 1, 8, [.nilf], none, false⟩ (.nd 158 ⟨.fn, 1, 8, [.nilf], none, false⟩ (.nd 153 ⟨.fn, 1, 8, [.nilf], none, false⟩ (.nd 152 ⟨.fn, 1, 8, [.nilf], none, false⟩ (.nd 151 ⟨.array 24 5, 24, 24, [.arr .u 24 []], none, false⟩ .lf .lf) .lf) (.nd 157 ⟨.fn, 1, 8, [.nilf], none, false⟩ (.nd 155 ⟨.fn, 1, 8, [.nilf], none, false⟩ .lf .lf) .lf)) (.nd 162 ⟨.ptr 178, 1, 8, [.nilp], none, false⟩ (.nd 161 ⟨.fn, 1, 8, [.nilf], none, false⟩ (.nd 159 ⟨.int .i64, 1, 8, [.int .i64 0], some .i, false⟩ .lf .lf) .lf) (.nd 164 ⟨.fn, 1, 8, [.nilf], none, false⟩ (.nd 163 ⟨.fn, 1, 8, [.nilf], none, false⟩ .lf .lf) .lf))) (.nd 173 ⟨.array 65 5, 65, 65, [.arr .u 65 []], none, false⟩ (.nd 169 ⟨.fn, 1, 8, [.nilf], none, false⟩ (.nd 168 ⟨.fn, 1, 8, [.nilf], none, false⟩ (.nd 166 ⟨.fn, 1, 8, [.nilf], none, false⟩ .lf .lf) .lf) (.nd 172 ⟨.int .u32, 1, 4, [.int .u32 0], none, false⟩ (.nd 170 ⟨.fn, 1, 8, [.nilf], none, false⟩ .lf .lf) .lf)) (.nd 177 ⟨.struct [(0, 9), (1, 9), (2, 132)], 3, 48, [.str [], .str [], .err true], none, false⟩ (.nd 176 ⟨.fn, 1, 8, [.nilf], none, false⟩ (.nd 174 ⟨.fn, 1, 8, [.nilf], none, false⟩ .lf .lf) .lf) (.nd 179 ⟨.fn, 1, 8, [.nilf], none, false⟩ (.nd 178 ⟨.struct [(0, 9), (1, 9), (2, 132)], 3, 48, [.str [], .str [], .err true], none, false⟩ .lf .lf) .lf)))) (.nd 193 ⟨.struct [(0, 17), (1, 17), (2, 17), (3, 9)], 4, 40, [.nilp, .nilp, .nilp, .str []], none, false⟩ (.nd 186 ⟨.struct [(0, 5), (1, 5)], 2, 2, [.int .u8 0, .int .u8 0], none, false⟩ (.nd 183 ⟨.struct [(0, 9)], 1, 16, [.str []], none, false⟩ (.nd 182 ⟨.ptr 184, 1, 8, [.nilp], none, false⟩ (.nd 181 ⟨.fn, 1, 8, [.nilf], none, false⟩ .lf .lf) .lf) (.nd 185 ⟨.array 256 5, 256, 256, [.arr .u 256 []], none, false⟩ (.nd 184 ⟨.struct [(0, 9)], 1, 16, [.str []], none, false⟩ .lf .lf) .lf)) (.nd 190 ⟨.fn, 1, 8, [.nilf], none, false⟩ (.nd 188 ⟨.array 16 187, 32, 32, [.int .u8 0, .int .u8 0, .int .u8 0, .int .u8 0, .int .u8 0, .int .u8 0, .int .u8 0, .int .u8 0, .int .u8 0, .int .u8 0, .int .u8 0, .int .u8 0, .int .u8 0, .int .u8 0, .int .u8 0, .int .u8 0, .int .u8 0, .int .u8 0, .int .u8 0, .int .u8 0, .int .u8 0, .int .u8 0, .int .u8 0, .int .u8 0, .int .u8 0, .int .u8 0, .int .u8 0, .int .u8 0, .int .u8 0, .int .u8 0, .int .u8 0, .int .u8 0], none, false⟩ (.nd 187 ⟨.struct [(0, 5), (1, 5)], 2, 2, [.int .u8 0, .int .u8 0], none, false⟩ .lf .lf) .lf) (.nd 192 ⟨.array 64 5, 64, 64, [.arr .u 64 []], none, false⟩ (.nd 191 ⟨.array 32 5, 32, 32, [.arr .u 32 []], none, false⟩ .lf .lf) .lf))) (.nd 199 ⟨.int .u8, 1, 1, [.int .u8 0], some .u, false⟩ (.nd 196 ⟨.struct [(0, 195)], 0, 0, [], none, false⟩ (.nd 195 ⟨.array 0 16, 0, 0, [], none, false⟩ (.nd 194 ⟨.struct [(0, 17), (1, 17), (2, 17), (3, 9)], 4, 40, [.nilp, .nilp, .nilp, .str []], none, false⟩ .lf .lf) .lf) (.nd 198 ⟨.int .u8, 1, 1, [.int .u8 0], some .u, false⟩ (.nd 197 ⟨.struct [(0, 195)], 0, 0, [], none, false⟩ .lf .lf) .lf)) (.nd 202 ⟨.int .i32, 1, 4, [.int .i32 0], none, false⟩ (.nd 201 ⟨.int .i32, 1, 4, [.int .i32 0], none, false⟩ (.nd 200 ⟨.fn, 1, 8, [.nilf], none, false⟩ .lf .lf) .lf) (.nd 204 ⟨.struct [(0, 12), (1, 12), (2, 172), (3, 198), (4, 5), (5, 5), (6, 199), (7, 200), (8, 146), (9, 201), (10, 202)], 11, 48, [.int .u64 0, .int .u64 0, .int .u32 0, .int .u8 0, .int .u8 0, .int .u8 0, .int .u8 0, .nilf, .nilp, .int .i32 0, .int .i32 0], none, false⟩ (.nd 203 ⟨.struct [(0, 12), (1, 12), (2, 172), (3, 198), (4, 5), (5, 5), (6, 199), (7, 200), (8, 146), (9, 201), (10, 202)], 11, 48, [.int .u64 0, .int .u64 0, .int .u32 0, .int .u8 0, .int .u8 0, .int .u8 0, .int .u8 0, .nilf, .nilp, .int .i32 0, .int .i32 0], none, false⟩ .lf .lf) .lf)))))))
abbrev OK (n : Nat) (S : Sem1) : Prop := SemOK Tryd.prog Ly n S
def AN : Anns := ⟨.lf, .lf, []⟩
theorem tok : TOK Tryd.prog TT := by unfold TOK; kernel_rfl
theorem eqs : EqAgg Tryd.prog TT := eqTab_ok (by kernel_rfl)
theorem mix : Tryd.prog.follows .mixedOrders = true := by kernel_rfl
def g0 : Sig := ⟨⟨numD 0 [.el .page, .int .i64], [], []⟩, .one (.int .i64), [], [], false, false, [], []⟩
theorem k0 x : g0.den Tr.lf TT AN F Tryd.f122 x = S_laws_szPage x := by kernel_rfl
theorem o0 : OK 122 (g0.sem S_laws_szPage) := typed_ok2 ⟨tok, eqs, Tr.All.get (t := Tr.lf) trivial, mix⟩ Tryd.func122 (by kernel_rfl) (by kernel_rfl) g0 rfl _ k0
def g1 : Sig := ⟨⟨numD 0 [.list .page, .int .i64], [], []⟩, .one (.int .i64), [], [], false, false, [], []⟩
def E1 : Tr Sem1 := (.nd 122 (g0.sem S_laws_szPage) .lf .lf)
def A1 : Anns := ⟨(.nd 0 (.loop ⟨[(0, (.list .page)), (1, (.int .i64)), (5, (.int .i64))], [], []⟩) .lf .lf), .lf, []⟩
theorem k1 x : g1.den E1 TT A1 F Tryd.f72 x = S_laws_szPageS x := by kernel_rfl
theorem o1 : OK 72 (g1.sem S_laws_szPageS) := typed_ok2 ⟨tok, eqs, Tr.All.get (t := E1) ⟨o0, trivial, trivial⟩, mix⟩ Tryd.func72 (by kernel_rfl) (by kernel_rfl) g1 rfl _ k1
def g2 : Sig := ⟨⟨numD 0 [.agg [.list .page], .int .i64], [], []⟩, .one (.int .i64), [], [], false, false, [], []⟩
def E2 : Tr Sem1 := (.nd 72 (g1.sem S_laws_szPageS) .lf .lf)
theorem k2 x : g2.den E2 TT AN F Tryd.f36 x = S_laws_szMemory x := by kernel_rfl
theorem o2 : OK 36 (g2.sem S_laws_szMemory) := typed_ok2 ⟨tok, eqs, Tr.All.get (t := E2) ⟨o1, trivial, trivial⟩, mix⟩ Tryd.func36 (by kernel_rfl) (by kernel_rfl) g2 rfl _ k2
def g3 : Sig := ⟨⟨numD 0 [V1, .int .i64], [], []⟩, .one (.int .i64), [], [], false, false, [], []⟩
def E3 : Tr Sem1 := (.nd 36 (g2.sem S_laws_szMemory) .lf .lf)
theorem k3 x : g3.den E3 TT AN F Tryd.f11 x = S_laws_szBox x := by kernel_rfl
theorem o3 : OK 11 (g3.sem S_laws_szBox) := typed_ok2 ⟨tok, eqs, Tr.All.get (t := E3) ⟨o2, trivial, trivial⟩, mix⟩ Tryd.func11 (by kernel_rfl) (by kernel_rfl) g3 rfl _ k3
def g4 : Sig := ⟨⟨numD 0 [.agg [.arr .i 16]], [], []⟩, .one (.agg [.arr .i 16]), [], [], false, false, [], []⟩
def A4 : Anns := ⟨(.nd 0 (.loop ⟨[(1, (.konst (.ptr 0 0))), (2, (.konst (.ptr 1 0))), (3, (.konst (.ptr 2 0))), (4, (.int .i64))], [(.var [(.arr .i 16)]), (.var [(.arr .i 16)]), (.var [(.arr .i 16)])], []⟩) .lf .lf), .lf, []⟩
theorem k4 x : g4.den Tr.lf TT A4 F Tryd.f79 x = S_laws_toIntA16 x := by kernel_rfl
theorem o4 : OK 79 (g4.sem S_laws_toIntA16) := typed_ok2 ⟨tok, eqs, Tr.All.get (t := Tr.lf) trivial, mix⟩ Tryd.func79 (by kernel_rfl) (by kernel_rfl) g4 rfl _ k4
def g5 : Sig := ⟨⟨numD 0 [.agg [.arr .i 16, .int .i64, .int .i64]], [], []⟩, .one (.agg [.arr .i 16, .int .i64, .int .i64]), [], [], false, false, [], []⟩
def E5 : Tr Sem1 := (.nd 79 (g4.sem S_laws_toIntA16) .lf .lf)
theorem k5 x : g5.den E5 TT AN F Tryd.f39 x = S_laws_toCpu x := by kernel_rfl
theorem o5 : OK 39 (g5.sem S_laws_toCpu) := typed_ok2 ⟨tok, eqs, Tr.All.get (t := E5) ⟨o4, trivial, trivial⟩, mix⟩ Tryd.func39 (by kernel_rfl) (by kernel_rfl) g5 rfl _ k5
def g6 : Sig := ⟨⟨numD 0 [.el .page], [], []⟩, .one (.el .page), [], [], false, false, [], []⟩
theorem k6 x : g6.den Tr.lf TT AN F Tryd.f128 x = S_laws_toPage x := by kernel_rfl
theorem o6 : OK 128 (g6.sem S_laws_toPage) := typed_ok2 ⟨tok, eqs, Tr.All.get (t := Tr.lf) trivial, mix⟩ Tryd.func128 (by kernel_rfl) (by kernel_rfl) g6 rfl _ k6
def g7 : Sig := ⟨⟨numD 0 [.list .page], [], []⟩, .one (.konst (.vec 0)), [.row .page], [], false, true, [(2, 0, .page)], []⟩
def E7 : Tr Sem1 := (.nd 128 (g6.sem S_laws_toPage) .lf .lf)
def A7 : Anns := ⟨(.nd 0 (.loop ⟨[(0, (.list .page)), (3, (.konst (.vec 0))), (4, (.int .i64))], [(.row .page)], []⟩) .lf .lf), .lf, []⟩
theorem k7 x : g7.den E7 TT A7 F Tryd.f80 x = S_laws_toPageS x := by kernel_rfl
theorem o7 : OK 80 (g7.sem S_laws_toPageS) := typed_ok2 ⟨tok, eqs, Tr.All.get (t := E7) ⟨o6, trivial, trivial⟩, mix⟩ Tryd.func80 (by kernel_rfl) (by kernel_rfl) g7 rfl _ k7
def g8 : Sig := ⟨⟨numD 0 [.agg [.list .page]], [], []⟩, .one (.agg [.konst (.vec 0)]), [.row .page], [], false, true, [(2, 1, .page)], []⟩
def E8 : Tr Sem1 := (.nd 80 (g7.sem S_laws_toPageS) .lf .lf)
theorem k8 x : g8.den E8 TT AN F Tryd.f40 x = S_laws_toMemory x := by kernel_rfl
theorem o8 : OK 40 (g8.sem S_laws_toMemory) := typed_ok2 ⟨tok, eqs, Tr.All.get (t := E8) ⟨o7, trivial, trivial⟩, mix⟩ Tryd.func40 (by kernel_rfl) (by kernel_rfl) g8 rfl _ k8
def g9 : Sig := ⟨⟨numD 0 [V1], [], []⟩, .one (.agg [.arr .i 16, .int .i64, .int .i64, .konst (.vec 0), .int .i64, .int .i64, .str, .int .i64, .str, .int .i64, .int .i64, .int .i64, .int .i64, .int .i64, .int .i64]), [.row .page], [], false, true, [(2, 4, .page)], []⟩
def E9 : Tr Sem1 := (.nd 40 (g8.sem S_laws_toMemory) (.nd 39 (g5.sem S_laws_toCpu) .lf .lf) .lf)
def A9 : Anns := ⟨.lf, .lf, [(2, 4, .page), (3, 4, .page)]⟩
theorem k9 x : g9.den E9 TT A9 F Tryd.f13 x = S_laws_toBox x := by kernel_rfl
theorem o9 : OK 13 (g9.sem S_laws_toBox) := typed_ok2 ⟨tok, eqs, Tr.All.get (t := E9) ⟨o8, ⟨o5, trivial, trivial⟩, trivial⟩, mix⟩ Tryd.func13 (by kernel_rfl) (by kernel_rfl) g9 rfl _ k9
def g10 : Sig := ⟨⟨numD 0 [.int .i64], [], []⟩, .one (.bool), [], [], false, false, [], []⟩
theorem k10 x : g10.den Tr.lf TT AN F Tryd.f123 x = S_spec_l06Flags x := by kernel_rfl
theorem o10 : OK 123 (g10.sem S_spec_l06Flags) := typed_ok2 ⟨tok, eqs, Tr.All.get (t := Tr.lf) trivial, mix⟩ Tryd.func123 (by kernel_rfl) (by kernel_rfl) g10 rfl _ k10
def g11 : Sig := ⟨⟨numD 0 [.agg [.arr .i 16, .int .i64, .int .i64]], [], []⟩, .one (.bool), [], [], false, false, [], []⟩
def E11 : Tr Sem1 := (.nd 123 (g10.sem S_spec_l06Flags) .lf .lf)
theorem k11 x : g11.den E11 TT AN F Tryd.f73 x = S_spec_CpuOK x := by kernel_rfl
theorem o11 : OK 73 (g11.sem S_spec_CpuOK) := typed_ok2 ⟨tok, eqs, Tr.All.get (t := E11) ⟨o10, trivial, trivial⟩, mix⟩ Tryd.func73 (by kernel_rfl) (by kernel_rfl) g11 rfl _ k11
def g12 : Sig := ⟨⟨numD 0 [.int .i64, .int .i64, .int .i64], [], []⟩, .one (.bool), [], [], false, false, [], []⟩
theorem k12 x : g12.den Tr.lf TT AN F Tryd.f75 x = S_spec_l01In x := by kernel_rfl
theorem o12 : OK 75 (g12.sem S_spec_l01In) := typed_ok2 ⟨tok, eqs, Tr.All.get (t := Tr.lf) trivial, mix⟩ Tryd.func75 (by kernel_rfl) (by kernel_rfl) g12 rfl _ k12
def g13 : Sig := ⟨⟨numD 0 [.int .i64], [], []⟩, .one (.bool), [], [], false, false, [], []⟩
def E13 : Tr Sem1 := (.nd 75 (g12.sem S_spec_l01In) .lf .lf)
theorem k13 x : g13.den E13 TT AN F Tryd.f124 x = S_spec_l02Base x := by kernel_rfl
theorem o13 : OK 124 (g13.sem S_spec_l02Base) := typed_ok2 ⟨tok, eqs, Tr.All.get (t := E13) ⟨o12, trivial, trivial⟩, mix⟩ Tryd.func124 (by kernel_rfl) (by kernel_rfl) g13 rfl _ k13
def g14 : Sig := ⟨⟨numD 0 [.int .i64], [], []⟩, .one (.bool), [], [], false, false, [], []⟩
def E14 : Tr Sem1 := (.nd 75 (g12.sem S_spec_l01In) .lf .lf)
theorem k14 x : g14.den E14 TT AN F Tryd.f125 x = S_spec_l02Perm x := by kernel_rfl
theorem o14 : OK 125 (g14.sem S_spec_l02Perm) := typed_ok2 ⟨tok, eqs, Tr.All.get (t := E14) ⟨o12, trivial, trivial⟩, mix⟩ Tryd.func125 (by kernel_rfl) (by kernel_rfl) g14 rfl _ k14
def g15 : Sig := ⟨⟨numD 0 [.agg [.list .page]], [], []⟩, .one (.bool), [], [], false, false, [], []⟩
def E15 : Tr Sem1 := (.nd 125 (g14.sem S_spec_l02Perm) (.nd 124 (g13.sem S_spec_l02Base) .lf .lf) .lf)
def A15 : Anns := ⟨(.nd 0 (.loop ⟨[(1, (.konst (.ptr 0 0))), (3, (.int .i64))], [(.var [(.list .page)])], []⟩) .lf .lf), .lf, []⟩
theorem k15 x : g15.den E15 TT A15 F Tryd.f74 x = S_spec_MemoryOK x := by kernel_rfl
theorem o15 : OK 74 (g15.sem S_spec_MemoryOK) := typed_ok2 ⟨tok, eqs, Tr.All.get (t := E15) ⟨o14, ⟨o13, trivial, trivial⟩, trivial⟩, mix⟩ Tryd.func74 (by kernel_rfl) (by kernel_rfl) g15 rfl _ k15
def g16 : Sig := ⟨⟨numD 0 [.int .i64, .int .i64], [], []⟩, .one (.int .i64), [], [], false, false, [], []⟩
theorem k16 x : g16.den Tr.lf TT AN F Tryd.f126 x = S_spec_l01Bit x := by kernel_rfl
theorem o16 : OK 126 (g16.sem S_spec_l01Bit) := typed_ok2 ⟨tok, eqs, Tr.All.get (t := Tr.lf) trivial, mix⟩ Tryd.func126 (by kernel_rfl) (by kernel_rfl) g16 rfl _ k16
def g17 : Sig := ⟨⟨numD 0 [.int .i64, .int .i64], [], []⟩, .one (.int .i64), [], [], false, false, [], []⟩
def E17 : Tr Sem1 := (.nd 126 (g16.sem S_spec_l01Bit) .lf .lf)
def A17 : Anns := ⟨(.nd 0 (.loop ⟨[(0, (.int .i64)), (1, (.int .i64)), (5, (.int .u64)), (6, (.int .i64))], [], []⟩) .lf .lf), .lf, []⟩
theorem k17 x : g17.den E17 TT A17 F Tryd.f76 x = S_spec_l01Sign x := by kernel_rfl
theorem o17 : OK 76 (g17.sem S_spec_l01Sign) := typed_ok2 ⟨tok, eqs, Tr.All.get (t := E17) ⟨o16, trivial, trivial⟩, mix⟩ Tryd.func76 (by kernel_rfl) (by kernel_rfl) g17 rfl _ k17
def g18 : Sig := ⟨⟨numD 0 [V1], [], []⟩, .one (.bool), [], [], false, false, [], []⟩
def E18 : Tr Sem1 := (.nd 75 (g12.sem S_spec_l01In) (.nd 74 (g15.sem S_spec_MemoryOK) (.nd 73 (g11.sem S_spec_CpuOK) .lf .lf) .lf) (.nd 76 (g17.sem S_spec_l01Sign) .lf .lf))
def A18 : Anns := ⟨.lf, .lf, [(1, 4, .page)]⟩
theorem k18 x : g18.den E18 TT A18 F Tryd.f37 x = S_spec_BoxOK x := by kernel_rfl
theorem o18 : OK 37 (g18.sem S_spec_BoxOK) := typed_ok2 ⟨tok, eqs, Tr.All.get (t := E18) ⟨o12, ⟨o15, ⟨o11, trivial, trivial⟩, trivial⟩, ⟨o17, trivial, trivial⟩⟩, mix⟩ Tryd.func37 (by kernel_rfl) (by kernel_rfl) g18 rfl _ k18
def g19 : Sig := ⟨⟨numD 0 [.int .i64], [], []⟩, .one (.str), [], [], false, false, [], []⟩
def E19 (n0 : Nat) : Tr Sem1 := (.nd 62 (g19.sem (RS_spec_l00Digits n0)) .lf .lf)
theorem k19 n0 x : g19.den (E19 n0) TT AN F Tryd.f62 x = RS_spec_l00Digits (n0 + 1) x := by kernel_rfl
theorem r19 : ∀ n0, OK 62 (g19.sem (RS_spec_l00Digits n0))
  | 0 => sem_none g19 (RS_spec_l00Digits 0) (fun _ => rfl)
  | n0 + 1 => typed_ok2 ⟨tok, eqs, Tr.All.get (t := E19 n0) ⟨(r19 n0), trivial, trivial⟩, mix⟩ Tryd.func62 (by kernel_rfl) (by kernel_rfl) g19 rfl _ (k19 n0)
theorem o19 : OK 62 (g19.sem S_spec_l00Digits) := r19 100
def g20 : Sig := ⟨⟨numD 0 [.int .i64], [], []⟩, .one (.str), [], [], false, false, [], []⟩
theorem k20 x : g20.den Tr.lf TT AN F Tryd.f127 x = S_spec_CodeWord x := by kernel_rfl
theorem o20 : OK 127 (g20.sem S_spec_CodeWord) := typed_ok2 ⟨tok, eqs, Tr.All.get (t := Tr.lf) trivial, mix⟩ Tryd.func127 (by kernel_rfl) (by kernel_rfl) g20 rfl _ k20
def g21 : Sig := ⟨⟨numD 0 [V1], [], []⟩, .one (.str), [], [], false, false, [], []⟩
def E21 : Tr Sem1 := (.nd 127 (g20.sem S_spec_CodeWord) (.nd 62 (g19.sem S_spec_l00Digits) .lf .lf) .lf)
def A21 : Anns := ⟨.lf, .lf, [(1, 4, .page)]⟩
theorem k21 x : g21.den E21 TT A21 F Tryd.f77 x = S_spec_l16State x := by kernel_rfl
theorem o21 : OK 77 (g21.sem S_spec_l16State) := typed_ok2 ⟨tok, eqs, Tr.All.get (t := E21) ⟨o20, ⟨o19, trivial, trivial⟩, trivial⟩, mix⟩ Tryd.func77 (by kernel_rfl) (by kernel_rfl) g21 rfl _ k21
def g22 : Sig := ⟨⟨numD 0 [.int .i64], [], []⟩, .one (.bool), [], [], false, false, [], []⟩
theorem k22 x : g22.den Tr.lf TT AN F Tryd.f57 x = S_spec_l01Size x := by kernel_rfl
theorem o22 : OK 57 (g22.sem S_spec_l01Size) := typed_ok2 ⟨tok, eqs, Tr.All.get (t := Tr.lf) trivial, mix⟩ Tryd.func57 (by kernel_rfl) (by kernel_rfl) g22 rfl _ k22
def g23 : Sig := ⟨⟨numD 0 [.int .i64], [], []⟩, .one (.list .s), [], [], false, false, [], []⟩
def E23 : Tr Sem1 := (.nd 62 (g19.sem S_spec_l00Digits) .lf .lf)
def A23 : Anns := ⟨(.nd 3 (.loop ⟨[(0, (.int .i64)), (3, (.konst (.vec 0))), (5, (.int .i64))], [(.row .s)], []⟩) (.nd 0 (.loop ⟨[(0, (.int .i64)), (3, (.konst (.vec 0))), (4, (.int .i64))], [(.row .s)], []⟩) .lf .lf) .lf), (.nd 72 ⟨[(0, (.int .i64)), (3, (.konst (.vec 0))), (4, (.int .i64))], [(.row .s)], []⟩ (.nd 47 ⟨[(0, (.int .i64)), (3, (.konst (.vec 0))), (4, (.int .i64))], [(.row .s)], []⟩ (.nd 27 ⟨[(0, (.int .i64)), (3, (.konst (.vec 0))), (4, (.int .i64))], [(.row .s)], []⟩ .lf .lf) (.nd 66 ⟨[(0, (.int .i64)), (3, (.konst (.vec 0))), (4, (.int .i64))], [(.row .s)], []⟩ .lf .lf)) (.nd 117 ⟨[(0, (.int .i64)), (3, (.konst (.vec 0))), (5, (.int .i64)), (6, .str)], [(.row .s)], []⟩ (.nd 113 ⟨[(0, (.int .i64)), (3, (.konst (.vec 0))), (5, (.int .i64)), (6, .str)], [(.row .s)], []⟩ .lf .lf) (.nd 120 ⟨[(0, (.int .i64)), (3, (.konst (.vec 0))), (5, (.int .i64)), (6, .str)], [(.row .s)], []⟩ .lf .lf))), []⟩
theorem k23 x : g23.den E23 TT A23 F Tryd.f115 x = S_spec_l03Regs x := by kernel_rfl
theorem o23 : OK 115 (g23.sem S_spec_l03Regs) := typed_ok2 ⟨tok, eqs, Tr.All.get (t := E23) ⟨o19, trivial, trivial⟩, mix⟩ Tryd.func115 (by kernel_rfl) (by kernel_rfl) g23 rfl _ k23
def g24 : Sig := ⟨⟨numD 0 [.int .i64, .int .i64], [], []⟩, .one (.str), [], [], false, false, [], []⟩
def E24 : Tr Sem1 := (.nd 115 (g23.sem S_spec_l03Regs) (.nd 57 (g22.sem S_spec_l01Size) .lf .lf) .lf)
theorem k24 x : g24.den E24 TT AN F Tryd.f59 x = S_spec_RegName x := by kernel_rfl
theorem o24 : OK 59 (g24.sem S_spec_RegName) := typed_ok2 ⟨tok, eqs, Tr.All.get (t := E24) ⟨o23, ⟨o22, trivial, trivial⟩, trivial⟩, mix⟩ Tryd.func59 (by kernel_rfl) (by kernel_rfl) g24 rfl _ k24
def g25 : Sig := ⟨⟨numD 0 [.str], [], []⟩, .one (.str), [], [], false, false, [], []⟩
def A25 : Anns := ⟨(.nd 0 (.loop ⟨[(0, .str), (3, (.konst (.vec 0))), (4, (.int .i64))], [(.row .u)], []⟩) .lf .lf), .lf, []⟩
theorem k25 x : g25.den Tr.lf TT A25 F Tryd.f78 x = S_spec_l01Hex x := by kernel_rfl
theorem o25 : OK 78 (g25.sem S_spec_l01Hex) := typed_ok2 ⟨tok, eqs, Tr.All.get (t := Tr.lf) trivial, mix⟩ Tryd.func78 (by kernel_rfl) (by kernel_rfl) g25 rfl _ k25
def g26 : Sig := ⟨⟨numD 0 [V1], [], []⟩, .one (.list .s), [], [], false, false, [], []⟩
def E26 : Tr Sem1 := (.nd 77 (g21.sem S_spec_l16State) (.nd 62 (g19.sem S_spec_l00Digits) (.nd 59 (g24.sem S_spec_RegName) .lf .lf) .lf) (.nd 78 (g25.sem S_spec_l01Hex) .lf .lf))
def A26 : Anns := ⟨(.nd 0 (.loop ⟨[(1, (.konst (.ptr 0 0))), (3, (.konst (.vec 1))), (4, (.int .i64))], [(B0), (.row .s)], []⟩) .lf .lf), (.nd 58 ⟨[(1, (.konst (.ptr 0 0))), (3, (.konst (.vec 1))), (4, (.int .i64))], [(B0), (.row .s)], []⟩ .lf .lf), [(1, 4, .page)]⟩
theorem k26 x : g26.den E26 TT A26 F Tryd.f38 x = S_spec_l16Box x := by kernel_rfl
theorem o26 : OK 38 (g26.sem S_spec_l16Box) := typed_ok2 ⟨tok, eqs, Tr.All.get (t := E26) ⟨o21, ⟨o19, ⟨o24, trivial, trivial⟩, trivial⟩, ⟨o25, trivial, trivial⟩⟩, mix⟩ Tryd.func38 (by kernel_rfl) (by kernel_rfl) g26 rfl _ k26
def g27 : Sig := ⟨⟨numD 0 [V1], [], []⟩, .tup [.list .s, .int .i64], [], [], false, false, [], []⟩
def E27 : Tr Sem1 := (.nd 38 (g26.sem S_spec_l16Box) (.nd 37 (g18.sem S_spec_BoxOK) .lf .lf) .lf)
def A27 : Anns := ⟨.lf, .lf, [(1, 4, .page)]⟩
theorem k27 x : g27.den E27 TT A27 F Tryd.f12 x = S_spec_BoxLines x := by kernel_rfl
theorem o27 : OK 12 (g27.sem S_spec_BoxLines) := typed_ok2 ⟨tok, eqs, Tr.All.get (t := E27) ⟨o26, ⟨o18, trivial, trivial⟩, trivial⟩, mix⟩ Tryd.func12 (by kernel_rfl) (by kernel_rfl) g27 rfl _ k27
def g28 : Sig := ⟨⟨numD 0 [.int .i64], [], []⟩, .one (.bool), [], [], false, false, [], []⟩
theorem k28 x : g28.den Tr.lf TT AN F Tryd.f129 x = S_impl_areFlags x := by kernel_rfl
theorem o28 : OK 129 (g28.sem S_impl_areFlags) := typed_ok2 ⟨tok, eqs, Tr.All.get (t := Tr.lf) trivial, mix⟩ Tryd.func129 (by kernel_rfl) (by kernel_rfl) g28 rfl _ k28
def g29 : Sig := ⟨⟨numD 0 [.agg [.arr .i 16, .int .i64, .int .i64]], [], []⟩, .one (.bool), [], [], false, false, [], []⟩
def E29 : Tr Sem1 := (.nd 129 (g28.sem S_impl_areFlags) .lf .lf)
theorem k29 x : g29.den E29 TT AN F Tryd.f81 x = S_impl_CpuOK x := by kernel_rfl
theorem o29 : OK 81 (g29.sem S_impl_CpuOK) := typed_ok2 ⟨tok, eqs, Tr.All.get (t := E29) ⟨o28, trivial, trivial⟩, mix⟩ Tryd.func81 (by kernel_rfl) (by kernel_rfl) g29 rfl _ k29
def g30 : Sig := ⟨⟨numD 0 [.int .i64, .int .i64, .int .i64], [], []⟩, .one (.bool), [], [], false, false, [], []⟩
theorem k30 x : g30.den Tr.lf TT AN F Tryd.f84 x = S_impl_within x := by kernel_rfl
theorem o30 : OK 84 (g30.sem S_impl_within) := typed_ok2 ⟨tok, eqs, Tr.All.get (t := Tr.lf) trivial, mix⟩ Tryd.func84 (by kernel_rfl) (by kernel_rfl) g30 rfl _ k30
def g31 : Sig := ⟨⟨numD 0 [.int .i64], [], []⟩, .one (.bool), [], [], false, false, [], []⟩
def E31 : Tr Sem1 := (.nd 84 (g30.sem S_impl_within) .lf .lf)
theorem k31 x : g31.den E31 TT AN F Tryd.f130 x = S_impl_isBase x := by kernel_rfl
theorem o31 : OK 130 (g31.sem S_impl_isBase) := typed_ok2 ⟨tok, eqs, Tr.All.get (t := E31) ⟨o30, trivial, trivial⟩, mix⟩ Tryd.func130 (by kernel_rfl) (by kernel_rfl) g31 rfl _ k31
def g32 : Sig := ⟨⟨numD 0 [.int .i64], [], []⟩, .one (.bool), [], [], false, false, [], []⟩
def E32 : Tr Sem1 := (.nd 84 (g30.sem S_impl_within) .lf .lf)
theorem k32 x : g32.den E32 TT AN F Tryd.f131 x = S_impl_isPerm x := by kernel_rfl
theorem o32 : OK 131 (g32.sem S_impl_isPerm) := typed_ok2 ⟨tok, eqs, Tr.All.get (t := E32) ⟨o30, trivial, trivial⟩, mix⟩ Tryd.func131 (by kernel_rfl) (by kernel_rfl) g32 rfl _ k32
def g33 : Sig := ⟨⟨numD 0 [.agg [.list .page]], [], []⟩, .one (.bool), [], [], false, false, [], []⟩
def E33 : Tr Sem1 := (.nd 131 (g32.sem S_impl_isPerm) (.nd 130 (g31.sem S_impl_isBase) .lf .lf) .lf)
def A33 : Anns := ⟨(.nd 0 (.loop ⟨[(1, (.konst (.ptr 0 0))), (6, (.list .page)), (7, (.int .i64)), (8, (.int .i64))], [(.var [(.list .page)])], []⟩) .lf .lf), .lf, []⟩
theorem k33 x : g33.den E33 TT A33 F Tryd.f82 x = S_impl_MemoryOK x := by kernel_rfl
theorem o33 : OK 82 (g33.sem S_impl_MemoryOK) := typed_ok2 ⟨tok, eqs, Tr.All.get (t := E33) ⟨o32, ⟨o31, trivial, trivial⟩, trivial⟩, mix⟩ Tryd.func82 (by kernel_rfl) (by kernel_rfl) g33 rfl _ k33
def g34 : Sig := ⟨⟨numD 0 [.int .i64], [], []⟩, .one (.bool), [], [], false, false, [], []⟩
def E34 : Tr Sem1 := (.nd 84 (g30.sem S_impl_within) .lf .lf)
theorem k34 x : g34.den E34 TT AN F Tryd.f83 x = S_impl_isHeap x := by kernel_rfl
theorem o34 : OK 83 (g34.sem S_impl_isHeap) := typed_ok2 ⟨tok, eqs, Tr.All.get (t := E34) ⟨o30, trivial, trivial⟩, mix⟩ Tryd.func83 (by kernel_rfl) (by kernel_rfl) g34 rfl _ k34
def g35 : Sig := ⟨⟨numD 0 [.int .i64], [], []⟩, .one (.bool), [], [], false, false, [], []⟩
def E35 : Tr Sem1 := (.nd 84 (g30.sem S_impl_within) .lf .lf)
theorem k35 x : g35.den E35 TT AN F Tryd.f85 x = S_impl_isSeed x := by kernel_rfl
theorem o35 : OK 85 (g35.sem S_impl_isSeed) := typed_ok2 ⟨tok, eqs, Tr.All.get (t := E35) ⟨o30, trivial, trivial⟩, mix⟩ Tryd.func85 (by kernel_rfl) (by kernel_rfl) g35 rfl _ k35
def g36 : Sig := ⟨⟨numD 0 [.int .i64, .int .i64], [], []⟩, .one (.int .i64), [], [], false, false, [], []⟩
theorem k36 x : g36.den Tr.lf TT AN F Tryd.f141 x = S_impl_sign x := by kernel_rfl
theorem o36 : OK 141 (g36.sem S_impl_sign) := typed_ok2 ⟨tok, eqs, Tr.All.get (t := Tr.lf) trivial, mix⟩ Tryd.func141 (by kernel_rfl) (by kernel_rfl) g36 rfl _ k36
def g37 : Sig := ⟨⟨numD 0 [.int .i64, .int .i64], [], []⟩, .one (.bool), [], [], false, false, [], []⟩
def E37 : Tr Sem1 := (.nd 141 (g36.sem S_impl_sign) .lf .lf)
theorem k37 x : g37.den E37 TT AN F Tryd.f109 x = S_impl_fits x := by kernel_rfl
theorem o37 : OK 109 (g37.sem S_impl_fits) := typed_ok2 ⟨tok, eqs, Tr.All.get (t := E37) ⟨o36, trivial, trivial⟩, mix⟩ Tryd.func109 (by kernel_rfl) (by kernel_rfl) g37 rfl _ k37
def g38 : Sig := ⟨⟨numD 0 [V1], [], []⟩, .one (.bool), [], [], false, false, [], []⟩
def E38 : Tr Sem1 := (.nd 109 (g37.sem S_impl_fits) (.nd 84 (g30.sem S_impl_within) .lf .lf) .lf)
def A38 : Anns := ⟨.lf, .lf, [(1, 4, .page)]⟩
theorem k38 x : g38.den E38 TT A38 F Tryd.f86 x = S_impl_Box_isEnd x := by kernel_rfl
theorem o38 : OK 86 (g38.sem S_impl_Box_isEnd) := typed_ok2 ⟨tok, eqs, Tr.All.get (t := E38) ⟨o37, ⟨o30, trivial, trivial⟩, trivial⟩, mix⟩ Tryd.func86 (by kernel_rfl) (by kernel_rfl) g38 rfl _ k38
def g39 : Sig := ⟨⟨numD 0 [V1], [], []⟩, .one (.bool), [], [], false, false, [], []⟩
def E39 : Tr Sem1 := (.nd 84 (g30.sem S_impl_within) (.nd 82 (g33.sem S_impl_MemoryOK) (.nd 81 (g29.sem S_impl_CpuOK) .lf .lf) (.nd 83 (g34.sem S_impl_isHeap) .lf .lf)) (.nd 86 (g38.sem S_impl_Box_isEnd) (.nd 85 (g35.sem S_impl_isSeed) .lf .lf) .lf))
def A39 : Anns := ⟨.lf, .lf, [(1, 4, .page)]⟩
theorem k39 x : g39.den E39 TT A39 F Tryd.f41 x = S_impl_BoxOK x := by kernel_rfl
theorem o39 : OK 41 (g39.sem S_impl_BoxOK) := typed_ok2 ⟨tok, eqs, Tr.All.get (t := E39) ⟨o30, ⟨o33, ⟨o29, trivial, trivial⟩, ⟨o34, trivial, trivial⟩⟩, ⟨o38, ⟨o35, trivial, trivial⟩, trivial⟩⟩, mix⟩ Tryd.func41 (by kernel_rfl) (by kernel_rfl) g39 rfl _ k39
def g40 : Sig := ⟨⟨numD 0 [.int .i64], [], []⟩, .one (.str), [], [], false, false, [], []⟩
theorem o40 : OK 69 (g40.sem S_strconv_Itoa) := itoa_ok Tryd.func69 (by kernel_rfl) (by kernel_rfl) (by kernel_rfl) (gv := 0) (by simp [Ly]) (by kernel_rfl) (fun n h0 h1 w ht => Tryd.strconv_Itoa n h0 h1 w ht)
def g41 : Sig := ⟨⟨numD 0 [.str, .list .i], [], []⟩, .one (.str), [], [], false, false, [], []⟩
def E41 : Tr Sem1 := (.nd 69 (g40.sem S_strconv_Itoa) .lf .lf)
def A41 : Anns := ⟨(.nd 0 (.loop ⟨[(5, .str), (9, (.list .i)), (10, (.int .i64)), (11, (.int .i64))], [], []⟩) .lf .lf), .lf, []⟩
theorem k41 x : g41.den E41 TT A41 F Tryd.f88 x = S_impl_wordsLine x := by kernel_rfl
theorem o41 : OK 88 (g41.sem S_impl_wordsLine) := typed_ok2 ⟨tok, eqs, Tr.All.get (t := E41) ⟨o40, trivial, trivial⟩, mix⟩ Tryd.func88 (by kernel_rfl) (by kernel_rfl) g41 rfl _ k41
def g42 : Sig := ⟨⟨numD 0 [], [], []⟩, .one (.list .s), [], [], false, false, [], []⟩
theorem k42 x : g42.den Tr.lf TT AN F Tryd.f145 x = S_impl_codeWords x := by kernel_rfl
theorem o42 : OK 145 (g42.sem S_impl_codeWords) := typed_ok2 ⟨tok, eqs, Tr.All.get (t := Tr.lf) trivial, mix⟩ Tryd.func145 (by kernel_rfl) (by kernel_rfl) g42 rfl _ k42
def g43 : Sig := ⟨⟨numD 0 [.int .i64], [], []⟩, .one (.str), [], [], false, false, [], []⟩
def E43 : Tr Sem1 := (.nd 145 (g42.sem S_impl_codeWords) (.nd 84 (g30.sem S_impl_within) .lf .lf) .lf)
theorem k43 x : g43.den E43 TT AN F Tryd.f132 x = S_impl_CodeWord x := by kernel_rfl
theorem o43 : OK 132 (g43.sem S_impl_CodeWord) := typed_ok2 ⟨tok, eqs, Tr.All.get (t := E43) ⟨o42, ⟨o30, trivial, trivial⟩, trivial⟩, mix⟩ Tryd.func132 (by kernel_rfl) (by kernel_rfl) g43 rfl _ k43
def g44 : Sig := ⟨⟨numD 0 [V1], [], []⟩, .one (.str), [], [], false, false, [], []⟩
def E44 : Tr Sem1 := (.nd 132 (g43.sem S_impl_CodeWord) (.nd 88 (g41.sem S_impl_wordsLine) .lf .lf) .lf)
def A44 : Anns := ⟨.lf, .lf, [(1, 4, .page)]⟩
theorem k44 x : g44.den E44 TT A44 F Tryd.f87 x = S_impl_stateText x := by kernel_rfl
theorem o44 : OK 87 (g44.sem S_impl_stateText) := typed_ok2 ⟨tok, eqs, Tr.All.get (t := E44) ⟨o43, ⟨o41, trivial, trivial⟩, trivial⟩, mix⟩ Tryd.func87 (by kernel_rfl) (by kernel_rfl) g44 rfl _ k44
def g45 : Sig := ⟨⟨numD 0 [.int .i64], [], []⟩, .one (.bool), [], [], false, false, [], []⟩
theorem k45 x : g45.den Tr.lf TT AN F Tryd.f63 x = S_impl_isSize x := by kernel_rfl
theorem o45 : OK 63 (g45.sem S_impl_isSize) := typed_ok2 ⟨tok, eqs, Tr.All.get (t := Tr.lf) trivial, mix⟩ Tryd.func63 (by kernel_rfl) (by kernel_rfl) g45 rfl _ k45
def g46 : Sig := ⟨⟨numD 0 [.int .i64], [], []⟩, .one (.bool), [], [], false, false, [], []⟩
def E46 : Tr Sem1 := (.nd 84 (g30.sem S_impl_within) .lf .lf)
theorem k46 x : g46.den E46 TT AN F Tryd.f116 x = S_impl_isHigh x := by kernel_rfl
theorem o46 : OK 116 (g46.sem S_impl_isHigh) := typed_ok2 ⟨tok, eqs, Tr.All.get (t := E46) ⟨o30, trivial, trivial⟩, mix⟩ Tryd.func116 (by kernel_rfl) (by kernel_rfl) g46 rfl _ k46
def g47 : Sig := ⟨⟨numD 0 [.int .i64, .int .i64], [], []⟩, .one (.bool), [], [], false, false, [], []⟩
def E47 : Tr Sem1 := (.nd 84 (g30.sem S_impl_within) (.nd 63 (g45.sem S_impl_isSize) .lf .lf) (.nd 116 (g46.sem S_impl_isHigh) .lf .lf))
theorem k47 x : g47.den E47 TT AN F Tryd.f65 x = S_impl_isReg x := by kernel_rfl
theorem o47 : OK 65 (g47.sem S_impl_isReg) := typed_ok2 ⟨tok, eqs, Tr.All.get (t := E47) ⟨o30, ⟨o45, trivial, trivial⟩, ⟨o46, trivial, trivial⟩⟩, mix⟩ Tryd.func65 (by kernel_rfl) (by kernel_rfl) g47 rfl _ k47
def g48 : Sig := ⟨⟨numD 0 [.int .i64], [], []⟩, .one (.list .s), [], [], false, false, [], []⟩
def E48 : Tr Sem1 := (.nd 69 (g40.sem S_strconv_Itoa) .lf .lf)
def A48 : Anns := ⟨(.nd 2 (.loop ⟨[(0, (.int .i64)), (5, .str), (6, (.konst (.vec 0))), (9, (.int .i64))], [(.row .s)], []⟩) (.nd 0 (.loop ⟨[(0, (.int .i64)), (4, .str), (5, .str), (6, (.konst (.vec 0))), (20, (.konst (.vec 1))), (21, (.int .i64)), (22, (.int .i64))], [(.row .s), (.row .s)], []⟩) .lf .lf) .lf), (.nd 68 ⟨[(0, (.int .i64)), (5, .str), (6, (.konst (.vec 0)))], [(.row .s)], []⟩ .lf .lf), []⟩
theorem k48 x : g48.den E48 TT A48 F Tryd.f117 x = S_impl_regNames x := by kernel_rfl
theorem o48 : OK 117 (g48.sem S_impl_regNames) := typed_ok2 ⟨tok, eqs, Tr.All.get (t := E48) ⟨o40, trivial, trivial⟩, mix⟩ Tryd.func117 (by kernel_rfl) (by kernel_rfl) g48 rfl _ k48
def g49 : Sig := ⟨⟨numD 0 [.int .i64, .int .i64], [], []⟩, .one (.str), [], [], false, false, [], []⟩
def E49 : Tr Sem1 := (.nd 117 (g48.sem S_impl_regNames) (.nd 65 (g47.sem S_impl_isReg) .lf .lf) .lf)
theorem k49 x : g49.den E49 TT AN F Tryd.f68 x = S_impl_RegName x := by kernel_rfl
theorem o49 : OK 68 (g49.sem S_impl_RegName) := typed_ok2 ⟨tok, eqs, Tr.All.get (t := E49) ⟨o48, ⟨o47, trivial, trivial⟩, trivial⟩, mix⟩ Tryd.func68 (by kernel_rfl) (by kernel_rfl) g49 rfl _ k49
def g50 : Sig := ⟨⟨numD 0 [.str], [], []⟩, .one (.str), [], [], false, false, [], []⟩
def A50 : Anns := ⟨(.nd 0 (.loop ⟨[(0, .str), (3, (.konst (.vec 0))), (10, (.int .i64)), (11, (.int .i64))], [(.row .u)], []⟩) .lf .lf), .lf, []⟩
theorem k50 x : g50.den Tr.lf TT A50 F Tryd.f133 x = S_impl_hexText x := by kernel_rfl
theorem o50 : OK 133 (g50.sem S_impl_hexText) := typed_ok2 ⟨tok, eqs, Tr.All.get (t := Tr.lf) trivial, mix⟩ Tryd.func133 (by kernel_rfl) (by kernel_rfl) g50 rfl _ k50
def g51 : Sig := ⟨⟨numD 0 [.str], [], []⟩, .one (.str), [], [], false, false, [], []⟩
def E51 : Tr Sem1 := (.nd 133 (g50.sem S_impl_hexText) .lf .lf)
theorem k51 x : g51.den E51 TT AN F Tryd.f89 x = S_impl_HexOf x := by kernel_rfl
theorem o51 : OK 89 (g51.sem S_impl_HexOf) := typed_ok2 ⟨tok, eqs, Tr.All.get (t := E51) ⟨o50, trivial, trivial⟩, mix⟩ Tryd.func89 (by kernel_rfl) (by kernel_rfl) g51 rfl _ k51
def g52 : Sig := ⟨⟨numD 0 [V1], [], []⟩, .one (.konst (.vec 0)), [.row .s], [], false, true, [(2, 0, .s)], []⟩
def E52 : Tr Sem1 := (.nd 88 (g41.sem S_impl_wordsLine) (.nd 87 (g44.sem S_impl_stateText) (.nd 68 (g49.sem S_impl_RegName) .lf .lf) .lf) (.nd 89 (g51.sem S_impl_HexOf) .lf .lf))
def A52 : Anns := ⟨(.nd 0 (.loop ⟨[(1, (.konst (.ptr 0 0))), (3, (.konst (.vec 1))), (23, (.agg [(.arr .i 16)])), (24, (.int .i64))], [(B0), (.row .s)], []⟩) .lf .lf), (.nd 58 ⟨[(1, (.konst (.ptr 0 0))), (3, (.konst (.vec 1))), (23, (.agg [(.arr .i 16)])), (24, (.int .i64))], [(B0), (.row .s)], []⟩ .lf .lf), [(1, 4, .page)]⟩
theorem k52 x : g52.den E52 TT A52 F Tryd.f42 x = S_impl_boxLines x := by kernel_rfl
theorem o52 : OK 42 (g52.sem S_impl_boxLines) := typed_ok2 ⟨tok, eqs, Tr.All.get (t := E52) ⟨o41, ⟨o44, ⟨o49, trivial, trivial⟩, trivial⟩, ⟨o51, trivial, trivial⟩⟩, mix⟩ Tryd.func42 (by kernel_rfl) (by kernel_rfl) g52 rfl _ k52
def g53 : Sig := ⟨⟨numD 0 [V1], [], []⟩, .tup [.konst (.vec 0), .int .i64], [.row .s], [], false, true, [(2, 0, .s)], []⟩
def E53 : Tr Sem1 := (.nd 42 (g52.sem S_impl_boxLines) (.nd 41 (g39.sem S_impl_BoxOK) .lf .lf) .lf)
def A53 : Anns := ⟨.lf, .lf, [(1, 4, .page)]⟩
theorem k53 x : g53.den E53 TT A53 F Tryd.f14 x = S_impl_BoxLines x := by kernel_rfl
theorem o53 : OK 14 (g53.sem S_impl_BoxLines) := typed_ok2 ⟨tok, eqs, Tr.All.get (t := E53) ⟨o52, ⟨o39, trivial, trivial⟩, trivial⟩, mix⟩ Tryd.func14 (by kernel_rfl) (by kernel_rfl) g53 rfl _ k53
def g54 : Sig := ⟨⟨numD 0 [.list .s, .list .s], [], []⟩, .one (.bool), [], [], false, false, [], []⟩
def A54 : Anns := ⟨(.nd 0 (.loop ⟨[(0, (.list .s)), (1, (.list .s)), (5, (.int .i64))], [], []⟩) .lf .lf), .lf, []⟩
theorem k54 x : g54.den Tr.lf TT A54 F Tryd.f15 x = S_laws_eqStringS x := by kernel_rfl
theorem o54 : OK 15 (g54.sem S_laws_eqStringS) := typed_ok2 ⟨tok, eqs, Tr.All.get (t := Tr.lf) trivial, mix⟩ Tryd.func15 (by kernel_rfl) (by kernel_rfl) g54 rfl _ k54
def g55 : Sig := ⟨⟨numD 0 [.agg [.arr .i 16], .agg [.arr .i 16]], [], []⟩, .one (.bool), [], [], false, false, [], []⟩
def A55 : Anns := ⟨(.nd 0 (.loop ⟨[(2, (.konst (.ptr 0 0))), (3, (.konst (.ptr 1 0))), (5, (.int .i64))], [(.var [(.arr .i 16)]), (.var [(.arr .i 16)])], []⟩) .lf .lf), .lf, []⟩
theorem k55 x : g55.den Tr.lf TT A55 F Tryd.f90 x = S_laws_eqIntA16 x := by kernel_rfl
theorem o55 : OK 90 (g55.sem S_laws_eqIntA16) := typed_ok2 ⟨tok, eqs, Tr.All.get (t := Tr.lf) trivial, mix⟩ Tryd.func90 (by kernel_rfl) (by kernel_rfl) g55 rfl _ k55
def g56 : Sig := ⟨⟨numD 0 [.agg [.arr .i 16, .int .i64, .int .i64], .agg [.arr .i 16, .int .i64, .int .i64]], [], []⟩, .one (.bool), [], [], false, false, [], []⟩
def E56 : Tr Sem1 := (.nd 90 (g55.sem S_laws_eqIntA16) .lf .lf)
theorem k56 x : g56.den E56 TT AN F Tryd.f43 x = S_laws_eqCpu x := by kernel_rfl
theorem o56 : OK 43 (g56.sem S_laws_eqCpu) := typed_ok2 ⟨tok, eqs, Tr.All.get (t := E56) ⟨o55, trivial, trivial⟩, mix⟩ Tryd.func43 (by kernel_rfl) (by kernel_rfl) g56 rfl _ k56
def g57 : Sig := ⟨⟨numD 0 [.el .page, .el .page], [], []⟩, .one (.bool), [], [], false, false, [], []⟩
theorem k57 x : g57.den Tr.lf TT AN F Tryd.f134 x = S_laws_eqPage x := by kernel_rfl
theorem o57 : OK 134 (g57.sem S_laws_eqPage) := typed_ok2 ⟨tok, eqs, Tr.All.get (t := Tr.lf) trivial, mix⟩ Tryd.func134 (by kernel_rfl) (by kernel_rfl) g57 rfl _ k57
def g58 : Sig := ⟨⟨numD 0 [.list .page, .list .page], [], []⟩, .one (.bool), [], [], false, false, [], []⟩
def E58 : Tr Sem1 := (.nd 134 (g57.sem S_laws_eqPage) .lf .lf)
def A58 : Anns := ⟨(.nd 0 (.loop ⟨[(0, (.list .page)), (1, (.list .page)), (5, (.int .i64))], [], []⟩) .lf .lf), .lf, []⟩
theorem k58 x : g58.den E58 TT A58 F Tryd.f91 x = S_laws_eqPageS x := by kernel_rfl
theorem o58 : OK 91 (g58.sem S_laws_eqPageS) := typed_ok2 ⟨tok, eqs, Tr.All.get (t := E58) ⟨o57, trivial, trivial⟩, mix⟩ Tryd.func91 (by kernel_rfl) (by kernel_rfl) g58 rfl _ k58
def g59 : Sig := ⟨⟨numD 0 [.agg [.list .page], .agg [.list .page]], [], []⟩, .one (.bool), [], [], false, false, [], []⟩
def E59 : Tr Sem1 := (.nd 91 (g58.sem S_laws_eqPageS) .lf .lf)
theorem k59 x : g59.den E59 TT AN F Tryd.f44 x = S_laws_eqMemory x := by kernel_rfl
theorem o59 : OK 44 (g59.sem S_laws_eqMemory) := typed_ok2 ⟨tok, eqs, Tr.All.get (t := E59) ⟨o58, trivial, trivial⟩, mix⟩ Tryd.func44 (by kernel_rfl) (by kernel_rfl) g59 rfl _ k59
def g60 : Sig := ⟨⟨numD 0 [V1, V1], [], []⟩, .one (.bool), [], [], false, false, [], []⟩
def E60 : Tr Sem1 := (.nd 44 (g59.sem S_laws_eqMemory) (.nd 43 (g56.sem S_laws_eqCpu) .lf .lf) .lf)
def A60 : Anns := ⟨.lf, .lf, [(2, 4, .page), (3, 4, .page)]⟩
theorem k60 x : g60.den E60 TT A60 F Tryd.f16 x = S_laws_eqBox x := by kernel_rfl
theorem o60 : OK 16 (g60.sem S_laws_eqBox) := typed_ok2 ⟨tok, eqs, Tr.All.get (t := E60) ⟨o59, ⟨o56, trivial, trivial⟩, trivial⟩, mix⟩ Tryd.func16 (by kernel_rfl) (by kernel_rfl) g60 rfl _ k60
def g61 : Sig := ⟨⟨numD 0 [.int .i64], [], []⟩, .one (.str), [], [], true, false, [], []⟩
def A61 : Anns := ⟨(.nd 0 (.loop ⟨[(0, (.int .i64)), (3, .str)], [], []⟩) .lf .lf), .lf, []⟩
theorem k61 x : g61.den Tr.lf TT A61 F Tryd.f46 x = S_laws_markText x := by kernel_rfl
theorem o61 : OK 46 (g61.sem S_laws_markText) := typed_ok2 ⟨tok, eqs, Tr.All.get (t := Tr.lf) trivial, mix⟩ Tryd.func46 (by kernel_rfl) (by kernel_rfl) g61 rfl _ k61
def g62 : Sig := ⟨⟨numD 0 [.konst (.vec 0), .int .i64], [.row .page], []⟩, .one (.int .i64), [.row .page], [(0, 0, big)], true, false, [], []⟩
def E62 : Tr Sem1 := (.nd 46 (g61.sem S_laws_markText) .lf .lf)
def A62 : Anns := ⟨(.nd 0 (.loop ⟨[(0, (.konst (.vec 0))), (1, (.int .i64)), (5, (.int .i64))], [(.row .page)], []⟩) .lf .lf), .lf, []⟩
theorem k62 x : g62.den E62 TT A62 F Tryd.f92 x = S_laws_markPageS x := by kernel_rfl
theorem o62 : OK 92 (g62.sem S_laws_markPageS) := typed_ok2 ⟨tok, eqs, Tr.All.get (t := E62) ⟨o61, trivial, trivial⟩, mix⟩ Tryd.func92 (by kernel_rfl) (by kernel_rfl) g62 rfl _ k62
def g63 : Sig := ⟨⟨numD 0 [.agg [.konst (.vec 0)], .int .i64], [.row .page], []⟩, .one (.int .i64), [.row .page], [(0, 0, big)], true, false, [], []⟩
def E63 : Tr Sem1 := (.nd 92 (g62.sem S_laws_markPageS) .lf .lf)
theorem k63 x : g63.den E63 TT AN F Tryd.f45 x = S_laws_markMemory x := by kernel_rfl
theorem o63 : OK 45 (g63.sem S_laws_markMemory) := typed_ok2 ⟨tok, eqs, Tr.All.get (t := E63) ⟨o62, trivial, trivial⟩, mix⟩ Tryd.func45 (by kernel_rfl) (by kernel_rfl) g63 rfl _ k63
def g64 : Sig := ⟨⟨numD 0 [.agg [.arr .i 16, .int .i64, .int .i64, .konst (.vec 0), .int .i64, .int .i64, .str, .int .i64, .str, .int .i64, .int .i64, .int .i64, .int .i64, .int .i64, .int .i64], .int .i64], [.row .page], []⟩, .one (.int .i64), [.row .page], [(0, 0, big)], true, false, [], []⟩
def E64 : Tr Sem1 := (.nd 45 (g63.sem S_laws_markMemory) .lf .lf)
def A64 : Anns := ⟨.lf, .lf, [(2, 4, .page)]⟩
theorem k64 x : g64.den E64 TT A64 F Tryd.f17 x = S_laws_markBox x := by kernel_rfl
theorem o64 : OK 17 (g64.sem S_laws_markBox) := typed_ok2 ⟨tok, eqs, Tr.All.get (t := E64) ⟨o63, trivial, trivial⟩, mix⟩ Tryd.func17 (by kernel_rfl) (by kernel_rfl) g64 rfl _ k64
def g65 : Sig := ⟨⟨numD 0 [.konst (.vec 0), .int .i64], [.row .s], []⟩, .one (.int .i64), [.row .s], [(0, 0, big)], true, false, [], []⟩
def E65 : Tr Sem1 := (.nd 46 (g61.sem S_laws_markText) .lf .lf)
def A65 : Anns := ⟨(.nd 0 (.loop ⟨[(0, (.konst (.vec 0))), (1, (.int .i64)), (5, (.int .i64))], [(.row .s)], []⟩) .lf .lf), .lf, []⟩
theorem k65 x : g65.den E65 TT A65 F Tryd.f18 x = S_laws_markStringS x := by kernel_rfl
theorem o65 : OK 18 (g65.sem S_laws_markStringS) := typed_ok2 ⟨tok, eqs, Tr.All.get (t := E65) ⟨o61, trivial, trivial⟩, mix⟩ Tryd.func18 (by kernel_rfl) (by kernel_rfl) g65 rfl _ k65
def g66 : Sig := ⟨⟨numD 0 [.list .s, .int .i64], [], []⟩, .one (.int .i64), [], [], false, false, [], []⟩
def E66 : Tr Sem1 := (.nd 46 (g61.sem S_laws_markText) .lf .lf)
def A66 : Anns := ⟨(.nd 0 (.loop ⟨[(0, (.list .s)), (1, (.int .i64)), (5, (.int .i64))], [], []⟩) .lf .lf), .lf, []⟩
theorem k66 x : g66.den E66 TT A66 F Tryd.f19 x = S_laws_heldStringS x := by kernel_rfl
theorem o66 : OK 19 (g66.sem S_laws_heldStringS) := typed_ok2 ⟨tok, eqs, Tr.All.get (t := E66) ⟨o61, trivial, trivial⟩, mix⟩ Tryd.func19 (by kernel_rfl) (by kernel_rfl) g66 rfl _ k66
def g67 : Sig := ⟨⟨numD 0 [V1], [], []⟩, .one (.bool), [], [], false, false, [], []⟩
def E67 : Tr Sem1 := (.nd 15 (g54.sem S_laws_eqStringS) (.nd 13 (g9.sem S_laws_toBox) (.nd 12 (g27.sem S_spec_BoxLines) (.nd 11 (g3.sem S_laws_szBox) .lf .lf) .lf) (.nd 14 (g53.sem S_impl_BoxLines) .lf .lf)) (.nd 18 (g65.sem S_laws_markStringS) (.nd 17 (g64.sem S_laws_markBox) (.nd 16 (g60.sem S_laws_eqBox) .lf .lf) .lf) (.nd 19 (g66.sem S_laws_heldStringS) .lf .lf)))
def A67 : Anns := ⟨.lf, .lf, [(6, 4, .page)]⟩
theorem k67 x : g67.den E67 TT A67 F Tryd.f4 x = S_laws_FnExactBoxLines x := by kernel_rfl
theorem o67 : OK 4 (g67.sem S_laws_FnExactBoxLines) := typed_ok2 ⟨tok, eqs, Tr.All.get (t := E67) ⟨o54, ⟨o9, ⟨o27, ⟨o3, trivial, trivial⟩, trivial⟩, ⟨o53, trivial, trivial⟩⟩, ⟨o65, ⟨o64, ⟨o60, trivial, trivial⟩, trivial⟩, ⟨o66, trivial, trivial⟩⟩⟩, mix⟩ Tryd.func4 (by kernel_rfl) (by kernel_rfl) g67 rfl _ k67
end Go.Proofs.YthgjocpbmnpjjaaDoor.BoxLines
