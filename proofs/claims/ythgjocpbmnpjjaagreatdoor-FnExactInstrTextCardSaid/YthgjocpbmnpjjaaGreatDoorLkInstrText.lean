/- Theory for the proofs of this claim: see its last text. -/
import Derived.Test.YthgjocpbmnpjjaaGreatDoorFnInstrText
import Derived.Test.YthgjocpbmnpjjaaGreatDoorDenF
import Derived.Test.YthgjocpbmnpjjaaGreatDoorShl
import Derived.Test.YthgjocpbmnpjjaaGreatDoorProg
import Derived.KernelRfl
set_option maxRecDepth 100000
set_option linter.unusedVariables false
noncomputable section
namespace Go.Proofs.YthgjocpbmnpjjaaGreatDoor.InstrText
open Go Go.Den Go.Den.G Go.Proofs Go.Proofs.YthgjocpbmnpjjaaGreatDoor
abbrev V2 : VT := .agg [.int .i64, .int .i64, .int .i64, .int .i64, .int .i64, .int .i64, .int .i64]
abbrev B1 : BT := .var [(.int .i64), (.int .i64), (.int .i64), (.int .i64), (.int .i64), (.int .i64), (.int .i64)]
abbrev B0 : BT := .var [(.int .i64), (.int .i64), (.int .i64), (.int .i64), (.int .i64), (.int .i64), (.int .i64), (.int .i64), (.int .i64), (.int .i64), (.int .i64), (.int .i64), (.int .i64), (.int .i64), (.int .i64), (.int .i64), (.int .i64), (.int .i64), (.int .i64)]
def Ly : Lay := [(0, fun cs => ∃ m, cs = #[.int .i64 m]), (1, fun cs => cs = (Go.Lib.pow10Tab.map fun z => Value.int .u64 z).toArray)]
def TT : Tr TI := (.nd 76 ⟨.struct [(0, 9), (1, 3), (2, 3), (3, 4), (4, 3), (5, 4), (6, 3), (7, 65), (12, 3), (13, 3), (14, 3), (15, 30)], 34, 280, [.str [], .int .i64 0, .int .i64 0, .bool false, .int .i64 0, .bool false, .int .i64 0, .int .i64 0, .int .i64 0, .int .i64 0, .bool false, .int .i64 0, .int .i64 0, .int .i64 0, .int .i64 0, .int .i64 0, .int .i64 0, .int .i64 0, .int .i64 0, .int .i64 0, .int .i64 0, .int .i64 0, .int .i64 0, .int .i64 0, .int .i64 0, .int .i64 0, .int .i64 0, .int .i64 0, .int .i64 0, .int .i64 0, .int .i64 0, .int .i64 0, .int .i64 0, .int .i64 0], none, false⟩ (.nd 37 ⟨.fn, 1, 8, [.nilf], none, false⟩ (.nd 18 ⟨.struct [(0, 17)], 1, 8, [.nilp], none, false⟩ (.nd 9 ⟨.str, 1, 16, [.str []], some .s, false⟩ (.nd 5 ⟨.int .u8, 1, 1, [.int .u8 0], some .u, false⟩ (.nd 3 ⟨.int .i64, 1, 8, [.int .i64 0], some .i, false⟩ (.nd 2 ⟨.int .i64, 1, 8, [.int .i64 0], some .i, false⟩ (.nd 1 ⟨.fn, 1, 8, [.nilf], none, false⟩ .lf .lf) .lf) (.nd 4 ⟨.bool, 1, 1, [.bool false], some .b, false⟩ .lf .lf)) (.nd 7 ⟨.struct [(0, 2), (1, 3), (2, 4), (3, 6)], 4, 24, [.int .i64 0, .int .i64 0, .bool false, .int .u8 0], none, false⟩ (.nd 6 ⟨.int .u8, 1, 1, [.int .u8 0], some .u, false⟩ .lf .lf) (.nd 8 ⟨.struct [(0, 2), (1, 3), (2, 4), (3, 6)], 4, 24, [.int .i64 0, .int .i64 0, .bool false, .int .u8 0], none, false⟩ .lf .lf))) (.nd 14 ⟨.struct [(0, 9), (1, 12)], 2, 24, [.str [], .int .u64 0], none, false⟩ (.nd 12 ⟨.int .u64, 1, 8, [.int .u64 0], none, false⟩ (.nd 11 ⟨.str, 1, 16, [.str []], some .s, false⟩ (.nd 10 ⟨.str, 1, 16, [.str []], some .s, false⟩ .lf .lf) .lf) (.nd 13 ⟨.struct [(0, 9), (1, 12)], 2, 24, [.str [], .int .u64 0], none, false⟩ .lf .lf)) (.nd 16 ⟨.ptr 143, 1, 8, [.nilp], none, false⟩ (.nd 15 ⟨.ptr 140, 1, 8, [.nilp], none, false⟩ .lf .lf) (.nd 17 ⟨.ptr 150, 1, 8, [.nilp], none, false⟩ .lf .lf)))) (.nd 28 ⟨.struct [(0, 3), (1, 3), (2, 3), (3, 3), (4, 3), (5, 3), (6, 3)], 7, 56, [.int .i64 0, .int .i64 0, .int .i64 0, .int .i64 0, .int .i64 0, .int .i64 0, .int .i64 0], none, true⟩ (.nd 23 ⟨.struct [(0, 3), (1, 3), (2, 3), (3, 3), (4, 3), (5, 3), (6, 3)], 7, 56, [.int .i64 0, .int .i64 0, .int .i64 0, .int .i64 0, .int .i64 0, .int .i64 0, .int .i64 0], none, true⟩ (.nd 21 ⟨.int .i32, 1, 4, [.int .i32 0], none, false⟩ (.nd 20 ⟨.iface, 1, 16, [.err true], none, false⟩ (.nd 19 ⟨.struct [(0, 17)], 1, 8, [.nilp], none, false⟩ .lf .lf) .lf) (.nd 22 ⟨.struct [(0, 3), (1, 3), (2, 3), (3, 3), (4, 3), (5, 3), (6, 3)], 7, 56, [.int .i64 0, .int .i64 0, .int .i64 0, .int .i64 0, .int .i64 0, .int .i64 0, .int .i64 0], none, false⟩ .lf .lf)) (.nd 25 ⟨.struct [(0, 3), (1, 3), (2, 3), (3, 3), (4, 23), (11, 23), (18, 3)], 19, 152, [.int .i64 0, .int .i64 0, .int .i64 0, .int .i64 0, .int .i64 0, .int .i64 0, .int .i64 0, .int .i64 0, .int .i64 0, .int .i64 0, .int .i64 0, .int .i64 0, .int .i64 0, .int .i64 0, .int .i64 0, .int .i64 0, .int .i64 0, .int .i64 0, .int .i64 0], some .ins, false⟩ (.nd 24 ⟨.struct [(0, 3), (1, 3), (2, 3), (3, 3), (4, 23), (11, 23), (18, 3)], 19, 152, [.int .i64 0, .int .i64 0, .int .i64 0, .int .i64 0, .int .i64 0, .int .i64 0, .int .i64 0, .int .i64 0, .int .i64 0, .int .i64 0, .int .i64 0, .int .i64 0, .int .i64 0, .int .i64 0, .int .i64 0, .int .i64 0, .int .i64 0, .int .i64 0, .int .i64 0], none, false⟩ .lf .lf) (.nd 27 ⟨.fn, 1, 8, [.nilf], none, false⟩ .lf .lf))) (.nd 32 ⟨.fn, 1, 8, [.nilf], none, false⟩ (.nd 30 ⟨.struct [(0, 3), (1, 3), (2, 3), (3, 3), (4, 28), (11, 28), (18, 3)], 19, 152, [.int .i64 0, .int .i64 0, .int .i64 0, .int .i64 0, .int .i64 0, .int .i64 0, .int .i64 0, .int .i64 0, .int .i64 0, .int .i64 0, .int .i64 0, .int .i64 0, .int .i64 0, .int .i64 0, .int .i64 0, .int .i64 0, .int .i64 0, .int .i64 0, .int .i64 0], some .ins, false⟩ (.nd 29 ⟨.struct [(0, 3), (1, 3), (2, 3), (3, 3), (4, 28), (11, 28), (18, 3)], 19, 152, [.int .i64 0, .int .i64 0, .int .i64 0, .int .i64 0, .int .i64 0, .int .i64 0, .int .i64 0, .int .i64 0, .int .i64 0, .int .i64 0, .int .i64 0, .int .i64 0, .int .i64 0, .int .i64 0, .int .i64 0, .int .i64 0, .int .i64 0, .int .i64 0, .int .i64 0], none, false⟩ .lf .lf) (.nd 31 ⟨.fn, 1, 8, [.nilf], none, false⟩ .lf .lf)) (.nd 35 ⟨.fn, 1, 8, [.nilf], none, false⟩ (.nd 33 ⟨.slice 9, 1, 24, [.nils], none, false⟩ .lf .lf) (.nd 36 ⟨.fn, 1, 8, [.nilf], none, false⟩ .lf .lf))))) (.nd 58 ⟨.fn, 1, 8, [.nilf], none, false⟩ (.nd 47 ⟨.fn, 1, 8, [.nilf], none, false⟩ (.nd 42 ⟨.fn, 1, 8, [.nilf], none, false⟩ (.nd 40 ⟨.fn, 1, 8, [.nilf], none, false⟩ (.nd 39 ⟨.fn, 1, 8, [.nilf], none, false⟩ (.nd 38 ⟨.fn, 1, 8, [.nilf], none, false⟩ .lf .lf) .lf) (.nd 41 ⟨.fn, 1, 8, [.nilf], none, false⟩ .lf .lf)) (.nd 45 ⟨.fn, 1, 8, [.nilf], none, false⟩ (.nd 44 ⟨.fn, 1, 8, [.nilf], none, false⟩ .lf .lf) (.nd 46 ⟨.fn, 1, 8, [.nilf], none, false⟩ .lf .lf))) (.nd 53 ⟨.fn, 1, 8, [.nilf], none, false⟩ (.nd 50 ⟨.fn, 1, 8, [.nilf], none, false⟩ (.nd 49 ⟨.fn, 1, 8, [.nilf], none, false⟩ .lf .lf) (.nd 52 ⟨.fn, 1, 8, [.nilf], none, false⟩ .lf .lf)) (.nd 55 ⟨.slice 3, 1, 24, [.nils], none, false⟩ (.nd 54 ⟨.fn, 1, 8, [.nilf], none, false⟩ .lf .lf) (.nd 57 ⟨.fn, 1, 8, [.nilf], none, false⟩ .lf .lf)))) (.nd 68 ⟨.fn, 1, 8, [.nilf], none, false⟩ (.nd 63 ⟨.struct [(0, 9), (1, 3), (2, 3), (3, 4), (4, 3)], 5, 48, [.str [], .int .i64 0, .int .i64 0, .bool false, .int .i64 0], none, true⟩ (.nd 61 ⟨.ptr 63, 1, 8, [.nilp], none, false⟩ (.nd 60 ⟨.fn, 1, 8, [.nilf], none, false⟩ (.nd 59 ⟨.fn, 1, 8, [.nilf], none, false⟩ .lf .lf) .lf) (.nd 62 ⟨.struct [(0, 9), (1, 3), (2, 3), (3, 4), (4, 3)], 5, 48, [.str [], .int .i64 0, .int .i64 0, .bool false, .int .i64 0], none, false⟩ .lf .lf)) (.nd 65 ⟨.struct [(0, 3), (1, 3), (2, 3), (3, 4), (4, 3)], 5, 40, [.int .i64 0, .int .i64 0, .int .i64 0, .bool false, .int .i64 0], none, true⟩ (.nd 64 ⟨.struct [(0, 3), (1, 3), (2, 3), (3, 4), (4, 3)], 5, 40, [.int .i64 0, .int .i64 0, .int .i64 0, .bool false, .int .i64 0], none, false⟩ .lf .lf) (.nd 67 ⟨.fn, 1, 8, [.nilf], none, false⟩ .lf .lf))) (.nd 72 ⟨.fn, 1, 8, [.nilf], none, false⟩ (.nd 70 ⟨.fn, 1, 8, [.nilf], none, false⟩ (.nd 69 ⟨.fn, 1, 8, [.nilf], none, false⟩ .lf .lf) (.nd 71 ⟨.fn, 1, 8, [.nilf], none, false⟩ .lf .lf)) (.nd 74 ⟨.slice 5, 1, 24, [.nils], none, false⟩ (.nd 73 ⟨.fn, 1, 8, [.nilf], none, false⟩ .lf .lf) (.nd 75 ⟨.ptr 77, 1, 8, [.nilp], none, false⟩ .lf .lf)))))) (.nd 113 ⟨.int .u64, 1, 8, [.int .u64 0], none, false⟩ (.nd 94 ⟨.fn, 1, 8, [.nilf], none, false⟩ (.nd 85 ⟨.fn, 1, 8, [.nilf], none, false⟩ (.nd 81 ⟨.fn, 1, 8, [.nilf], none, false⟩ (.nd 79 ⟨.fn, 1, 8, [.nilf], none, false⟩ (.nd 78 ⟨.slice 1, 1, 24, [.nils], none, false⟩ (.nd 77 ⟨.struct [(0, 9), (1, 3), (2, 3), (3, 4), (4, 3), (5, 4), (6, 3), (7, 65), (12, 3), (13, 3), (14, 3), (15, 30)], 34, 280, [.str [], .int .i64 0, .int .i64 0, .bool false, .int .i64 0, .bool false, .int .i64 0, .int .i64 0, .int .i64 0, .int .i64 0, .bool false, .int .i64 0, .int .i64 0, .int .i64 0, .int .i64 0, .int .i64 0, .int .i64 0, .int .i64 0, .int .i64 0, .int .i64 0, .int .i64 0, .int .i64 0, .int .i64 0, .int .i64 0, .int .i64 0, .int .i64 0, .int .i64 0, .int .i64 0, .int .i64 0, .int .i64 0, .int .i64 0, .int .i64 0, .int .i64 0, .int .i64 0], none, false⟩ .lf .lf) .lf) (.nd 80 ⟨.fn, 1, 8, [.nilf], none, false⟩ .lf .lf)) (.nd 83 ⟨.fn, 1, 8, [.nilf], none, false⟩ (.nd 82 ⟨.fn, 1, 8, [.nilf], none, false⟩ .lf .lf) (.nd 84 ⟨.fn, 1, 8, [.nilf], none, false⟩ .lf .lf))) (.nd 90 ⟨.fn, 1, 8, [.nilf], none, false⟩ (.nd 88 ⟨.fn, 1, 8, [.nilf], none, false⟩ (.nd 87 ⟨.fn, 1, 8, [.nilf], none, false⟩ (.nd 86 ⟨.fn, 1, 8, [.nilf], none, false⟩ .lf .lf) .lf) (.nd 89 ⟨.fn, 1, 8, [.nilf], none, false⟩ .lf .lf)) (.nd 92 ⟨.fn, 1, 8, [.nilf], none, false⟩ (.nd 91 ⟨.fn, 1, 8, [.nilf], none, false⟩ .lf .lf) (.nd 93 ⟨.fn, 1, 8, [.nilf], none, false⟩ .lf .lf)))) (.nd 104 ⟨.map 3 9, 1, 8, [.dead], none, false⟩ (.nd 100 ⟨.ptr 30, 1, 8, [.nilp], none, false⟩ (.nd 97 ⟨.fn, 1, 8, [.nilf], none, false⟩ (.nd 96 ⟨.int .u64, 1, 8, [.int .u64 0], none, false⟩ (.nd 95 ⟨.fn, 1, 8, [.nilf], none, false⟩ .lf .lf) .lf) (.nd 99 ⟨.fn, 1, 8, [.nilf], none, false⟩ .lf .lf)) (.nd 102 ⟨.fn, 1, 8, [.nilf], none, false⟩ (.nd 101 ⟨.fn, 1, 8, [.nilf], none, false⟩ .lf .lf) (.nd 103 ⟨.fn, 1, 8, [.nilf], none, false⟩ .lf .lf))) (.nd 108 ⟨.iface, 1, 16, [.err true], none, false⟩ (.nd 106 ⟨.struct [(0, 105), (1, 74)], 2, 32, [.nilp, .nils], none, false⟩ (.nd 105 ⟨.ptr 107, 1, 8, [.nilp], none, false⟩ .lf .lf) (.nd 107 ⟨.struct [(0, 105), (1, 74)], 2, 32, [.nilp, .nils], none, false⟩ .lf .lf)) (.nd 111 ⟨.fn, 1, 8, [.nilf], none, false⟩ (.nd 109 ⟨.iface, 1, 16, [.err true], none, false⟩ .lf .lf) (.nd 112 ⟨.fn, 1, 8, [.nilf], none, false⟩ .lf .lf))))) (.nd 134 ⟨.fn, 1, 8, [.nilf], none, false⟩ (.nd 123 ⟨.fn, 1, 8, [.nilf], none, false⟩ (.nd 119 ⟨.fn, 1, 8, [.nilf], none, false⟩ (.nd 116 ⟨.fn, 1, 8, [.nilf], none, false⟩ (.nd 115 ⟨.array 24 5, 24, 24, [.arr .u 24 []], none, false⟩ (.nd 114 ⟨.fn, 1, 8, [.nilf], none, false⟩ .lf .lf) .lf) (.nd 117 ⟨.fn, 1, 8, [.nilf], none, false⟩ .lf .lf)) (.nd 121 ⟨.fn, 1, 8, [.nilf], none, false⟩ (.nd 120 ⟨.fn, 1, 8, [.nilf], none, false⟩ .lf .lf) (.nd 122 ⟨.fn, 1, 8, [.nilf], none, false⟩ .lf .lf))) (.nd 128 ⟨.array 65 5, 65, 65, [.arr .u 65 []], none, false⟩ (.nd 125 ⟨.fn, 1, 8, [.nilf], none, false⟩ (.nd 124 ⟨.ptr 5, 1, 8, [.nilp], none, false⟩ .lf .lf) (.nd 127 ⟨.int .u32, 1, 4, [.int .u32 0], none, false⟩ .lf .lf)) (.nd 130 ⟨.fn, 1, 8, [.nilf], none, false⟩ (.nd 129 ⟨.fn, 1, 8, [.nilf], none, false⟩ .lf .lf) (.nd 132 ⟨.fn, 1, 8, [.nilf], none, false⟩ .lf .lf)))) (.nd 143 ⟨.struct [(0, 141)], 0, 0, [], none, false⟩ (.nd 139 ⟨.struct [(0, 17), (1, 17), (2, 17), (3, 9)], 4, 40, [.nilp, .nilp, .nilp, .str []], none, false⟩ (.nd 137 ⟨.array 32 5, 32, 32, [.arr .u 32 []], none, false⟩ (.nd 136 ⟨.fn, 1, 8, [.nilf], none, false⟩ (.nd 135 ⟨.fn, 1, 8, [.nilf], none, false⟩ .lf .lf) .lf) (.nd 138 ⟨.array 64 5, 64, 64, [.arr .u 64 []], none, false⟩ .lf .lf)) (.nd 141 ⟨.array 0 16, 0, 0, [], none, false⟩ (.nd 140 ⟨.struct [(0, 17), (1, 17), (2, 17), (3, 9)], 4, 40, [.nilp, .nilp, .nilp, .str []], none, false⟩ .lf .lf) (.nd 142 ⟨.struct [(0, 141)], 0, 0, [], none, false⟩ .lf .lf))) (.nd 147 ⟨.int .i32, 1, 4, [.int .i32 0], none, false⟩ (.nd 145 ⟨.int .u8, 1, 1, [.int .u8 0], some .u, false⟩ (.nd 144 ⟨.int .u8, 1, 1, [.int .u8 0], some .u, false⟩ .lf .lf) (.nd 146 ⟨.fn, 1, 8, [.nilf], none, false⟩ .lf .lf)) (.nd 149 ⟨.struct [(0, 12), (1, 12), (2, 127), (3, 144), (4, 5), (5, 5), (6, 145), (7, 146), (8, 124), (9, 147), (10, 148)], 11, 48, [.int .u64 0, .int .u64 0, .int .u32 0, .int .u8 0, .int .u8 0, .int .u8 0, .int .u8 0, .nilf, .nilp, .int .i32 0, .int .i32 0], none, false⟩ (.nd 148 ⟨.int .i32, 1, 4, [.int .i32 0], none, false⟩ .lf .lf) (.nd 150 ⟨.struct [(0, 12), (1, 12), (2, 127), (3, 144), (4, 5), (5, 5), (6, 145), (7, 146), (8, 124), (9, 147), (10, 148)], 11, 48, [.int .u64 0, .int .u64 0, .int .u32 0, .int .u8 0, .int .u8 0, .int .u8 0, .int .u8 0, .nilf, .nilp, .int .i32 0, .int .i32 0], none, false⟩ .lf .lf)))))))
abbrev OK (n : Nat) (S : Sem1) : Prop := SemOK Tryz.prog Ly n S
def AN : Anns := ⟨.lf, .lf, []⟩
theorem tok : TOK Tryz.prog TT := by unfold TOK; kernel_rfl
theorem eqs : EqAgg Tryz.prog TT := eqTab_ok (by kernel_rfl)
theorem mix : Tryz.prog.follows .mixedOrders = true := by kernel_rfl
def g0 : Sig := ⟨⟨numD 0 [V2], [], []⟩, .one (V2), [], [], false, false, [], []⟩
theorem k0 x : g0.den Tr.lf TT AN F Tryz.f15 x = S_laws_toOperand x := by kernel_rfl
theorem o0 : OK 15 (g0.sem S_laws_toOperand) := typed_ok2 ⟨tok, eqs, Tr.All.get (t := Tr.lf) trivial, mix⟩ Tryz.func15 (by kernel_rfl) (by kernel_rfl) g0 rfl _ k0
def g1 : Sig := ⟨⟨numD 0 [.el .ins], [], []⟩, .one (.el .ins), [], [], false, false, [], []⟩
def E1 : Tr Sem1 := (.nd 15 (g0.sem S_laws_toOperand) .lf .lf)
theorem k1 x : g1.den E1 TT AN F Tryz.f6 x = S_laws_toInstr x := by kernel_rfl
theorem o1 : OK 6 (g1.sem S_laws_toInstr) := typed_ok2 ⟨tok, eqs, Tr.All.get (t := E1) ⟨o0, trivial, trivial⟩, mix⟩ Tryz.func6 (by kernel_rfl) (by kernel_rfl) g1 rfl _ k1
def g2 : Sig := ⟨⟨numD 0 [.int .i64, .int .i64, .int .i64], [], []⟩, .one (.bool), [], [], false, false, [], []⟩
theorem k2 x : g2.den Tr.lf TT AN F Tryz.f18 x = S_spec_l01In x := by kernel_rfl
theorem o2 : OK 18 (g2.sem S_spec_l01In) := typed_ok2 ⟨tok, eqs, Tr.All.get (t := Tr.lf) trivial, mix⟩ Tryz.func18 (by kernel_rfl) (by kernel_rfl) g2 rfl _ k2
def g3 : Sig := ⟨⟨numD 0 [.int .i64], [], []⟩, .one (.bool), [], [], false, false, [], []⟩
def E3 : Tr Sem1 := (.nd 18 (g2.sem S_spec_l01In) .lf .lf)
theorem k3 x : g3.den E3 TT AN F Tryz.f29 x = S_spec_l03Op x := by kernel_rfl
theorem o3 : OK 29 (g3.sem S_spec_l03Op) := typed_ok2 ⟨tok, eqs, Tr.All.get (t := E3) ⟨o2, trivial, trivial⟩, mix⟩ Tryz.func29 (by kernel_rfl) (by kernel_rfl) g3 rfl _ k3
def g4 : Sig := ⟨⟨numD 0 [.int .i64], [], []⟩, .one (.bool), [], [], false, false, [], []⟩
theorem k4 x : g4.den Tr.lf TT AN F Tryz.f69 x = S_spec_l01Size x := by kernel_rfl
theorem o4 : OK 69 (g4.sem S_spec_l01Size) := typed_ok2 ⟨tok, eqs, Tr.All.get (t := Tr.lf) trivial, mix⟩ Tryz.func69 (by kernel_rfl) (by kernel_rfl) g4 rfl _ k4
def g5 : Sig := ⟨⟨numD 0 [.str, .int .u8], [], []⟩, .one (.bool), [], [], false, false, [], []⟩
def A5 : Anns := ⟨(.nd 0 (.loop ⟨[(0, .str), (1, (.int .u8)), (5, (.int .i64))], [], []⟩) .lf .lf), .lf, []⟩
theorem k5 x : g5.den Tr.lf TT A5 F Tryz.f145 x = S_spec_l05Has x := by kernel_rfl
theorem o5 : OK 145 (g5.sem S_spec_l05Has) := typed_ok2 ⟨tok, eqs, Tr.All.get (t := Tr.lf) trivial, mix⟩ Tryz.func145 (by kernel_rfl) (by kernel_rfl) g5 rfl _ k5
def g6 : Sig := ⟨⟨numD 0 [V2, .str], [], []⟩, .one (.bool), [], [], false, false, [], []⟩
def E6 : Tr Sem1 := (.nd 145 (g5.sem S_spec_l05Has) .lf .lf)
theorem k6 x : g6.den E6 TT AN F Tryz.f120 x = S_spec_l05Kind x := by kernel_rfl
theorem o6 : OK 120 (g6.sem S_spec_l05Kind) := typed_ok2 ⟨tok, eqs, Tr.All.get (t := E6) ⟨o5, trivial, trivial⟩, mix⟩ Tryz.func120 (by kernel_rfl) (by kernel_rfl) g6 rfl _ k6
def g7 : Sig := ⟨⟨numD 0 [.el .ins, .list .s], [], []⟩, .one (.bool), [], [], false, false, [], []⟩
def E7 : Tr Sem1 := (.nd 120 (g6.sem S_spec_l05Kind) .lf .lf)
def A7 : Anns := ⟨(.nd 0 (.loop ⟨[(1, (.list .s)), (2, (.konst (.ptr 0 0))), (5, (.int .i64))], [(B0)], []⟩) .lf .lf), .lf, []⟩
theorem k7 x : g7.den E7 TT A7 F Tryz.f70 x = S_spec_l05Two x := by kernel_rfl
theorem o7 : OK 70 (g7.sem S_spec_l05Two) := typed_ok2 ⟨tok, eqs, Tr.All.get (t := E7) ⟨o6, trivial, trivial⟩, mix⟩ Tryz.func70 (by kernel_rfl) (by kernel_rfl) g7 rfl _ k7
def g8 : Sig := ⟨⟨numD 0 [.int .i64, .int .i64], [], []⟩, .one (.int .i64), [], [], false, false, [], []⟩
theorem k8 x : g8.den Tr.lf TT AN F Tryz.f97 x = S_spec_l01Bit x := by kernel_rfl
theorem o8 : OK 97 (g8.sem S_spec_l01Bit) := typed_ok2 ⟨tok, eqs, Tr.All.get (t := Tr.lf) trivial, mix⟩ Tryz.func97 (by kernel_rfl) (by kernel_rfl) g8 rfl _ k8
def g9 : Sig := ⟨⟨numD 0 [.int .i64, .int .i64], [], []⟩, .one (.int .i64), [], [], false, false, [], []⟩
def E9 : Tr Sem1 := (.nd 97 (g8.sem S_spec_l01Bit) .lf .lf)
def A9 : Anns := ⟨(.nd 0 (.loop ⟨[(0, (.int .i64)), (1, (.int .i64)), (5, (.int .u64)), (6, (.int .i64))], [], []⟩) .lf .lf), .lf, []⟩
theorem k9 x : g9.den E9 TT A9 F Tryz.f121 x = S_spec_l01Sign x := by kernel_rfl
theorem o9 : OK 121 (g9.sem S_spec_l01Sign) := typed_ok2 ⟨tok, eqs, Tr.All.get (t := E9) ⟨o8, trivial, trivial⟩, mix⟩ Tryz.func121 (by kernel_rfl) (by kernel_rfl) g9 rfl _ k9
def g10 : Sig := ⟨⟨numD 0 [.int .i64, .int .i64], [], []⟩, .one (.bool), [], [], false, false, [], []⟩
def E10 : Tr Sem1 := (.nd 121 (g9.sem S_spec_l01Sign) .lf .lf)
theorem k10 x : g10.den E10 TT AN F Tryz.f71 x = S_spec_l05Fits x := by kernel_rfl
theorem o10 : OK 71 (g10.sem S_spec_l05Fits) := typed_ok2 ⟨tok, eqs, Tr.All.get (t := E10) ⟨o9, trivial, trivial⟩, mix⟩ Tryz.func71 (by kernel_rfl) (by kernel_rfl) g10 rfl _ k10
def g11 : Sig := ⟨⟨numD 0 [.el .ins], [], []⟩, .one (.bool), [], [], false, false, [], []⟩
def E11 : Tr Sem1 := (.nd 70 (g7.sem S_spec_l05Two) (.nd 69 (g4.sem S_spec_l01Size) (.nd 18 (g2.sem S_spec_l01In) .lf .lf) .lf) (.nd 71 (g10.sem S_spec_l05Fits) .lf .lf))
def A11 : Anns := ⟨.lf, (.nd 416 ⟨[(1, (.konst (.ptr 0 0))), (4, .bool), (5, (.int .i64)), (208, .bool)], [(B0)], []⟩ (.nd 236 ⟨[(1, (.konst (.ptr 0 0))), (3, .bool), (4, .bool), (5, (.int .i64)), (118, .bool)], [(B0)], []⟩ (.nd 178 ⟨[(1, (.konst (.ptr 0 0))), (3, .bool), (4, .bool), (5, (.int .i64)), (89, .bool)], [(B0)], []⟩ .lf .lf) (.nd 330 ⟨[(1, (.konst (.ptr 0 0))), (4, .bool), (5, (.int .i64)), (165, .bool)], [(B0)], []⟩ .lf .lf)) (.nd 566 ⟨[(1, (.konst (.ptr 0 0))), (5, (.int .i64)), (283, .bool)], [(B0)], []⟩ (.nd 540 ⟨[(1, (.konst (.ptr 0 0))), (4, .bool), (5, (.int .i64)), (270, .bool)], [(B0)], []⟩ .lf .lf) .lf)), []⟩
theorem k11 x : g11.den E11 TT A11 F Tryz.f30 x = S_spec_l05Shape x := by kernel_rfl
theorem o11 : OK 30 (g11.sem S_spec_l05Shape) := typed_ok2 ⟨tok, eqs, Tr.All.get (t := E11) ⟨o7, ⟨o4, ⟨o2, trivial, trivial⟩, trivial⟩, ⟨o10, trivial, trivial⟩⟩, mix⟩ Tryz.func30 (by kernel_rfl) (by kernel_rfl) g11 rfl _ k11
def g12 : Sig := ⟨⟨numD 0 [.el .ins], [], []⟩, .one (.int .i64), [], [], false, false, [], []⟩
theorem k12 x : g12.den Tr.lf TT AN F Tryz.f36 x = S_spec_l05From x := by kernel_rfl
theorem o12 : OK 36 (g12.sem S_spec_l05From) := typed_ok2 ⟨tok, eqs, Tr.All.get (t := Tr.lf) trivial, mix⟩ Tryz.func36 (by kernel_rfl) (by kernel_rfl) g12 rfl _ k12
def g13 : Sig := ⟨⟨numD 0 [.el .ins], [], []⟩, .tup [.int .i64, .int .i64], [], [], false, false, [], []⟩
def E13 : Tr Sem1 := (.nd 36 (g12.sem S_spec_l05From) (.nd 18 (g2.sem S_spec_l01In) .lf .lf) .lf)
def A13 : Anns := ⟨.lf, (.nd 24 ⟨[(4, (.int .i64)), (5, (.int .i64))], [], []⟩ .lf .lf), []⟩
theorem k13 x : g13.den E13 TT A13 F Tryz.f31 x = S_spec_l05Sizes x := by kernel_rfl
theorem o13 : OK 31 (g13.sem S_spec_l05Sizes) := typed_ok2 ⟨tok, eqs, Tr.All.get (t := E13) ⟨o12, ⟨o2, trivial, trivial⟩, trivial⟩, mix⟩ Tryz.func31 (by kernel_rfl) (by kernel_rfl) g13 rfl _ k13
def g14 : Sig := ⟨⟨numD 0 [V2, .int .i64], [], []⟩, .one (.bool), [], [], false, false, [], []⟩
def E14 : Tr Sem1 := (.nd 69 (g4.sem S_spec_l01Size) (.nd 18 (g2.sem S_spec_l01In) .lf .lf) .lf)
def A14 : Anns := ⟨.lf, (.nd 22 ⟨[(2, (.konst (.ptr 0 0))), (5, (.int .i64))], [(B1)], []⟩ .lf .lf), []⟩
theorem k14 x : g14.den E14 TT A14 F Tryz.f32 x = S_spec_l04Operand x := by kernel_rfl
theorem o14 : OK 32 (g14.sem S_spec_l04Operand) := typed_ok2 ⟨tok, eqs, Tr.All.get (t := E14) ⟨o4, ⟨o2, trivial, trivial⟩, trivial⟩, mix⟩ Tryz.func32 (by kernel_rfl) (by kernel_rfl) g14 rfl _ k14
def g15 : Sig := ⟨⟨numD 0 [V2, .int .i64], [], []⟩, .tup [.bool, .bool], [], [], false, false, [], []⟩
def E15 : Tr Sem1 := (.nd 18 (g2.sem S_spec_l01In) .lf .lf)
theorem k15 x : g15.den E15 TT AN F Tryz.f33 x = S_spec_l05Rex x := by kernel_rfl
theorem o15 : OK 33 (g15.sem S_spec_l05Rex) := typed_ok2 ⟨tok, eqs, Tr.All.get (t := E15) ⟨o2, trivial, trivial⟩, mix⟩ Tryz.func33 (by kernel_rfl) (by kernel_rfl) g15 rfl _ k15
def g16 : Sig := ⟨⟨numD 0 [.int .i64], [], []⟩, .one (.bool), [], [], false, false, [], []⟩
theorem k16 x : g16.den Tr.lf TT AN F Tryz.f34 x = S_spec_l05Wide x := by kernel_rfl
theorem o16 : OK 34 (g16.sem S_spec_l05Wide) := typed_ok2 ⟨tok, eqs, Tr.All.get (t := Tr.lf) trivial, mix⟩ Tryz.func34 (by kernel_rfl) (by kernel_rfl) g16 rfl _ k16
def g17 : Sig := ⟨⟨numD 0 [.el .ins], [], []⟩, .one (.bool), [], [], false, false, [], []⟩
def E17 : Tr Sem1 := (.nd 31 (g13.sem S_spec_l05Sizes) (.nd 29 (g3.sem S_spec_l03Op) (.nd 18 (g2.sem S_spec_l01In) .lf .lf) (.nd 30 (g11.sem S_spec_l05Shape) .lf .lf)) (.nd 33 (g15.sem S_spec_l05Rex) (.nd 32 (g14.sem S_spec_l04Operand) .lf .lf) (.nd 34 (g16.sem S_spec_l05Wide) .lf .lf)))
theorem k17 x : g17.den E17 TT AN F Tryz.f13 x = S_spec_l05OK x := by kernel_rfl
theorem o17 : OK 13 (g17.sem S_spec_l05OK) := typed_ok2 ⟨tok, eqs, Tr.All.get (t := E17) ⟨o13, ⟨o3, ⟨o2, trivial, trivial⟩, ⟨o11, trivial, trivial⟩⟩, ⟨o15, ⟨o14, trivial, trivial⟩, ⟨o16, trivial, trivial⟩⟩⟩, mix⟩ Tryz.func13 (by kernel_rfl) (by kernel_rfl) g17 rfl _ k17
def g18 : Sig := ⟨⟨numD 0 [], [], []⟩, .one (.list .s), [], [], false, false, [], []⟩
theorem k18 x : g18.den Tr.lf TT AN F Tryz.f122 x = S_spec_l03Conds x := by kernel_rfl
theorem o18 : OK 122 (g18.sem S_spec_l03Conds) := typed_ok2 ⟨tok, eqs, Tr.All.get (t := Tr.lf) trivial, mix⟩ Tryz.func122 (by kernel_rfl) (by kernel_rfl) g18 rfl _ k18
def g19 : Sig := ⟨⟨numD 0 [.int .i64], [], []⟩, .one (.str), [], [], false, false, [], []⟩
def E19 : Tr Sem1 := (.nd 122 (g18.sem S_spec_l03Conds) (.nd 18 (g2.sem S_spec_l01In) .lf .lf) .lf)
theorem k19 x : g19.den E19 TT AN F Tryz.f72 x = S_spec_CondName x := by kernel_rfl
theorem o19 : OK 72 (g19.sem S_spec_CondName) := typed_ok2 ⟨tok, eqs, Tr.All.get (t := E19) ⟨o18, ⟨o2, trivial, trivial⟩, trivial⟩, mix⟩ Tryz.func72 (by kernel_rfl) (by kernel_rfl) g19 rfl _ k19
def g20 : Sig := ⟨⟨numD 0 [], [], []⟩, .one (.list .s), [], [], false, false, [], []⟩
theorem k20 x : g20.den Tr.lf TT AN F Tryz.f123 x = S_spec_l03Names x := by kernel_rfl
theorem o20 : OK 123 (g20.sem S_spec_l03Names) := typed_ok2 ⟨tok, eqs, Tr.All.get (t := Tr.lf) trivial, mix⟩ Tryz.func123 (by kernel_rfl) (by kernel_rfl) g20 rfl _ k20
def g21 : Sig := ⟨⟨numD 0 [.int .i64], [], []⟩, .one (.str), [], [], false, false, [], []⟩
def E21 : Tr Sem1 := (.nd 123 (g20.sem S_spec_l03Names) (.nd 29 (g3.sem S_spec_l03Op) .lf .lf) .lf)
theorem k21 x : g21.den E21 TT AN F Tryz.f73 x = S_spec_OpName x := by kernel_rfl
theorem o21 : OK 73 (g21.sem S_spec_OpName) := typed_ok2 ⟨tok, eqs, Tr.All.get (t := E21) ⟨o20, ⟨o3, trivial, trivial⟩, trivial⟩, mix⟩ Tryz.func73 (by kernel_rfl) (by kernel_rfl) g21 rfl _ k21
def g22 : Sig := ⟨⟨numD 0 [.int .i64], [], []⟩, .one (.str), [], [], false, false, [], []⟩
theorem k22 x : g22.den Tr.lf TT AN F Tryz.f74 x = S_spec_l16Size x := by kernel_rfl
theorem o22 : OK 74 (g22.sem S_spec_l16Size) := typed_ok2 ⟨tok, eqs, Tr.All.get (t := Tr.lf) trivial, mix⟩ Tryz.func74 (by kernel_rfl) (by kernel_rfl) g22 rfl _ k22
def g23 : Sig := ⟨⟨numD 0 [.el .ins], [], []⟩, .one (.str), [], [], false, false, [], []⟩
def E23 : Tr Sem1 := (.nd 73 (g21.sem S_spec_OpName) (.nd 72 (g19.sem S_spec_CondName) .lf .lf) (.nd 74 (g22.sem S_spec_l16Size) .lf .lf))
def A23 : Anns := ⟨.lf, (.nd 46 ⟨[(1, (.konst (.ptr 0 0))), (23, .bool)], [(B0)], []⟩ .lf .lf), []⟩
theorem k23 x : g23.den E23 TT A23 F Tryz.f35 x = S_spec_l16Name x := by kernel_rfl
theorem o23 : OK 35 (g23.sem S_spec_l16Name) := typed_ok2 ⟨tok, eqs, Tr.All.get (t := E23) ⟨o21, ⟨o19, trivial, trivial⟩, ⟨o22, trivial, trivial⟩⟩, mix⟩ Tryz.func35 (by kernel_rfl) (by kernel_rfl) g23 rfl _ k23
def g24 : Sig := ⟨⟨numD 0 [.int .i64], [], []⟩, .one (.str), [], [], false, false, [], []⟩
def E24 (n0 : Nat) : Tr Sem1 := (.nd 20 (g24.sem (RS_spec_l00Digits n0)) .lf .lf)
theorem k24 n0 x : g24.den (E24 n0) TT AN F Tryz.f20 x = RS_spec_l00Digits (n0 + 1) x := by kernel_rfl
theorem r24 : ∀ n0, OK 20 (g24.sem (RS_spec_l00Digits n0))
  | 0 => sem_none g24 (RS_spec_l00Digits 0) (fun _ => rfl)
  | n0 + 1 => typed_ok2 ⟨tok, eqs, Tr.All.get (t := E24 n0) ⟨(r24 n0), trivial, trivial⟩, mix⟩ Tryz.func20 (by kernel_rfl) (by kernel_rfl) g24 rfl _ (k24 n0)
theorem o24 : OK 20 (g24.sem S_spec_l00Digits) := r24 100
def g25 : Sig := ⟨⟨numD 0 [.int .i64], [], []⟩, .one (.list .s), [], [], false, false, [], []⟩
def E25 : Tr Sem1 := (.nd 20 (g24.sem S_spec_l00Digits) .lf .lf)
def A25 : Anns := ⟨(.nd 3 (.loop ⟨[(0, (.int .i64)), (3, (.konst (.vec 0))), (5, (.int .i64))], [(.row .s)], []⟩) (.nd 0 (.loop ⟨[(0, (.int .i64)), (3, (.konst (.vec 0))), (4, (.int .i64))], [(.row .s)], []⟩) .lf .lf) .lf), (.nd 72 ⟨[(0, (.int .i64)), (3, (.konst (.vec 0))), (4, (.int .i64))], [(.row .s)], []⟩ (.nd 47 ⟨[(0, (.int .i64)), (3, (.konst (.vec 0))), (4, (.int .i64))], [(.row .s)], []⟩ (.nd 27 ⟨[(0, (.int .i64)), (3, (.konst (.vec 0))), (4, (.int .i64))], [(.row .s)], []⟩ .lf .lf) (.nd 66 ⟨[(0, (.int .i64)), (3, (.konst (.vec 0))), (4, (.int .i64))], [(.row .s)], []⟩ .lf .lf)) (.nd 117 ⟨[(0, (.int .i64)), (3, (.konst (.vec 0))), (5, (.int .i64)), (6, .str)], [(.row .s)], []⟩ (.nd 113 ⟨[(0, (.int .i64)), (3, (.konst (.vec 0))), (5, (.int .i64)), (6, .str)], [(.row .s)], []⟩ .lf .lf) (.nd 120 ⟨[(0, (.int .i64)), (3, (.konst (.vec 0))), (5, (.int .i64)), (6, .str)], [(.row .s)], []⟩ .lf .lf))), []⟩
theorem k25 x : g25.den E25 TT A25 F Tryz.f124 x = S_spec_l03Regs x := by kernel_rfl
theorem o25 : OK 124 (g25.sem S_spec_l03Regs) := typed_ok2 ⟨tok, eqs, Tr.All.get (t := E25) ⟨o24, trivial, trivial⟩, mix⟩ Tryz.func124 (by kernel_rfl) (by kernel_rfl) g25 rfl _ k25
def g26 : Sig := ⟨⟨numD 0 [.int .i64, .int .i64], [], []⟩, .one (.str), [], [], false, false, [], []⟩
def E26 : Tr Sem1 := (.nd 124 (g25.sem S_spec_l03Regs) (.nd 69 (g4.sem S_spec_l01Size) .lf .lf) .lf)
theorem k26 x : g26.den E26 TT AN F Tryz.f75 x = S_spec_RegName x := by kernel_rfl
theorem o26 : OK 75 (g26.sem S_spec_RegName) := typed_ok2 ⟨tok, eqs, Tr.All.get (t := E26) ⟨o25, ⟨o4, trivial, trivial⟩, trivial⟩, mix⟩ Tryz.func75 (by kernel_rfl) (by kernel_rfl) g26 rfl _ k26
def g27 : Sig := ⟨⟨numD 0 [V2], [], []⟩, .one (.str), [], [], false, false, [], []⟩
def E27 : Tr Sem1 := (.nd 75 (g26.sem S_spec_RegName) (.nd 20 (g24.sem S_spec_l00Digits) .lf .lf) .lf)
def A27 : Anns := ⟨.lf, (.nd 34 ⟨[(1, (.konst (.ptr 0 0))), (3, .str)], [(B1)], []⟩ (.nd 18 ⟨[(1, (.konst (.ptr 0 0))), (3, .str)], [(B1)], []⟩ (.nd 13 ⟨[(1, (.konst (.ptr 0 0))), (3, .str)], [(B1)], []⟩ .lf .lf) (.nd 30 ⟨[(1, (.konst (.ptr 0 0))), (3, .str)], [(B1)], []⟩ .lf .lf)) (.nd 76 ⟨[(1, (.konst (.ptr 0 0))), (3, .str)], [(B1)], []⟩ (.nd 72 ⟨[(3, .str)], [], []⟩ .lf .lf) .lf)), []⟩
theorem k27 x : g27.den E27 TT A27 F Tryz.f76 x = S_spec_l16Memory x := by kernel_rfl
theorem o27 : OK 76 (g27.sem S_spec_l16Memory) := typed_ok2 ⟨tok, eqs, Tr.All.get (t := E27) ⟨o26, ⟨o24, trivial, trivial⟩, trivial⟩, mix⟩ Tryz.func76 (by kernel_rfl) (by kernel_rfl) g27 rfl _ k27
def g28 : Sig := ⟨⟨numD 0 [V2, .int .i64], [], []⟩, .one (.str), [], [], false, false, [], []⟩
def E28 : Tr Sem1 := (.nd 75 (g26.sem S_spec_RegName) (.nd 74 (g22.sem S_spec_l16Size) (.nd 20 (g24.sem S_spec_l00Digits) .lf .lf) .lf) (.nd 76 (g27.sem S_spec_l16Memory) .lf .lf))
theorem k28 x : g28.den E28 TT AN F Tryz.f37 x = S_spec_l16Operand x := by kernel_rfl
theorem o28 : OK 37 (g28.sem S_spec_l16Operand) := typed_ok2 ⟨tok, eqs, Tr.All.get (t := E28) ⟨o26, ⟨o22, ⟨o24, trivial, trivial⟩, trivial⟩, ⟨o27, trivial, trivial⟩⟩, mix⟩ Tryz.func37 (by kernel_rfl) (by kernel_rfl) g28 rfl _ k28
def g29 : Sig := ⟨⟨numD 0 [.el .ins], [], []⟩, .one (.str), [], [], false, false, [], []⟩
def E29 : Tr Sem1 := (.nd 36 (g12.sem S_spec_l05From) (.nd 35 (g23.sem S_spec_l16Name) (.nd 18 (g2.sem S_spec_l01In) .lf .lf) .lf) (.nd 37 (g28.sem S_spec_l16Operand) .lf .lf))
def A29 : Anns := ⟨.lf, (.nd 30 ⟨[(1, (.konst (.ptr 0 0))), (3, .str), (4, (.int .i64))], [(B0)], []⟩ (.nd 22 ⟨[(1, (.konst (.ptr 0 0))), (3, .str), (4, (.int .i64))], [(B0)], []⟩ .lf .lf) (.nd 62 ⟨[(1, (.konst (.ptr 0 0))), (3, .str), (4, (.int .i64))], [(B0)], []⟩ .lf .lf)), []⟩
theorem k29 x : g29.den E29 TT A29 F Tryz.f14 x = S_spec_l16Instr x := by kernel_rfl
theorem o29 : OK 14 (g29.sem S_spec_l16Instr) := typed_ok2 ⟨tok, eqs, Tr.All.get (t := E29) ⟨o12, ⟨o23, ⟨o2, trivial, trivial⟩, trivial⟩, ⟨o28, trivial, trivial⟩⟩, mix⟩ Tryz.func14 (by kernel_rfl) (by kernel_rfl) g29 rfl _ k29
def g30 : Sig := ⟨⟨numD 0 [.el .ins], [], []⟩, .tup [.str, .int .i64], [], [], false, false, [], []⟩
def E30 : Tr Sem1 := (.nd 14 (g29.sem S_spec_l16Instr) (.nd 13 (g17.sem S_spec_l05OK) .lf .lf) .lf)
theorem k30 x : g30.den E30 TT AN F Tryz.f5 x = S_spec_InstrText x := by kernel_rfl
theorem o30 : OK 5 (g30.sem S_spec_InstrText) := typed_ok2 ⟨tok, eqs, Tr.All.get (t := E30) ⟨o29, ⟨o17, trivial, trivial⟩, trivial⟩, mix⟩ Tryz.func5 (by kernel_rfl) (by kernel_rfl) g30 rfl _ k30
def g31 : Sig := ⟨⟨numD 0 [.int .i64, .int .i64, .int .i64], [], []⟩, .one (.bool), [], [], false, false, [], []⟩
theorem k31 x : g31.den Tr.lf TT AN F Tryz.f23 x = S_impl_within x := by kernel_rfl
theorem o31 : OK 23 (g31.sem S_impl_within) := typed_ok2 ⟨tok, eqs, Tr.All.get (t := Tr.lf) trivial, mix⟩ Tryz.func23 (by kernel_rfl) (by kernel_rfl) g31 rfl _ k31
def g32 : Sig := ⟨⟨numD 0 [.int .i64], [], []⟩, .one (.bool), [], [], false, false, [], []⟩
def E32 : Tr Sem1 := (.nd 23 (g31.sem S_impl_within) .lf .lf)
theorem k32 x : g32.den E32 TT AN F Tryz.f38 x = S_impl_isOp x := by kernel_rfl
theorem o32 : OK 38 (g32.sem S_impl_isOp) := typed_ok2 ⟨tok, eqs, Tr.All.get (t := E32) ⟨o31, trivial, trivial⟩, mix⟩ Tryz.func38 (by kernel_rfl) (by kernel_rfl) g32 rfl _ k32
def g33 : Sig := ⟨⟨numD 0 [.int .i64], [], []⟩, .one (.bool), [], [], false, false, [], []⟩
theorem k33 x : g33.den Tr.lf TT AN F Tryz.f39 x = S_impl_hasCond x := by kernel_rfl
theorem o33 : OK 39 (g33.sem S_impl_hasCond) := typed_ok2 ⟨tok, eqs, Tr.All.get (t := Tr.lf) trivial, mix⟩ Tryz.func39 (by kernel_rfl) (by kernel_rfl) g33 rfl _ k33
def g34 : Sig := ⟨⟨numD 0 [.int .i64], [], []⟩, .one (.bool), [], [], false, false, [], []⟩
def E34 : Tr Sem1 := (.nd 23 (g31.sem S_impl_within) .lf .lf)
theorem k34 x : g34.den E34 TT AN F Tryz.f47 x = S_impl_isShift x := by kernel_rfl
theorem o34 : OK 47 (g34.sem S_impl_isShift) := typed_ok2 ⟨tok, eqs, Tr.All.get (t := E34) ⟨o31, trivial, trivial⟩, mix⟩ Tryz.func47 (by kernel_rfl) (by kernel_rfl) g34 rfl _ k34
def g35 : Sig := ⟨⟨numD 0 [.int .i64], [], []⟩, .tup [.list .i, .str], [], [], false, false, [], []⟩
def E35 : Tr Sem1 := (.nd 47 (g34.sem S_impl_isShift) (.nd 23 (g31.sem S_impl_within) .lf .lf) .lf)
def A35 : Anns := ⟨.lf, (.nd 98 ⟨[(5, (.konst (.vec 0))), (6, (.konst (.vec 1))), (7, (.konst (.vec 2))), (24, (.int .i64)), (49, .bool)], [(.row .i), (.row .i), (.row .i)], []⟩ (.nd 68 ⟨[(4, (.konst (.vec 0))), (5, (.konst (.vec 1))), (6, (.konst (.vec 2))), (7, (.konst (.vec 3))), (24, (.int .i64)), (34, .bool)], [(.row .i), (.row .i), (.row .i), (.row .i)], []⟩ (.nd 56 ⟨[(4, (.konst (.vec 0))), (5, (.konst (.vec 1))), (6, (.konst (.vec 2))), (7, (.konst (.vec 3))), (24, (.int .i64)), (28, .bool)], [(.row .i), (.row .i), (.row .i), (.row .i)], []⟩ .lf .lf) (.nd 80 ⟨[(5, (.konst (.vec 0))), (6, (.konst (.vec 1))), (7, (.konst (.vec 2))), (24, (.int .i64)), (40, .bool)], [(.row .i), (.row .i), (.row .i)], []⟩ .lf .lf)) (.nd 128 ⟨[(5, (.konst (.vec 0))), (7, (.konst (.vec 1))), (24, (.int .i64)), (64, .bool)], [(.row .i), (.row .i)], []⟩ (.nd 114 ⟨[(5, (.konst (.vec 0))), (7, (.konst (.vec 1))), (24, (.int .i64)), (57, .bool)], [(.row .i), (.row .i)], []⟩ .lf .lf) (.nd 136 ⟨[(7, (.konst (.vec 0))), (68, .bool)], [(.row .i)], []⟩ .lf .lf))), []⟩
theorem k35 x : g35.den E35 TT A35 F Tryz.f40 x = S_impl_formsOf x := by kernel_rfl
theorem o35 : OK 40 (g35.sem S_impl_formsOf) := typed_ok2 ⟨tok, eqs, Tr.All.get (t := E35) ⟨o34, ⟨o31, trivial, trivial⟩, trivial⟩, mix⟩ Tryz.func40 (by kernel_rfl) (by kernel_rfl) g35 rfl _ k35
def g36 : Sig := ⟨⟨numD 0 [V2], [], []⟩, .one (.str), [], [], false, false, [], []⟩
theorem k36 x : g36.den Tr.lf TT AN F Tryz.f41 x = S_impl_Operand_letter x := by kernel_rfl
theorem o36 : OK 41 (g36.sem S_impl_Operand_letter) := typed_ok2 ⟨tok, eqs, Tr.All.get (t := Tr.lf) trivial, mix⟩ Tryz.func41 (by kernel_rfl) (by kernel_rfl) g36 rfl _ k36
def g37 : Sig := ⟨⟨numD 0 [.el .ins], [], []⟩, .one (.bool), [], [], false, false, [], []⟩
theorem k37 x : g37.den Tr.lf TT AN F Tryz.f42 x = S_impl_isFrom x := by kernel_rfl
theorem o37 : OK 42 (g37.sem S_impl_isFrom) := typed_ok2 ⟨tok, eqs, Tr.All.get (t := Tr.lf) trivial, mix⟩ Tryz.func42 (by kernel_rfl) (by kernel_rfl) g37 rfl _ k37
theorem o38 : OK 43 hasSem := has_ok Tryz.func43 (by kernel_rfl) (by kernel_rfl) (gm := 0) (by simp [Ly]) (fun s p m w h1 h2 => Tryz.strings_Contains s p m w h1 h2)
def g39 : Sig := ⟨⟨numD 0 [.int .i64], [], []⟩, .one (.bool), [], [], false, false, [], []⟩
theorem k39 x : g39.den Tr.lf TT AN F Tryz.f78 x = S_impl_isSize x := by kernel_rfl
theorem o39 : OK 78 (g39.sem S_impl_isSize) := typed_ok2 ⟨tok, eqs, Tr.All.get (t := Tr.lf) trivial, mix⟩ Tryz.func78 (by kernel_rfl) (by kernel_rfl) g39 rfl _ k39
def g40 : Sig := ⟨⟨numD 0 [.int .i64], [], []⟩, .one (V2), [], [], false, false, [], []⟩
theorem k40 x : g40.den Tr.lf TT AN F Tryz.f79 x = S_impl_regOf x := by kernel_rfl
theorem o40 : OK 79 (g40.sem S_impl_regOf) := typed_ok2 ⟨tok, eqs, Tr.All.get (t := Tr.lf) trivial, mix⟩ Tryz.func79 (by kernel_rfl) (by kernel_rfl) g40 rfl _ k40
def g41 : Sig := ⟨⟨numD 0 [.int .i64], [], []⟩, .one (.bool), [], [], false, false, [], []⟩
def E41 : Tr Sem1 := (.nd 23 (g31.sem S_impl_within) .lf .lf)
theorem k41 x : g41.den E41 TT AN F Tryz.f85 x = S_impl_isHigh x := by kernel_rfl
theorem o41 : OK 85 (g41.sem S_impl_isHigh) := typed_ok2 ⟨tok, eqs, Tr.All.get (t := E41) ⟨o31, trivial, trivial⟩, mix⟩ Tryz.func85 (by kernel_rfl) (by kernel_rfl) g41 rfl _ k41
def g42 : Sig := ⟨⟨numD 0 [.int .i64, .int .i64], [], []⟩, .one (.bool), [], [], false, false, [], []⟩
def E42 : Tr Sem1 := (.nd 78 (g39.sem S_impl_isSize) (.nd 23 (g31.sem S_impl_within) .lf .lf) (.nd 85 (g41.sem S_impl_isHigh) .lf .lf))
theorem k42 x : g42.den E42 TT AN F Tryz.f80 x = S_impl_isReg x := by kernel_rfl
theorem o42 : OK 80 (g42.sem S_impl_isReg) := typed_ok2 ⟨tok, eqs, Tr.All.get (t := E42) ⟨o39, ⟨o31, trivial, trivial⟩, ⟨o41, trivial, trivial⟩⟩, mix⟩ Tryz.func80 (by kernel_rfl) (by kernel_rfl) g42 rfl _ k42
def g43 : Sig := ⟨⟨numD 0 [.int .i64, .int .i64], [], []⟩, .one (.int .i64), [], [], false, false, [], []⟩
theorem k43 x : g43.den Tr.lf TT AN F Tryz.f119 x = S_impl_sign x := by kernel_rfl
theorem o43 : OK 119 (g43.sem S_impl_sign) := typed_ok2 ⟨tok, eqs, Tr.All.get (t := Tr.lf) trivial, mix⟩ Tryz.func119 (by kernel_rfl) (by kernel_rfl) g43 rfl _ k43
def g44 : Sig := ⟨⟨numD 0 [.int .i64, .int .i64], [], []⟩, .one (.bool), [], [], false, false, [], []⟩
def E44 : Tr Sem1 := (.nd 119 (g43.sem S_impl_sign) .lf .lf)
theorem k44 x : g44.den E44 TT AN F Tryz.f84 x = S_impl_fits x := by kernel_rfl
theorem o44 : OK 84 (g44.sem S_impl_fits) := typed_ok2 ⟨tok, eqs, Tr.All.get (t := E44) ⟨o43, trivial, trivial⟩, mix⟩ Tryz.func84 (by kernel_rfl) (by kernel_rfl) g44 rfl _ k44
def g45 : Sig := ⟨⟨numD 0 [V2], [], []⟩, .one (.bool), [], [], false, false, [], []⟩
def E45 : Tr Sem1 := (.nd 84 (g44.sem S_impl_fits) (.nd 23 (g31.sem S_impl_within) .lf .lf) .lf)
theorem k45 x : g45.den E45 TT AN F Tryz.f81 x = S_impl_Operand_isMem x := by kernel_rfl
theorem o45 : OK 81 (g45.sem S_impl_Operand_isMem) := typed_ok2 ⟨tok, eqs, Tr.All.get (t := E45) ⟨o44, ⟨o31, trivial, trivial⟩, trivial⟩, mix⟩ Tryz.func81 (by kernel_rfl) (by kernel_rfl) g45 rfl _ k45
def g46 : Sig := ⟨⟨numD 0 [.int .i64], [], []⟩, .one (V2), [], [], false, false, [], []⟩
theorem k46 x : g46.den Tr.lf TT AN F Tryz.f82 x = S_impl_immOf x := by kernel_rfl
theorem o46 : OK 82 (g46.sem S_impl_immOf) := typed_ok2 ⟨tok, eqs, Tr.All.get (t := Tr.lf) trivial, mix⟩ Tryz.func82 (by kernel_rfl) (by kernel_rfl) g46 rfl _ k46
def g47 : Sig := ⟨⟨numD 0 [V2, .int .i64], [], []⟩, .one (.bool), [], [], false, false, [], []⟩
def E47 : Tr Sem1 := (.nd 80 (g42.sem S_impl_isReg) (.nd 79 (g40.sem S_impl_regOf) (.nd 78 (g39.sem S_impl_isSize) .lf .lf) .lf) (.nd 82 (g46.sem S_impl_immOf) (.nd 81 (g45.sem S_impl_Operand_isMem) .lf .lf) .lf))
theorem k47 x : g47.den E47 TT AN F Tryz.f44 x = S_impl_OperandOK x := by kernel_rfl
theorem o47 : OK 44 (g47.sem S_impl_OperandOK) := typed_ok2 ⟨tok, eqs, Tr.All.get (t := E47) ⟨o42, ⟨o40, ⟨o39, trivial, trivial⟩, trivial⟩, ⟨o46, ⟨o45, trivial, trivial⟩, trivial⟩⟩, mix⟩ Tryz.func44 (by kernel_rfl) (by kernel_rfl) g47 rfl _ k47
def g48 : Sig := ⟨⟨numD 0 [.el .ins], [], []⟩, .one (.int .i64), [], [], false, false, [], []⟩
def E48 : Tr Sem1 := (.nd 47 (g34.sem S_impl_isShift) .lf .lf)
theorem k48 x : g48.den E48 TT AN F Tryz.f45 x = S_impl_srcSize x := by kernel_rfl
theorem o48 : OK 45 (g48.sem S_impl_srcSize) := typed_ok2 ⟨tok, eqs, Tr.All.get (t := E48) ⟨o34, trivial, trivial⟩, mix⟩ Tryz.func45 (by kernel_rfl) (by kernel_rfl) g48 rfl _ k48
def g49 : Sig := ⟨⟨numD 0 [.int .i64], [], []⟩, .one (.bool), [], [], false, false, [], []⟩
def E49 : Tr Sem1 := (.nd 23 (g31.sem S_impl_within) .lf .lf)
theorem k49 x : g49.den E49 TT AN F Tryz.f83 x = S_impl_isByte x := by kernel_rfl
theorem o49 : OK 83 (g49.sem S_impl_isByte) := typed_ok2 ⟨tok, eqs, Tr.All.get (t := E49) ⟨o31, trivial, trivial⟩, mix⟩ Tryz.func83 (by kernel_rfl) (by kernel_rfl) g49 rfl _ k49
def g50 : Sig := ⟨⟨numD 0 [.el .ins], [], []⟩, .one (.bool), [], [], false, false, [], []⟩
def E50 : Tr Sem1 := (.nd 83 (g49.sem S_impl_isByte) (.nd 47 (g34.sem S_impl_isShift) .lf .lf) (.nd 84 (g44.sem S_impl_fits) .lf .lf))
theorem k50 x : g50.den E50 TT AN F Tryz.f46 x = S_impl_isNumber x := by kernel_rfl
theorem o50 : OK 46 (g50.sem S_impl_isNumber) := typed_ok2 ⟨tok, eqs, Tr.All.get (t := E50) ⟨o49, ⟨o34, trivial, trivial⟩, ⟨o44, trivial, trivial⟩⟩, mix⟩ Tryz.func46 (by kernel_rfl) (by kernel_rfl) g50 rfl _ k50
def g51 : Sig := ⟨⟨numD 0 [V2], [], []⟩, .one (.bool), [], [], false, false, [], []⟩
def E51 : Tr Sem1 := (.nd 85 (g41.sem S_impl_isHigh) .lf .lf)
theorem k51 x : g51.den E51 TT AN F Tryz.f48 x = S_impl_hasHigh x := by kernel_rfl
theorem o51 : OK 48 (g51.sem S_impl_hasHigh) := typed_ok2 ⟨tok, eqs, Tr.All.get (t := E51) ⟨o41, trivial, trivial⟩, mix⟩ Tryz.func48 (by kernel_rfl) (by kernel_rfl) g51 rfl _ k51
def g52 : Sig := ⟨⟨numD 0 [.int .i64], [], []⟩, .tup [.int .i64, .bool], [], [], false, false, [], []⟩
def A52 : Anns := ⟨.lf, (.nd 20 ⟨[(10, .bool)], [], []⟩ (.nd 10 ⟨[(4, (.int .i64)), (5, .bool)], [], []⟩ .lf .lf) .lf), []⟩
theorem k52 x : g52.den Tr.lf TT A52 F Tryz.f112 x = S_impl_fixedSize x := by kernel_rfl
theorem o52 : OK 112 (g52.sem S_impl_fixedSize) := typed_ok2 ⟨tok, eqs, Tr.All.get (t := Tr.lf) trivial, mix⟩ Tryz.func112 (by kernel_rfl) (by kernel_rfl) g52 rfl _ k52
def g53 : Sig := ⟨⟨numD 0 [.el .ins], [], []⟩, .one (.bool), [], [], false, false, [], []⟩
def E53 : Tr Sem1 := (.nd 112 (g52.sem S_impl_fixedSize) .lf .lf)
theorem k53 x : g53.den E53 TT AN F Tryz.f86 x = S_impl_isWide x := by kernel_rfl
theorem o53 : OK 86 (g53.sem S_impl_isWide) := typed_ok2 ⟨tok, eqs, Tr.All.get (t := E53) ⟨o52, trivial, trivial⟩, mix⟩ Tryz.func86 (by kernel_rfl) (by kernel_rfl) g53 rfl _ k53
def g54 : Sig := ⟨⟨numD 0 [.int .i64], [], []⟩, .one (.bool), [], [], false, false, [], []⟩
def E54 : Tr Sem1 := (.nd 23 (g31.sem S_impl_within) .lf .lf)
theorem k54 x : g54.den E54 TT AN F Tryz.f126 x = S_impl_asksRex_1 x := by kernel_rfl
theorem o54 : OK 126 (g54.sem S_impl_asksRex_1) := typed_ok2 ⟨tok, eqs, Tr.All.get (t := E54) ⟨o31, trivial, trivial⟩, mix⟩ Tryz.func126 (by kernel_rfl) (by kernel_rfl) g54 rfl _ k54
def g55 : Sig := ⟨⟨numD 0 [V2, .int .i64], [], []⟩, .one (.bool), [], [], false, false, [], []⟩
def E55 : Tr Sem1 := (.nd 23 (g31.sem S_impl_within) .lf .lf)
theorem k55 x : g55.den E55 TT AN F Tryz.f127 x = S_impl_isLowByte x := by kernel_rfl
theorem o55 : OK 127 (g55.sem S_impl_isLowByte) := typed_ok2 ⟨tok, eqs, Tr.All.get (t := E55) ⟨o31, trivial, trivial⟩, mix⟩ Tryz.func127 (by kernel_rfl) (by kernel_rfl) g55 rfl _ k55
def g56 : Sig := ⟨⟨numD 0 [V2, .int .i64], [], []⟩, .one (.bool), [], [], false, false, [], []⟩
def E56 : Tr Sem1 := (.nd 127 (g55.sem S_impl_isLowByte) (.nd 126 (g54.sem S_impl_asksRex_1) .lf .lf) .lf)
theorem k56 x : g56.den E56 TT AN F Tryz.f87 x = S_impl_asksRex x := by kernel_rfl
theorem o56 : OK 87 (g56.sem S_impl_asksRex) := typed_ok2 ⟨tok, eqs, Tr.All.get (t := E56) ⟨o55, ⟨o54, trivial, trivial⟩, trivial⟩, mix⟩ Tryz.func87 (by kernel_rfl) (by kernel_rfl) g56 rfl _ k56
def g57 : Sig := ⟨⟨numD 0 [.el .ins], [], []⟩, .one (.bool), [], [], false, false, [], []⟩
def E57 : Tr Sem1 := (.nd 86 (g53.sem S_impl_isWide) (.nd 45 (g48.sem S_impl_srcSize) .lf .lf) (.nd 87 (g56.sem S_impl_asksRex) .lf .lf))
theorem k57 x : g57.den E57 TT AN F Tryz.f49 x = S_impl_needsRex x := by kernel_rfl
theorem o57 : OK 49 (g57.sem S_impl_needsRex) := typed_ok2 ⟨tok, eqs, Tr.All.get (t := E57) ⟨o53, ⟨o48, trivial, trivial⟩, ⟨o56, trivial, trivial⟩⟩, mix⟩ Tryz.func49 (by kernel_rfl) (by kernel_rfl) g57 rfl _ k57
def g58 : Sig := ⟨⟨numD 0 [.el .ins], [], []⟩, .one (.bool), [], [], false, false, [], []⟩
def E58 : Tr Sem1 := (.nd 43 hasSem (.nd 40 (g35.sem S_impl_formsOf) (.nd 38 (g32.sem S_impl_isOp) (.nd 23 (g31.sem S_impl_within) .lf .lf) (.nd 39 (g33.sem S_impl_hasCond) .lf .lf)) (.nd 42 (g37.sem S_impl_isFrom) (.nd 41 (g36.sem S_impl_Operand_letter) .lf .lf) .lf)) (.nd 47 (g34.sem S_impl_isShift) (.nd 45 (g48.sem S_impl_srcSize) (.nd 44 (g47.sem S_impl_OperandOK) .lf .lf) (.nd 46 (g50.sem S_impl_isNumber) .lf .lf)) (.nd 49 (g57.sem S_impl_needsRex) (.nd 48 (g51.sem S_impl_hasHigh) .lf .lf) .lf)))
def A58 : Anns := ⟨(.nd 0 (.loop ⟨[(1, (.konst (.ptr 0 0))), (4, .str), (5, .bool), (42, (.list .i)), (43, (.int .i64)), (44, (.int .i64))], [(B0)], []⟩) .lf .lf), .lf, []⟩
theorem k58 x : g58.den E58 TT A58 F Tryz.f16 x = S_impl_InstrOK x := by kernel_rfl
theorem o58 : OK 16 (g58.sem S_impl_InstrOK) := typed_ok2 ⟨tok, eqs, Tr.All.get (t := E58) ⟨o38, ⟨o35, ⟨o32, ⟨o31, trivial, trivial⟩, ⟨o33, trivial, trivial⟩⟩, ⟨o37, ⟨o36, trivial, trivial⟩, trivial⟩⟩, ⟨o34, ⟨o48, ⟨o47, trivial, trivial⟩, ⟨o50, trivial, trivial⟩⟩, ⟨o57, ⟨o51, trivial, trivial⟩, trivial⟩⟩⟩, mix⟩ Tryz.func16 (by kernel_rfl) (by kernel_rfl) g58 rfl _ k58
def g59 : Sig := ⟨⟨numD 0 [], [], []⟩, .one (.list .s), [], [], false, false, [], []⟩
theorem k59 x : g59.den Tr.lf TT AN F Tryz.f128 x = S_impl_condNames x := by kernel_rfl
theorem o59 : OK 128 (g59.sem S_impl_condNames) := typed_ok2 ⟨tok, eqs, Tr.All.get (t := Tr.lf) trivial, mix⟩ Tryz.func128 (by kernel_rfl) (by kernel_rfl) g59 rfl _ k59
def g60 : Sig := ⟨⟨numD 0 [.int .i64], [], []⟩, .one (.str), [], [], false, false, [], []⟩
def E60 : Tr Sem1 := (.nd 128 (g59.sem S_impl_condNames) (.nd 23 (g31.sem S_impl_within) .lf .lf) .lf)
theorem k60 x : g60.den E60 TT AN F Tryz.f88 x = S_impl_CondName x := by kernel_rfl
theorem o60 : OK 88 (g60.sem S_impl_CondName) := typed_ok2 ⟨tok, eqs, Tr.All.get (t := E60) ⟨o59, ⟨o31, trivial, trivial⟩, trivial⟩, mix⟩ Tryz.func88 (by kernel_rfl) (by kernel_rfl) g60 rfl _ k60
def g61 : Sig := ⟨⟨numD 0 [], [], []⟩, .one (.list .s), [], [], false, false, [], []⟩
theorem k61 x : g61.den Tr.lf TT AN F Tryz.f129 x = S_impl_opNames x := by kernel_rfl
theorem o61 : OK 129 (g61.sem S_impl_opNames) := typed_ok2 ⟨tok, eqs, Tr.All.get (t := Tr.lf) trivial, mix⟩ Tryz.func129 (by kernel_rfl) (by kernel_rfl) g61 rfl _ k61
def g62 : Sig := ⟨⟨numD 0 [.int .i64], [], []⟩, .one (.str), [], [], false, false, [], []⟩
def E62 : Tr Sem1 := (.nd 129 (g61.sem S_impl_opNames) (.nd 38 (g32.sem S_impl_isOp) .lf .lf) .lf)
theorem k62 x : g62.den E62 TT AN F Tryz.f89 x = S_impl_OpName x := by kernel_rfl
theorem o62 : OK 89 (g62.sem S_impl_OpName) := typed_ok2 ⟨tok, eqs, Tr.All.get (t := E62) ⟨o61, ⟨o32, trivial, trivial⟩, trivial⟩, mix⟩ Tryz.func89 (by kernel_rfl) (by kernel_rfl) g62 rfl _ k62
def g63 : Sig := ⟨⟨numD 0 [.int .i64], [], []⟩, .one (.str), [], [], false, false, [], []⟩
theorem k63 x : g63.den Tr.lf TT AN F Tryz.f90 x = S_impl_sizeWord x := by kernel_rfl
theorem o63 : OK 90 (g63.sem S_impl_sizeWord) := typed_ok2 ⟨tok, eqs, Tr.All.get (t := Tr.lf) trivial, mix⟩ Tryz.func90 (by kernel_rfl) (by kernel_rfl) g63 rfl _ k63
def g64 : Sig := ⟨⟨numD 0 [.el .ins], [], []⟩, .one (.str), [], [], false, false, [], []⟩
def E64 : Tr Sem1 := (.nd 89 (g62.sem S_impl_OpName) (.nd 88 (g60.sem S_impl_CondName) .lf .lf) (.nd 90 (g63.sem S_impl_sizeWord) .lf .lf))
def A64 : Anns := ⟨.lf, (.nd 46 ⟨[(1, (.konst (.ptr 0 0))), (23, .bool)], [(B0)], []⟩ .lf .lf), []⟩
theorem k64 x : g64.den E64 TT A64 F Tryz.f50 x = S_impl_instrName x := by kernel_rfl
theorem o64 : OK 50 (g64.sem S_impl_instrName) := typed_ok2 ⟨tok, eqs, Tr.All.get (t := E64) ⟨o62, ⟨o60, trivial, trivial⟩, ⟨o63, trivial, trivial⟩⟩, mix⟩ Tryz.func50 (by kernel_rfl) (by kernel_rfl) g64 rfl _ k64
def g65 : Sig := ⟨⟨numD 0 [.int .i64], [], []⟩, .one (.str), [], [], false, false, [], []⟩
theorem o65 : OK 24 (g65.sem S_strconv_Itoa) := itoa_ok Tryz.func24 (by kernel_rfl) (by kernel_rfl) (by kernel_rfl) (gv := 1) (by simp [Ly]) (by kernel_rfl) (fun n h0 h1 w ht => Tryz.strconv_Itoa n h0 h1 w ht)
def g66 : Sig := ⟨⟨numD 0 [.int .i64], [], []⟩, .one (.list .s), [], [], false, false, [], []⟩
def E66 : Tr Sem1 := (.nd 24 (g65.sem S_strconv_Itoa) .lf .lf)
def A66 : Anns := ⟨(.nd 2 (.loop ⟨[(0, (.int .i64)), (5, .str), (6, (.konst (.vec 0))), (9, (.int .i64))], [(.row .s)], []⟩) (.nd 0 (.loop ⟨[(0, (.int .i64)), (4, .str), (5, .str), (6, (.konst (.vec 0))), (20, (.konst (.vec 1))), (21, (.int .i64)), (22, (.int .i64))], [(.row .s), (.row .s)], []⟩) .lf .lf) .lf), (.nd 68 ⟨[(0, (.int .i64)), (5, .str), (6, (.konst (.vec 0)))], [(.row .s)], []⟩ .lf .lf), []⟩
theorem k66 x : g66.den E66 TT A66 F Tryz.f130 x = S_impl_regNames x := by kernel_rfl
theorem o66 : OK 130 (g66.sem S_impl_regNames) := typed_ok2 ⟨tok, eqs, Tr.All.get (t := E66) ⟨o65, trivial, trivial⟩, mix⟩ Tryz.func130 (by kernel_rfl) (by kernel_rfl) g66 rfl _ k66
def g67 : Sig := ⟨⟨numD 0 [.int .i64, .int .i64], [], []⟩, .one (.str), [], [], false, false, [], []⟩
def E67 : Tr Sem1 := (.nd 130 (g66.sem S_impl_regNames) (.nd 80 (g42.sem S_impl_isReg) .lf .lf) .lf)
theorem k67 x : g67.den E67 TT AN F Tryz.f91 x = S_impl_RegName x := by kernel_rfl
theorem o67 : OK 91 (g67.sem S_impl_RegName) := typed_ok2 ⟨tok, eqs, Tr.All.get (t := E67) ⟨o66, ⟨o42, trivial, trivial⟩, trivial⟩, mix⟩ Tryz.func91 (by kernel_rfl) (by kernel_rfl) g67 rfl _ k67
theorem o68 : OK 92 joinSem := join_ok Tryz.func92 (by kernel_rfl) (by kernel_rfl) (fun a c s w => Tryz.strings_Join_none a c s w) (fun bk o c xs s w h1 h2 h3 h4 h5 => Tryz.strings_Join bk o c xs s w h1 h2 h3 h4 h5)
def g69 : Sig := ⟨⟨numD 0 [V2, .int .i64], [], []⟩, .one (.str), [], [], false, false, [], []⟩
def E69 : Tr Sem1 := (.nd 91 (g67.sem S_impl_RegName) (.nd 90 (g63.sem S_impl_sizeWord) (.nd 24 (g65.sem S_strconv_Itoa) .lf .lf) .lf) (.nd 92 joinSem .lf .lf))
def A69 : Anns := ⟨.lf, (.nd 82 ⟨[(1, (.int .i64)), (2, (.konst (.ptr 0 0))), (5, (.konst (.vec 1)))], [(B1), (.row .s)], []⟩ (.nd 58 ⟨[(1, (.int .i64)), (2, (.konst (.ptr 0 0))), (5, (.konst (.vec 1)))], [(B1), (.row .s)], []⟩ (.nd 45 ⟨[(1, (.int .i64)), (2, (.konst (.ptr 0 0))), (5, (.konst (.vec 1)))], [(B1), (.row .s)], []⟩ .lf .lf) .lf) (.nd 120 ⟨[(1, (.int .i64)), (5, (.konst (.vec 0)))], [(.row .s)], []⟩ .lf .lf)), []⟩
theorem k69 x : g69.den E69 TT A69 F Tryz.f51 x = S_impl_operandText x := by kernel_rfl
theorem o69 : OK 51 (g69.sem S_impl_operandText) := typed_ok2 ⟨tok, eqs, Tr.All.get (t := E69) ⟨o67, ⟨o63, ⟨o65, trivial, trivial⟩, trivial⟩, ⟨o68, trivial, trivial⟩⟩, mix⟩ Tryz.func51 (by kernel_rfl) (by kernel_rfl) g69 rfl _ k69
def g70 : Sig := ⟨⟨numD 0 [.el .ins], [], []⟩, .one (.str), [], [], false, false, [], []⟩
def E70 : Tr Sem1 := (.nd 50 (g64.sem S_impl_instrName) (.nd 47 (g34.sem S_impl_isShift) (.nd 45 (g48.sem S_impl_srcSize) .lf .lf) .lf) (.nd 51 (g69.sem S_impl_operandText) .lf .lf))
def A70 : Anns := ⟨.lf, (.nd 54 ⟨[(1, (.konst (.ptr 0 0))), (3, .str)], [(B0)], []⟩ (.nd 20 ⟨[(1, (.konst (.ptr 0 0))), (3, .str)], [(B0)], []⟩ .lf .lf) (.nd 68 ⟨[(1, (.konst (.ptr 0 0))), (3, .str), (4, (.int .i64))], [(B0)], []⟩ .lf .lf)), []⟩
theorem k70 x : g70.den E70 TT A70 F Tryz.f17 x = S_impl_instrText x := by kernel_rfl
theorem o70 : OK 17 (g70.sem S_impl_instrText) := typed_ok2 ⟨tok, eqs, Tr.All.get (t := E70) ⟨o64, ⟨o34, ⟨o48, trivial, trivial⟩, trivial⟩, ⟨o69, trivial, trivial⟩⟩, mix⟩ Tryz.func17 (by kernel_rfl) (by kernel_rfl) g70 rfl _ k70
def g71 : Sig := ⟨⟨numD 0 [.el .ins], [], []⟩, .tup [.str, .int .i64], [], [], false, false, [], []⟩
def E71 : Tr Sem1 := (.nd 17 (g70.sem S_impl_instrText) (.nd 16 (g58.sem S_impl_InstrOK) .lf .lf) .lf)
theorem k71 x : g71.den E71 TT AN F Tryz.f7 x = S_impl_InstrText x := by kernel_rfl
theorem o71 : OK 7 (g71.sem S_impl_InstrText) := typed_ok2 ⟨tok, eqs, Tr.All.get (t := E71) ⟨o70, ⟨o58, trivial, trivial⟩, trivial⟩, mix⟩ Tryz.func7 (by kernel_rfl) (by kernel_rfl) g71 rfl _ k71
def g72 : Sig := ⟨⟨numD 0 [.el .ins], [], []⟩, .one (.bool), [], [], false, false, [], []⟩
def E72 : Tr Sem1 := (.nd 6 (g1.sem S_laws_toInstr) (.nd 5 (g30.sem S_spec_InstrText) .lf .lf) (.nd 7 (g71.sem S_impl_InstrText) .lf .lf))
theorem k72 x : g72.den E72 TT AN F Tryz.f3 x = S_laws_FnExactInstrText x := by kernel_rfl
theorem o72 : OK 3 (g72.sem S_laws_FnExactInstrText) := typed_ok2 ⟨tok, eqs, Tr.All.get (t := E72) ⟨o1, ⟨o30, trivial, trivial⟩, ⟨o71, trivial, trivial⟩⟩, mix⟩ Tryz.func3 (by kernel_rfl) (by kernel_rfl) g72 rfl _ k72
end Go.Proofs.YthgjocpbmnpjjaaGreatDoor.InstrText
