/- Theory for the proofs of this claim: see its last text. -/
import Derived.Test.YtkdcimbonbjljaaFnMemory
import Derived.Test.YtkdcimbonbjljaaDenF
import Derived.Test.YtkdcimbonbjljaaProg
import Derived.KernelRfl
set_option maxRecDepth 100000
set_option linter.unusedVariables false
noncomputable section
namespace Go.Proofs.Ytkdcimbonbjljaa.Memory
open Go Go.Den Go.Den.G Go.Proofs Go.Proofs.Ytkdcimbonbjljaa
def Ly : Lay := []
def TT : Tr TI := (.nd 64 ⟨.fn, 1, 8, [.nilf], none, false⟩ (.nd 32 ⟨.fn, 1, 8, [.nilf], none, false⟩ (.nd 16 ⟨.ptr 121, 1, 8, [.nilp], none, false⟩ (.nd 8 ⟨.struct [(0, 2), (1, 3), (2, 4), (3, 6)], 4, 24, [.int .i64 0, .int .i64 0, .bool false, .int .u8 0], none, false⟩ (.nd 4 ⟨.bool, 1, 1, [.bool false], some .b, false⟩ (.nd 2 ⟨.int .i64, 1, 8, [.int .i64 0], some .i, false⟩ (.nd 1 ⟨.fn, 1, 8, [.nilf], none, false⟩ .lf .lf) (.nd 3 ⟨.int .i64, 1, 8, [.int .i64 0], some .i, false⟩ .lf .lf)) (.nd 6 ⟨.int .u8, 1, 1, [.int .u8 0], some .u, false⟩ (.nd 5 ⟨.int .u8, 1, 1, [.int .u8 0], some .u, false⟩ .lf .lf) (.nd 7 ⟨.struct [(0, 2), (1, 3), (2, 4), (3, 6)], 4, 24, [.int .i64 0, .int .i64 0, .bool false, .int .u8 0], none, false⟩ .lf .lf))) (.nd 12 ⟨.int .u64, 1, 8, [.int .u64 0], none, false⟩ (.nd 10 ⟨.str, 1, 16, [.str []], some .s, false⟩ (.nd 9 ⟨.str, 1, 16, [.str []], some .s, false⟩ .lf .lf) (.nd 11 ⟨.str, 1, 16, [.str []], some .s, false⟩ .lf .lf)) (.nd 14 ⟨.struct [(0, 9), (1, 12)], 2, 24, [.str [], .int .u64 0], none, false⟩ (.nd 13 ⟨.struct [(0, 9), (1, 12)], 2, 24, [.str [], .int .u64 0], none, false⟩ .lf .lf) (.nd 15 ⟨.ptr 118, 1, 8, [.nilp], none, false⟩ .lf .lf)))) (.nd 24 ⟨.fn, 1, 8, [.nilf], none, false⟩ (.nd 20 ⟨.iface, 1, 16, [.err true], none, false⟩ (.nd 18 ⟨.struct [(0, 17)], 1, 8, [.nilp], none, false⟩ (.nd 17 ⟨.ptr 128, 1, 8, [.nilp], none, false⟩ .lf .lf) (.nd 19 ⟨.struct [(0, 17)], 1, 8, [.nilp], none, false⟩ .lf .lf)) (.nd 22 ⟨.slice 3, 1, 24, [.nils], none, false⟩ (.nd 21 ⟨.int .i32, 1, 4, [.int .i32 0], none, false⟩ .lf .lf) (.nd 23 ⟨.fn, 1, 8, [.nilf], none, false⟩ .lf .lf))) (.nd 28 ⟨.struct [(0, 27)], 1, 24, [.nils], none, false⟩ (.nd 26 ⟨.fn, 1, 8, [.nilf], none, false⟩ (.nd 25 ⟨.fn, 1, 8, [.nilf], none, false⟩ .lf .lf) (.nd 27 ⟨.slice 73, 1, 24, [.nils], none, false⟩ .lf .lf)) (.nd 30 ⟨.fn, 1, 8, [.nilf], none, false⟩ (.nd 29 ⟨.struct [(0, 27)], 1, 24, [.nils], none, false⟩ .lf .lf) .lf)))) (.nd 49 ⟨.struct [(0, 3), (1, 3), (2, 9)], 3, 32, [.int .i64 0, .int .i64 0, .str []], some .page, true⟩ (.nd 40 ⟨.fn, 1, 8, [.nilf], none, false⟩ (.nd 36 ⟨.fn, 1, 8, [.nilf], none, false⟩ (.nd 34 ⟨.struct [(0, 33)], 1, 24, [.nils], none, false⟩ (.nd 33 ⟨.slice 49, 1, 24, [.nils], none, false⟩ .lf .lf) (.nd 35 ⟨.struct [(0, 33)], 1, 24, [.nils], none, false⟩ .lf .lf)) (.nd 38 ⟨.fn, 1, 8, [.nilf], none, false⟩ (.nd 37 ⟨.fn, 1, 8, [.nilf], none, false⟩ .lf .lf) (.nd 39 ⟨.slice 5, 1, 24, [.nils], none, false⟩ .lf .lf))) (.nd 45 ⟨.fn, 1, 8, [.nilf], none, false⟩ (.nd 42 ⟨.fn, 1, 8, [.nilf], none, false⟩ (.nd 41 ⟨.fn, 1, 8, [.nilf], none, false⟩ .lf .lf) (.nd 44 ⟨.fn, 1, 8, [.nilf], none, false⟩ .lf .lf)) (.nd 48 ⟨.struct [(0, 3), (1, 3), (2, 9)], 3, 32, [.int .i64 0, .int .i64 0, .str []], none, false⟩ (.nd 47 ⟨.fn, 1, 8, [.nilf], none, false⟩ .lf .lf) .lf))) (.nd 57 ⟨.fn, 1, 8, [.nilf], none, false⟩ (.nd 53 ⟨.fn, 1, 8, [.nilf], none, false⟩ (.nd 51 ⟨.fn, 1, 8, [.nilf], none, false⟩ (.nd 50 ⟨.fn, 1, 8, [.nilf], none, false⟩ .lf .lf) (.nd 52 ⟨.fn, 1, 8, [.nilf], none, false⟩ .lf .lf)) (.nd 55 ⟨.fn, 1, 8, [.nilf], none, false⟩ (.nd 54 ⟨.fn, 1, 8, [.nilf], none, false⟩ .lf .lf) (.nd 56 ⟨.fn, 1, 8, [.nilf], none, false⟩ .lf .lf))) (.nd 61 ⟨.fn, 1, 8, [.nilf], none, false⟩ (.nd 59 ⟨.fn, 1, 8, [.nilf], none, false⟩ (.nd 58 ⟨.fn, 1, 8, [.nilf], none, false⟩ .lf .lf) (.nd 60 ⟨.ptr 81, 1, 8, [.nilp], none, false⟩ .lf .lf)) (.nd 63 ⟨.fn, 1, 8, [.nilf], none, false⟩ (.nd 62 ⟨.fn, 1, 8, [.nilf], none, false⟩ .lf .lf) .lf))))) (.nd 95 ⟨.struct [(0, 94), (1, 39)], 2, 32, [.nilp, .nils], none, false⟩ (.nd 79 ⟨.fn, 1, 8, [.nilf], none, false⟩ (.nd 72 ⟨.fn, 1, 8, [.nilf], none, false⟩ (.nd 68 ⟨.fn, 1, 8, [.nilf], none, false⟩ (.nd 66 ⟨.fn, 1, 8, [.nilf], none, false⟩ (.nd 65 ⟨.fn, 1, 8, [.nilf], none, false⟩ .lf .lf) (.nd 67 ⟨.fn, 1, 8, [.nilf], none, false⟩ .lf .lf)) (.nd 70 ⟨.fn, 1, 8, [.nilf], none, false⟩ (.nd 69 ⟨.fn, 1, 8, [.nilf], none, false⟩ .lf .lf) (.nd 71 ⟨.fn, 1, 8, [.nilf], none, false⟩ .lf .lf))) (.nd 76 ⟨.fn, 1, 8, [.nilf], none, false⟩ (.nd 74 ⟨.fn, 1, 8, [.nilf], none, false⟩ (.nd 73 ⟨.struct [(0, 3), (1, 3), (2, 9)], 3, 32, [.int .i64 0, .int .i64 0, .str []], some .page, true⟩ .lf .lf) (.nd 75 ⟨.fn, 1, 8, [.nilf], none, false⟩ .lf .lf)) (.nd 78 ⟨.fn, 1, 8, [.nilf], none, false⟩ (.nd 77 ⟨.fn, 1, 8, [.nilf], none, false⟩ .lf .lf) .lf))) (.nd 87 ⟨.fn, 1, 8, [.nilf], none, false⟩ (.nd 83 ⟨.int .u64, 1, 8, [.int .u64 0], none, false⟩ (.nd 81 ⟨.struct [(0, 39), (1, 3), (2, 3)], 3, 40, [.nils, .int .i64 0, .int .i64 0], none, false⟩ (.nd 80 ⟨.struct [(0, 39), (1, 3), (2, 3)], 3, 40, [.nils, .int .i64 0, .int .i64 0], none, false⟩ .lf .lf) (.nd 82 ⟨.fn, 1, 8, [.nilf], none, false⟩ .lf .lf)) (.nd 85 ⟨.fn, 1, 8, [.nilf], none, false⟩ (.nd 84 ⟨.fn, 1, 8, [.nilf], none, false⟩ .lf .lf) (.nd 86 ⟨.fn, 1, 8, [.nilf], none, false⟩ .lf .lf))) (.nd 92 ⟨.fn, 1, 8, [.nilf], none, false⟩ (.nd 89 ⟨.fn, 1, 8, [.nilf], none, false⟩ (.nd 88 ⟨.fn, 1, 8, [.nilf], none, false⟩ .lf .lf) (.nd 90 ⟨.fn, 1, 8, [.nilf], none, false⟩ .lf .lf)) (.nd 94 ⟨.ptr 96, 1, 8, [.nilp], none, false⟩ (.nd 93 ⟨.fn, 1, 8, [.nilf], none, false⟩ .lf .lf) .lf)))) (.nd 114 ⟨.fn, 1, 8, [.nilf], none, false⟩ (.nd 104 ⟨.int .u64, 1, 8, [.int .u64 0], none, false⟩ (.nd 99 ⟨.iface, 1, 16, [.err true], none, false⟩ (.nd 97 ⟨.fn, 1, 8, [.nilf], none, false⟩ (.nd 96 ⟨.struct [(0, 94), (1, 39)], 2, 32, [.nilp, .nils], none, false⟩ .lf .lf) (.nd 98 ⟨.iface, 1, 16, [.err true], none, false⟩ .lf .lf)) (.nd 102 ⟨.fn, 1, 8, [.nilf], none, false⟩ (.nd 101 ⟨.fn, 1, 8, [.nilf], none, false⟩ .lf .lf) (.nd 103 ⟨.fn, 1, 8, [.nilf], none, false⟩ .lf .lf))) (.nd 109 ⟨.fn, 1, 8, [.nilf], none, false⟩ (.nd 106 ⟨.fn, 1, 8, [.nilf], none, false⟩ (.nd 105 ⟨.ptr 49, 1, 8, [.nilp], none, false⟩ .lf .lf) (.nd 107 ⟨.int .u32, 1, 4, [.int .u32 0], none, false⟩ .lf .lf)) (.nd 112 ⟨.ptr 5, 1, 8, [.nilp], none, false⟩ (.nd 111 ⟨.fn, 1, 8, [.nilf], none, false⟩ .lf .lf) .lf))) (.nd 122 ⟨.int .u8, 1, 1, [.int .u8 0], some .u, false⟩ (.nd 118 ⟨.struct [(0, 17), (1, 17), (2, 17), (3, 9)], 4, 40, [.nilp, .nilp, .nilp, .str []], none, false⟩ (.nd 116 ⟨.fn, 1, 8, [.nilf], none, false⟩ (.nd 115 ⟨.fn, 1, 8, [.nilf], none, false⟩ .lf .lf) (.nd 117 ⟨.struct [(0, 17), (1, 17), (2, 17), (3, 9)], 4, 40, [.nilp, .nilp, .nilp, .str []], none, false⟩ .lf .lf)) (.nd 120 ⟨.struct [(0, 119)], 0, 0, [], none, false⟩ (.nd 119 ⟨.array 0 16, 0, 0, [], none, false⟩ .lf .lf) (.nd 121 ⟨.struct [(0, 119)], 0, 0, [], none, false⟩ .lf .lf))) (.nd 126 ⟨.int .i32, 1, 4, [.int .i32 0], none, false⟩ (.nd 124 ⟨.fn, 1, 8, [.nilf], none, false⟩ (.nd 123 ⟨.int .u8, 1, 1, [.int .u8 0], some .u, false⟩ .lf .lf) (.nd 125 ⟨.int .i32, 1, 4, [.int .i32 0], none, false⟩ .lf .lf)) (.nd 128 ⟨.struct [(0, 12), (1, 12), (2, 107), (3, 122), (4, 5), (5, 5), (6, 123), (7, 124), (8, 112), (9, 125), (10, 126)], 11, 48, [.int .u64 0, .int .u64 0, .int .u32 0, .int .u8 0, .int .u8 0, .int .u8 0, .int .u8 0, .nilf, .nilp, .int .i32 0, .int .i32 0], none, false⟩ (.nd 127 ⟨.struct [(0, 12), (1, 12), (2, 107), (3, 122), (4, 5), (5, 5), (6, 123), (7, 124), (8, 112), (9, 125), (10, 126)], 11, 48, [.int .u64 0, .int .u64 0, .int .u32 0, .int .u8 0, .int .u8 0, .int .u8 0, .int .u8 0, .nilf, .nilp, .int .i32 0, .int .i32 0], none, false⟩ .lf .lf) .lf))))))
theorem tok : TOK Try.prog TT := by unfold TOK; kernel_rfl
theorem eqs : EqAgg Try.prog TT := eqTab_ok (by kernel_rfl)
theorem mix : Try.prog.follows .mixedOrders = true := by kernel_rfl
def gS_spec_l00Source : Sig := ⟨⟨numD 0 [.list .u], [], []⟩, .one (.konst (.ptr 0 0)), [.var [.list .u, .int .i64, .int .i64]], [], false, false, [], []⟩
def ES_spec_l00Source : Tr Sem1 := .lf
def AS_spec_l00Source : Anns := ⟨.lf, .lf, []⟩
theorem kS_spec_l00Source (x1 : gS_spec_l00Source.D.Ty) : gS_spec_l00Source.den ES_spec_l00Source TT AS_spec_l00Source F Try.f40 x1 = S_spec_l00Source x1 := by kernel_rfl
theorem okS_spec_l00Source : SemOK Try.prog Ly 40 (gS_spec_l00Source.sem S_spec_l00Source) := typed_ok2 (A := AS_spec_l00Source) (F := F) ⟨tok, eqs, Tr.All.get (t := ES_spec_l00Source) trivial, mix⟩ Try.func40 (by kernel_rfl) (by kernel_rfl) gS_spec_l00Source rfl S_spec_l00Source kS_spec_l00Source
def gS_spec_l00Src_byte : Sig := ⟨⟨numD 0 [.konst (.ptr 0 0)], [.var [.list .u, .int .i64, .int .i64]], []⟩, .one (.int .i64), [.var [.list .u, .int .i64, .int .i64]], [(0, 1, 3)], false, false, [], []⟩
def ES_spec_l00Src_byte : Tr Sem1 := .lf
def AS_spec_l00Src_byte : Anns := ⟨.lf, .lf, []⟩
theorem kS_spec_l00Src_byte (x1 : gS_spec_l00Src_byte.D.Ty) : gS_spec_l00Src_byte.den ES_spec_l00Src_byte TT AS_spec_l00Src_byte F Try.f89 x1 = S_spec_l00Src_byte x1 := by kernel_rfl
theorem okS_spec_l00Src_byte : SemOK Try.prog Ly 89 (gS_spec_l00Src_byte.sem S_spec_l00Src_byte) := typed_ok2 (A := AS_spec_l00Src_byte) (F := F) ⟨tok, eqs, Tr.All.get (t := ES_spec_l00Src_byte) trivial, mix⟩ Try.func89 (by kernel_rfl) (by kernel_rfl) gS_spec_l00Src_byte rfl S_spec_l00Src_byte kS_spec_l00Src_byte
def gS_spec_l00Src_next : Sig := ⟨⟨numD 0 [.konst (.ptr 0 0), .int .i64], [.var [.list .u, .int .i64, .int .i64]], []⟩, .one (.int .i64), [.var [.list .u, .int .i64, .int .i64]], [(0, 1, 3)], false, false, [], []⟩
def ES_spec_l00Src_next : Tr Sem1 := (.nd 89 (gS_spec_l00Src_byte.sem S_spec_l00Src_byte) .lf .lf)
def AS_spec_l00Src_next : Anns := ⟨.lf, .lf, []⟩
theorem kS_spec_l00Src_next (x1 : gS_spec_l00Src_next.D.Ty) : gS_spec_l00Src_next.den ES_spec_l00Src_next TT AS_spec_l00Src_next F Try.f69 x1 = S_spec_l00Src_next x1 := by kernel_rfl
theorem okS_spec_l00Src_next : SemOK Try.prog Ly 69 (gS_spec_l00Src_next.sem S_spec_l00Src_next) := typed_ok2 (A := AS_spec_l00Src_next) (F := F) ⟨tok, eqs, Tr.All.get (t := ES_spec_l00Src_next) ⟨okS_spec_l00Src_byte, trivial, trivial⟩, mix⟩ Try.func69 (by kernel_rfl) (by kernel_rfl) gS_spec_l00Src_next rfl S_spec_l00Src_next kS_spec_l00Src_next
def gS_spec_l00Src_chance : Sig := ⟨⟨numD 0 [.konst (.ptr 0 0), .int .i64], [.var [.list .u, .int .i64, .int .i64]], []⟩, .one (.bool), [.var [.list .u, .int .i64, .int .i64]], [(0, 1, 3)], false, false, [], []⟩
def ES_spec_l00Src_chance : Tr Sem1 := (.nd 69 (gS_spec_l00Src_next.sem S_spec_l00Src_next) .lf .lf)
def AS_spec_l00Src_chance : Anns := ⟨.lf, .lf, []⟩
theorem kS_spec_l00Src_chance (x1 : gS_spec_l00Src_chance.D.Ty) : gS_spec_l00Src_chance.den ES_spec_l00Src_chance TT AS_spec_l00Src_chance F Try.f67 x1 = S_spec_l00Src_chance x1 := by kernel_rfl
theorem okS_spec_l00Src_chance : SemOK Try.prog Ly 67 (gS_spec_l00Src_chance.sem S_spec_l00Src_chance) := typed_ok2 (A := AS_spec_l00Src_chance) (F := F) ⟨tok, eqs, Tr.All.get (t := ES_spec_l00Src_chance) ⟨okS_spec_l00Src_next, trivial, trivial⟩, mix⟩ Try.func67 (by kernel_rfl) (by kernel_rfl) gS_spec_l00Src_chance rfl S_spec_l00Src_chance kS_spec_l00Src_chance
def gS_spec_l00Src_some : Sig := ⟨⟨numD 0 [.konst (.ptr 0 0), .int .i64], [.var [.list .u, .int .i64, .int .i64]], []⟩, .one (.str), [.var [.list .u, .int .i64, .int .i64]], [(0, 1, 3)], false, false, [], []⟩
def ES_spec_l00Src_some : Tr Sem1 := (.nd 89 (gS_spec_l00Src_byte.sem S_spec_l00Src_byte) .lf .lf)
def AS_spec_l00Src_some : Anns := ⟨(.nd 0 (.loop ⟨[(0, (.konst (.ptr 0 0))), (1, (.int .i64)), (5, (.konst (.vec 1))), (6, (.int .i64))], [(.var [(.list .u), (.int .i64), (.int .i64)]), (.row .u)], []⟩) .lf .lf), .lf, []⟩
theorem kS_spec_l00Src_some (x1 : gS_spec_l00Src_some.D.Ty) : gS_spec_l00Src_some.den ES_spec_l00Src_some TT AS_spec_l00Src_some F Try.f68 x1 = S_spec_l00Src_some x1 := by kernel_rfl
theorem okS_spec_l00Src_some : SemOK Try.prog Ly 68 (gS_spec_l00Src_some.sem S_spec_l00Src_some) := typed_ok2 (A := AS_spec_l00Src_some) (F := F) ⟨tok, eqs, Tr.All.get (t := ES_spec_l00Src_some) ⟨okS_spec_l00Src_byte, trivial, trivial⟩, mix⟩ Try.func68 (by kernel_rfl) (by kernel_rfl) gS_spec_l00Src_some rfl S_spec_l00Src_some kS_spec_l00Src_some
def gS_spec_l00Src_memory : Sig := ⟨⟨numD 0 [.konst (.ptr 0 0)], [.var [.list .u, .int .i64, .int .i64]], []⟩, .one (.agg [.list .page]), [.var [.list .u, .int .i64, .int .i64]], [(0, 1, 3)], false, false, [], []⟩
def ES_spec_l00Src_memory : Tr Sem1 := (.nd 68 (gS_spec_l00Src_some.sem S_spec_l00Src_some) (.nd 67 (gS_spec_l00Src_chance.sem S_spec_l00Src_chance) .lf .lf) .lf)
def AS_spec_l00Src_memory : Anns := ⟨(.nd 0 (.loop ⟨[(0, (.konst (.ptr 0 0))), (2, (.konst (.ptr 1 0))), (3, (.konst (.ptr 2 0))), (4, (.konst (.vec 4))), (5, (.int .i64))], [(.var [(.list .u), (.int .i64), (.int .i64)]), (.var [(.konst .nils)]), (.var [(.konst (.vec 3))]), (.row .page), (.row .page)], []⟩) .lf .lf), .lf, []⟩
theorem kS_spec_l00Src_memory (x1 : gS_spec_l00Src_memory.D.Ty) : gS_spec_l00Src_memory.den ES_spec_l00Src_memory TT AS_spec_l00Src_memory F Try.f41 x1 = S_spec_l00Src_memory x1 := by kernel_rfl
theorem okS_spec_l00Src_memory : SemOK Try.prog Ly 41 (gS_spec_l00Src_memory.sem S_spec_l00Src_memory) := typed_ok2 (A := AS_spec_l00Src_memory) (F := F) ⟨tok, eqs, Tr.All.get (t := ES_spec_l00Src_memory) ⟨okS_spec_l00Src_some, ⟨okS_spec_l00Src_chance, trivial, trivial⟩, trivial⟩, mix⟩ Try.func41 (by kernel_rfl) (by kernel_rfl) gS_spec_l00Src_memory rfl S_spec_l00Src_memory kS_spec_l00Src_memory
def gS_spec_MemoryDrawn : Sig := ⟨⟨numD 0 [.list .u], [], []⟩, .one (.agg [.list .page]), [], [], false, false, [], []⟩
def ES_spec_MemoryDrawn : Tr Sem1 := (.nd 41 (gS_spec_l00Src_memory.sem S_spec_l00Src_memory) (.nd 40 (gS_spec_l00Source.sem S_spec_l00Source) .lf .lf) .lf)
def AS_spec_MemoryDrawn : Anns := ⟨.lf, .lf, []⟩
theorem kS_spec_MemoryDrawn (x1 : gS_spec_MemoryDrawn.D.Ty) : gS_spec_MemoryDrawn.den ES_spec_MemoryDrawn TT AS_spec_MemoryDrawn F Try.f17 x1 = S_spec_MemoryDrawn x1 := by kernel_rfl
theorem okS_spec_MemoryDrawn : SemOK Try.prog Ly 17 (gS_spec_MemoryDrawn.sem S_spec_MemoryDrawn) := typed_ok2 (A := AS_spec_MemoryDrawn) (F := F) ⟨tok, eqs, Tr.All.get (t := ES_spec_MemoryDrawn) ⟨okS_spec_l00Src_memory, ⟨okS_spec_l00Source, trivial, trivial⟩, trivial⟩, mix⟩ Try.func17 (by kernel_rfl) (by kernel_rfl) gS_spec_MemoryDrawn rfl S_spec_MemoryDrawn kS_spec_MemoryDrawn
def gS_laws_at : Sig := ⟨⟨numD 0 [.list .u, .int .i64, .int .i64], [], []⟩, .one (.int .i64), [], [], false, false, [], []⟩
def ES_laws_at : Tr Sem1 := .lf
def AS_laws_at : Anns := ⟨.lf, .lf, []⟩
theorem kS_laws_at (x1 : gS_laws_at.D.Ty) : gS_laws_at.den ES_laws_at TT AS_laws_at F Try.f26 x1 = S_laws_at x1 := by kernel_rfl
theorem okS_laws_at : SemOK Try.prog Ly 26 (gS_laws_at.sem S_laws_at) := typed_ok2 (A := AS_laws_at) (F := F) ⟨tok, eqs, Tr.All.get (t := ES_laws_at) trivial, mix⟩ Try.func26 (by kernel_rfl) (by kernel_rfl) gS_laws_at rfl S_laws_at kS_laws_at
def gS_laws_sizeAt : Sig := ⟨⟨numD 0 [.list .u, .int .i64], [], []⟩, .one (.int .i64), [], [], false, false, [], []⟩
def ES_laws_sizeAt : Tr Sem1 := (.nd 26 (gS_laws_at.sem S_laws_at) .lf .lf)
def AS_laws_sizeAt : Anns := ⟨.lf, .lf, []⟩
theorem kS_laws_sizeAt (x1 : gS_laws_sizeAt.D.Ty) : gS_laws_sizeAt.den ES_laws_sizeAt TT AS_laws_sizeAt F Try.f18 x1 = S_laws_sizeAt x1 := by kernel_rfl
theorem okS_laws_sizeAt : SemOK Try.prog Ly 18 (gS_laws_sizeAt.sem S_laws_sizeAt) := typed_ok2 (A := AS_laws_sizeAt) (F := F) ⟨tok, eqs, Tr.All.get (t := ES_laws_sizeAt) ⟨okS_laws_at, trivial, trivial⟩, mix⟩ Try.func18 (by kernel_rfl) (by kernel_rfl) gS_laws_sizeAt rfl S_laws_sizeAt kS_laws_sizeAt
def gS_spec_l00Src_word : Sig := ⟨⟨numD 0 [.konst (.ptr 0 0)], [.var [.list .u, .int .i64, .int .i64]], []⟩, .one (.int .i64), [.var [.list .u, .int .i64, .int .i64]], [(0, 1, 3)], false, false, [], []⟩
def ES_spec_l00Src_word : Tr Sem1 := (.nd 89 (gS_spec_l00Src_byte.sem S_spec_l00Src_byte) .lf .lf)
def AS_spec_l00Src_word : Anns := ⟨.lf, .lf, []⟩
theorem kS_spec_l00Src_word (x1 : gS_spec_l00Src_word.D.Ty) : gS_spec_l00Src_word.den ES_spec_l00Src_word TT AS_spec_l00Src_word F Try.f70 x1 = S_spec_l00Src_word x1 := by kernel_rfl
theorem okS_spec_l00Src_word : SemOK Try.prog Ly 70 (gS_spec_l00Src_word.sem S_spec_l00Src_word) := typed_ok2 (A := AS_spec_l00Src_word) (F := F) ⟨tok, eqs, Tr.All.get (t := ES_spec_l00Src_word) ⟨okS_spec_l00Src_byte, trivial, trivial⟩, mix⟩ Try.func70 (by kernel_rfl) (by kernel_rfl) gS_spec_l00Src_word rfl S_spec_l00Src_word kS_spec_l00Src_word
def gS_spec_l00Src_odd : Sig := ⟨⟨numD 0 [.konst (.ptr 0 0)], [.var [.list .u, .int .i64, .int .i64]], []⟩, .one (.int .i64), [.var [.list .u, .int .i64, .int .i64]], [(0, 1, 3)], false, false, [], []⟩
def ES_spec_l00Src_odd : Tr Sem1 := (.nd 69 (gS_spec_l00Src_next.sem S_spec_l00Src_next) .lf .lf)
def AS_spec_l00Src_odd : Anns := ⟨.lf, .lf, []⟩
theorem kS_spec_l00Src_odd (x1 : gS_spec_l00Src_odd.D.Ty) : gS_spec_l00Src_odd.den ES_spec_l00Src_odd TT AS_spec_l00Src_odd F Try.f71 x1 = S_spec_l00Src_odd x1 := by kernel_rfl
theorem okS_spec_l00Src_odd : SemOK Try.prog Ly 71 (gS_spec_l00Src_odd.sem S_spec_l00Src_odd) := typed_ok2 (A := AS_spec_l00Src_odd) (F := F) ⟨tok, eqs, Tr.All.get (t := ES_spec_l00Src_odd) ⟨okS_spec_l00Src_next, trivial, trivial⟩, mix⟩ Try.func71 (by kernel_rfl) (by kernel_rfl) gS_spec_l00Src_odd rfl S_spec_l00Src_odd kS_spec_l00Src_odd
def gS_spec_l00Src_wide : Sig := ⟨⟨numD 0 [.konst (.ptr 0 0)], [.var [.list .u, .int .i64, .int .i64]], []⟩, .one (.int .i64), [.var [.list .u, .int .i64, .int .i64]], [(0, 1, 3)], false, false, [], []⟩
def ES_spec_l00Src_wide : Tr Sem1 := (.nd 70 (gS_spec_l00Src_word.sem S_spec_l00Src_word) (.nd 69 (gS_spec_l00Src_next.sem S_spec_l00Src_next) .lf .lf) (.nd 71 (gS_spec_l00Src_odd.sem S_spec_l00Src_odd) .lf .lf))
def AS_spec_l00Src_wide : Anns := ⟨.lf, .lf, []⟩
theorem kS_spec_l00Src_wide (x1 : gS_spec_l00Src_wide.D.Ty) : gS_spec_l00Src_wide.den ES_spec_l00Src_wide TT AS_spec_l00Src_wide F Try.f43 x1 = S_spec_l00Src_wide x1 := by kernel_rfl
theorem okS_spec_l00Src_wide : SemOK Try.prog Ly 43 (gS_spec_l00Src_wide.sem S_spec_l00Src_wide) := typed_ok2 (A := AS_spec_l00Src_wide) (F := F) ⟨tok, eqs, Tr.All.get (t := ES_spec_l00Src_wide) ⟨okS_spec_l00Src_word, ⟨okS_spec_l00Src_next, trivial, trivial⟩, ⟨okS_spec_l00Src_odd, trivial, trivial⟩⟩, mix⟩ Try.func43 (by kernel_rfl) (by kernel_rfl) gS_spec_l00Src_wide rfl S_spec_l00Src_wide kS_spec_l00Src_wide
def gS_spec_l00Src_address : Sig := ⟨⟨numD 0 [.konst (.ptr 0 0)], [.var [.list .u, .int .i64, .int .i64]], []⟩, .one (.int .i64), [.var [.list .u, .int .i64, .int .i64]], [(0, 1, 3)], false, false, [], []⟩
def ES_spec_l00Src_address : Tr Sem1 := (.nd 69 (gS_spec_l00Src_next.sem S_spec_l00Src_next) (.nd 43 (gS_spec_l00Src_wide.sem S_spec_l00Src_wide) .lf .lf) .lf)
def AS_spec_l00Src_address : Anns := ⟨.lf, (.nd 28 ⟨[(0, (.konst (.ptr 0 0))), (4, (.int .i64)), (14, .bool)], [(.var [(.list .u), (.int .i64), (.int .i64)])], []⟩ .lf .lf), []⟩
theorem kS_spec_l00Src_address (x1 : gS_spec_l00Src_address.D.Ty) : gS_spec_l00Src_address.den ES_spec_l00Src_address TT AS_spec_l00Src_address F Try.f42 x1 = S_spec_l00Src_address x1 := by kernel_rfl
theorem okS_spec_l00Src_address : SemOK Try.prog Ly 42 (gS_spec_l00Src_address.sem S_spec_l00Src_address) := typed_ok2 (A := AS_spec_l00Src_address) (F := F) ⟨tok, eqs, Tr.All.get (t := ES_spec_l00Src_address) ⟨okS_spec_l00Src_next, ⟨okS_spec_l00Src_wide, trivial, trivial⟩, trivial⟩, mix⟩ Try.func42 (by kernel_rfl) (by kernel_rfl) gS_spec_l00Src_address rfl S_spec_l00Src_address kS_spec_l00Src_address
def gS_spec_AddressDrawn : Sig := ⟨⟨numD 0 [.list .u], [], []⟩, .one (.int .i64), [], [], false, false, [], []⟩
def ES_spec_AddressDrawn : Tr Sem1 := (.nd 42 (gS_spec_l00Src_address.sem S_spec_l00Src_address) (.nd 40 (gS_spec_l00Source.sem S_spec_l00Source) .lf .lf) .lf)
def AS_spec_AddressDrawn : Anns := ⟨.lf, .lf, []⟩
theorem kS_spec_AddressDrawn (x1 : gS_spec_AddressDrawn.D.Ty) : gS_spec_AddressDrawn.den ES_spec_AddressDrawn TT AS_spec_AddressDrawn F Try.f19 x1 = S_spec_AddressDrawn x1 := by kernel_rfl
theorem okS_spec_AddressDrawn : SemOK Try.prog Ly 19 (gS_spec_AddressDrawn.sem S_spec_AddressDrawn) := typed_ok2 (A := AS_spec_AddressDrawn) (F := F) ⟨tok, eqs, Tr.All.get (t := ES_spec_AddressDrawn) ⟨okS_spec_l00Src_address, ⟨okS_spec_l00Source, trivial, trivial⟩, trivial⟩, mix⟩ Try.func19 (by kernel_rfl) (by kernel_rfl) gS_spec_AddressDrawn rfl S_spec_AddressDrawn kS_spec_AddressDrawn
def gS_spec_NumberOf : Sig := ⟨⟨numD 0 [.list .u], [], []⟩, .one (.int .i64), [], [], false, false, [], []⟩
def ES_spec_NumberOf : Tr Sem1 := (.nd 43 (gS_spec_l00Src_wide.sem S_spec_l00Src_wide) (.nd 40 (gS_spec_l00Source.sem S_spec_l00Source) .lf .lf) .lf)
def AS_spec_NumberOf : Anns := ⟨.lf, .lf, []⟩
theorem kS_spec_NumberOf (x1 : gS_spec_NumberOf.D.Ty) : gS_spec_NumberOf.den ES_spec_NumberOf TT AS_spec_NumberOf F Try.f20 x1 = S_spec_NumberOf x1 := by kernel_rfl
theorem okS_spec_NumberOf : SemOK Try.prog Ly 20 (gS_spec_NumberOf.sem S_spec_NumberOf) := typed_ok2 (A := AS_spec_NumberOf) (F := F) ⟨tok, eqs, Tr.All.get (t := ES_spec_NumberOf) ⟨okS_spec_l00Src_wide, ⟨okS_spec_l00Source, trivial, trivial⟩, trivial⟩, mix⟩ Try.func20 (by kernel_rfl) (by kernel_rfl) gS_spec_NumberOf rfl S_spec_NumberOf kS_spec_NumberOf
def gS_impl_within : Sig := ⟨⟨numD 0 [.int .i64, .int .i64, .int .i64], [], []⟩, .one (.bool), [], [], false, false, [], []⟩
def ES_impl_within : Tr Sem1 := .lf
def AS_impl_within : Anns := ⟨.lf, .lf, []⟩
theorem kS_impl_within (x1 : gS_impl_within.D.Ty) : gS_impl_within.den ES_impl_within TT AS_impl_within F Try.f75 x1 = S_impl_within x1 := by kernel_rfl
theorem okS_impl_within : SemOK Try.prog Ly 75 (gS_impl_within.sem S_impl_within) := typed_ok2 (A := AS_impl_within) (F := F) ⟨tok, eqs, Tr.All.get (t := ES_impl_within) trivial, mix⟩ Try.func75 (by kernel_rfl) (by kernel_rfl) gS_impl_within rfl S_impl_within kS_impl_within
def gS_impl_isBase : Sig := ⟨⟨numD 0 [.int .i64], [], []⟩, .one (.bool), [], [], false, false, [], []⟩
def ES_impl_isBase : Tr Sem1 := (.nd 75 (gS_impl_within.sem S_impl_within) .lf .lf)
def AS_impl_isBase : Anns := ⟨.lf, .lf, []⟩
theorem kS_impl_isBase (x1 : gS_impl_isBase.D.Ty) : gS_impl_isBase.den ES_impl_isBase TT AS_impl_isBase F Try.f50 x1 = S_impl_isBase x1 := by kernel_rfl
theorem okS_impl_isBase : SemOK Try.prog Ly 50 (gS_impl_isBase.sem S_impl_isBase) := typed_ok2 (A := AS_impl_isBase) (F := F) ⟨tok, eqs, Tr.All.get (t := ES_impl_isBase) ⟨okS_impl_within, trivial, trivial⟩, mix⟩ Try.func50 (by kernel_rfl) (by kernel_rfl) gS_impl_isBase rfl S_impl_isBase kS_impl_isBase
def gS_impl_isPerm : Sig := ⟨⟨numD 0 [.int .i64], [], []⟩, .one (.bool), [], [], false, false, [], []⟩
def ES_impl_isPerm : Tr Sem1 := (.nd 75 (gS_impl_within.sem S_impl_within) .lf .lf)
def AS_impl_isPerm : Anns := ⟨.lf, .lf, []⟩
theorem kS_impl_isPerm (x1 : gS_impl_isPerm.D.Ty) : gS_impl_isPerm.den ES_impl_isPerm TT AS_impl_isPerm F Try.f51 x1 = S_impl_isPerm x1 := by kernel_rfl
theorem okS_impl_isPerm : SemOK Try.prog Ly 51 (gS_impl_isPerm.sem S_impl_isPerm) := typed_ok2 (A := AS_impl_isPerm) (F := F) ⟨tok, eqs, Tr.All.get (t := ES_impl_isPerm) ⟨okS_impl_within, trivial, trivial⟩, mix⟩ Try.func51 (by kernel_rfl) (by kernel_rfl) gS_impl_isPerm rfl S_impl_isPerm kS_impl_isPerm
def gS_impl_MemoryOK : Sig := ⟨⟨numD 0 [.agg [.list .page]], [], []⟩, .one (.bool), [], [], false, false, [], []⟩
def ES_impl_MemoryOK : Tr Sem1 := (.nd 51 (gS_impl_isPerm.sem S_impl_isPerm) (.nd 50 (gS_impl_isBase.sem S_impl_isBase) .lf .lf) .lf)
def AS_impl_MemoryOK : Anns := ⟨(.nd 0 (.loop ⟨[(1, (.konst (.ptr 0 0))), (6, (.list .page)), (7, (.int .i64)), (8, (.int .i64))], [(.var [(.list .page)])], []⟩) .lf .lf), .lf, []⟩
theorem kS_impl_MemoryOK (x1 : gS_impl_MemoryOK.D.Ty) : gS_impl_MemoryOK.den ES_impl_MemoryOK TT AS_impl_MemoryOK F Try.f29 x1 = S_impl_MemoryOK x1 := by kernel_rfl
theorem okS_impl_MemoryOK : SemOK Try.prog Ly 29 (gS_impl_MemoryOK.sem S_impl_MemoryOK) := typed_ok2 (A := AS_impl_MemoryOK) (F := F) ⟨tok, eqs, Tr.All.get (t := ES_impl_MemoryOK) ⟨okS_impl_isPerm, ⟨okS_impl_isBase, trivial, trivial⟩, trivial⟩, mix⟩ Try.func29 (by kernel_rfl) (by kernel_rfl) gS_impl_MemoryOK rfl S_impl_MemoryOK kS_impl_MemoryOK
def gS_impl_isSize : Sig := ⟨⟨numD 0 [.int .i64], [], []⟩, .one (.bool), [], [], false, false, [], []⟩
def ES_impl_isSize : Tr Sem1 := .lf
def AS_impl_isSize : Anns := ⟨.lf, .lf, []⟩
theorem kS_impl_isSize (x1 : gS_impl_isSize.D.Ty) : gS_impl_isSize.den ES_impl_isSize TT AS_impl_isSize F Try.f37 x1 = S_impl_isSize x1 := by kernel_rfl
theorem okS_impl_isSize : SemOK Try.prog Ly 37 (gS_impl_isSize.sem S_impl_isSize) := typed_ok2 (A := AS_impl_isSize) (F := F) ⟨tok, eqs, Tr.All.get (t := ES_impl_isSize) trivial, mix⟩ Try.func37 (by kernel_rfl) (by kernel_rfl) gS_impl_isSize rfl S_impl_isSize kS_impl_isSize
def gS_impl_Memory_pageOf_1 : Sig := ⟨⟨numD 0 [.el .page, .konst (.ptr 0 0)], [.var [.int .i64]], []⟩, .one (.bool), [.var [.int .i64]], [], false, false, [], []⟩
def ES_impl_Memory_pageOf_1 : Tr Sem1 := .lf
def AS_impl_Memory_pageOf_1 : Anns := ⟨.lf, .lf, []⟩
theorem kS_impl_Memory_pageOf_1 (x1 : gS_impl_Memory_pageOf_1.D.Ty) : gS_impl_Memory_pageOf_1.den ES_impl_Memory_pageOf_1 TT AS_impl_Memory_pageOf_1 F Try.f77 x1 = S_impl_Memory_pageOf_1 x1 := by kernel_rfl
theorem okS_impl_Memory_pageOf_1 : SemOK Try.prog Ly 77 (gS_impl_Memory_pageOf_1.sem S_impl_Memory_pageOf_1) := typed_ok2 (A := AS_impl_Memory_pageOf_1) (F := F) ⟨tok, eqs, Tr.All.get (t := ES_impl_Memory_pageOf_1) trivial, mix⟩ Try.func77 (by kernel_rfl) (by kernel_rfl) gS_impl_Memory_pageOf_1 rfl S_impl_Memory_pageOf_1 kS_impl_Memory_pageOf_1
def gS_slices_IndexFunc_implPage_cimpl_Memory_pageOf_1 : Sig := ⟨⟨numD 0 [.list .page, .konst (.func (.func 77) [] [.ptr 0 0])], [.var [.int .i64]], []⟩, .one (.int .i64), [.var [.int .i64]], [], false, false, [], []⟩
def ES_slices_IndexFunc_implPage_cimpl_Memory_pageOf_1 : Tr Sem1 := (.nd 77 (gS_impl_Memory_pageOf_1.sem S_impl_Memory_pageOf_1) .lf .lf)
def AS_slices_IndexFunc_implPage_cimpl_Memory_pageOf_1 : Anns := ⟨(.nd 0 (.loop ⟨[(0, (.list .page)), (1, (.konst (.func (.func 77) [] [(.ptr 0 0)]))), (7, (.int .i64)), (8, (.int .i64))], [(.var [(.int .i64)])], []⟩) .lf .lf), .lf, []⟩
theorem kS_slices_IndexFunc_implPage_cimpl_Memory_pageOf_1 (x1 : gS_slices_IndexFunc_implPage_cimpl_Memory_pageOf_1.D.Ty) : gS_slices_IndexFunc_implPage_cimpl_Memory_pageOf_1.den ES_slices_IndexFunc_implPage_cimpl_Memory_pageOf_1 TT AS_slices_IndexFunc_implPage_cimpl_Memory_pageOf_1 F Try.f76 x1 = S_slices_IndexFunc_implPage_cimpl_Memory_pageOf_1 x1 := by kernel_rfl
theorem okS_slices_IndexFunc_implPage_cimpl_Memory_pageOf_1 : SemOK Try.prog Ly 76 (gS_slices_IndexFunc_implPage_cimpl_Memory_pageOf_1.sem S_slices_IndexFunc_implPage_cimpl_Memory_pageOf_1) := typed_ok2 (A := AS_slices_IndexFunc_implPage_cimpl_Memory_pageOf_1) (F := F) ⟨tok, eqs, Tr.All.get (t := ES_slices_IndexFunc_implPage_cimpl_Memory_pageOf_1) ⟨okS_impl_Memory_pageOf_1, trivial, trivial⟩, mix⟩ Try.func76 (by kernel_rfl) (by kernel_rfl) gS_slices_IndexFunc_implPage_cimpl_Memory_pageOf_1 rfl S_slices_IndexFunc_implPage_cimpl_Memory_pageOf_1 kS_slices_IndexFunc_implPage_cimpl_Memory_pageOf_1
def gS_impl_Memory_pageOf : Sig := ⟨⟨numD 0 [.agg [.list .page], .int .i64], [], []⟩, .one (.int .i64), [], [], false, false, [], []⟩
def ES_impl_Memory_pageOf : Tr Sem1 := (.nd 76 (gS_slices_IndexFunc_implPage_cimpl_Memory_pageOf_1.sem S_slices_IndexFunc_implPage_cimpl_Memory_pageOf_1) (.nd 75 (gS_impl_within.sem S_impl_within) .lf .lf) .lf)
def AS_impl_Memory_pageOf : Anns := ⟨.lf, .lf, []⟩
theorem kS_impl_Memory_pageOf (x1 : gS_impl_Memory_pageOf.D.Ty) : gS_impl_Memory_pageOf.den ES_impl_Memory_pageOf TT AS_impl_Memory_pageOf F Try.f52 x1 = S_impl_Memory_pageOf x1 := by kernel_rfl
theorem okS_impl_Memory_pageOf : SemOK Try.prog Ly 52 (gS_impl_Memory_pageOf.sem S_impl_Memory_pageOf) := typed_ok2 (A := AS_impl_Memory_pageOf) (F := F) ⟨tok, eqs, Tr.All.get (t := ES_impl_Memory_pageOf) ⟨okS_slices_IndexFunc_implPage_cimpl_Memory_pageOf_1, ⟨okS_impl_within, trivial, trivial⟩, trivial⟩, mix⟩ Try.func52 (by kernel_rfl) (by kernel_rfl) gS_impl_Memory_pageOf rfl S_impl_Memory_pageOf kS_impl_Memory_pageOf
def gS_impl_Memory_fault : Sig := ⟨⟨numD 0 [.agg [.list .page], .int .i64, .int .i64, .int .i64], [], []⟩, .one (.int .i64), [], [], false, false, [], []⟩
def ES_impl_Memory_fault : Tr Sem1 := (.nd 52 (gS_impl_Memory_pageOf.sem S_impl_Memory_pageOf) .lf .lf)
def AS_impl_Memory_fault : Anns := ⟨(.nd 0 (.loop ⟨[(1, (.int .i64)), (3, (.int .i64)), (4, (.konst (.ptr 0 0))), (11, (.int .i64)), (12, (.int .i64))], [(.var [(.list .page)])], []⟩) .lf .lf), .lf, []⟩
theorem kS_impl_Memory_fault (x1 : gS_impl_Memory_fault.D.Ty) : gS_impl_Memory_fault.den ES_impl_Memory_fault TT AS_impl_Memory_fault F Try.f56 x1 = S_impl_Memory_fault x1 := by kernel_rfl
theorem okS_impl_Memory_fault : SemOK Try.prog Ly 56 (gS_impl_Memory_fault.sem S_impl_Memory_fault) := typed_ok2 (A := AS_impl_Memory_fault) (F := F) ⟨tok, eqs, Tr.All.get (t := ES_impl_Memory_fault) ⟨okS_impl_Memory_pageOf, trivial, trivial⟩, mix⟩ Try.func56 (by kernel_rfl) (by kernel_rfl) gS_impl_Memory_fault rfl S_impl_Memory_fault kS_impl_Memory_fault
def gS_slices_Clone_implPage : Sig := ⟨⟨numD 0 [.list .page], [], []⟩, .one (.konst (.vec 0)), [.row .page], [], false, true, [(2, 0, .page)], []⟩
def ES_slices_Clone_implPage : Tr Sem1 := .lf
def AS_slices_Clone_implPage : Anns := ⟨.lf, .lf, []⟩
theorem kS_slices_Clone_implPage (x1 : gS_slices_Clone_implPage.D.Ty) : gS_slices_Clone_implPage.den ES_slices_Clone_implPage TT AS_slices_Clone_implPage F Try.f78 x1 = S_slices_Clone_implPage x1 := by kernel_rfl
theorem okS_slices_Clone_implPage : SemOK Try.prog Ly 78 (gS_slices_Clone_implPage.sem S_slices_Clone_implPage) := typed_ok2 (A := AS_slices_Clone_implPage) (F := F) ⟨tok, eqs, Tr.All.get (t := ES_slices_Clone_implPage) trivial, mix⟩ Try.func78 (by kernel_rfl) (by kernel_rfl) gS_slices_Clone_implPage rfl S_slices_Clone_implPage kS_slices_Clone_implPage
def gS_impl_copyMemory : Sig := ⟨⟨numD 0 [.agg [.list .page]], [], []⟩, .one (.agg [.konst (.vec 0)]), [.row .page], [], false, true, [(2, 1, .page)], []⟩
def ES_impl_copyMemory : Tr Sem1 := (.nd 78 (gS_slices_Clone_implPage.sem S_slices_Clone_implPage) .lf .lf)
def AS_impl_copyMemory : Anns := ⟨.lf, .lf, []⟩
theorem kS_impl_copyMemory (x1 : gS_impl_copyMemory.D.Ty) : gS_impl_copyMemory.den ES_impl_copyMemory TT AS_impl_copyMemory F Try.f53 x1 = S_impl_copyMemory x1 := by kernel_rfl
theorem okS_impl_copyMemory : SemOK Try.prog Ly 53 (gS_impl_copyMemory.sem S_impl_copyMemory) := typed_ok2 (A := AS_impl_copyMemory) (F := F) ⟨tok, eqs, Tr.All.get (t := ES_impl_copyMemory) ⟨okS_slices_Clone_implPage, trivial, trivial⟩, mix⟩ Try.func53 (by kernel_rfl) (by kernel_rfl) gS_impl_copyMemory rfl S_impl_copyMemory kS_impl_copyMemory
def gS_impl_little : Sig := ⟨⟨numD 0 [.int .i64, .int .i64], [], []⟩, .one (.str), [], [], false, false, [], []⟩
def ES_impl_little : Tr Sem1 := .lf
def AS_impl_little : Anns := ⟨(.nd 0 (.loop ⟨[(0, (.int .i64)), (5, (.konst (.vec 0))), (10, (.int .i64)), (11, (.int .i64))], [(.row .u)], []⟩) .lf .lf), .lf, []⟩
theorem kS_impl_little (x1 : gS_impl_little.D.Ty) : gS_impl_little.den ES_impl_little TT AS_impl_little F Try.f49 x1 = S_impl_little x1 := by kernel_rfl
theorem okS_impl_little : SemOK Try.prog Ly 49 (gS_impl_little.sem S_impl_little) := typed_ok2 (A := AS_impl_little) (F := F) ⟨tok, eqs, Tr.All.get (t := ES_impl_little) trivial, mix⟩ Try.func49 (by kernel_rfl) (by kernel_rfl) gS_impl_little rfl S_impl_little kS_impl_little
def gS_impl_Memory_lay : Sig := ⟨⟨numD 0 [.agg [.list .page], .int .i64, .str], [], []⟩, .one (.agg [.list .page]), [], [], false, false, [], []⟩
def ES_impl_Memory_lay : Tr Sem1 := (.nd 53 (gS_impl_copyMemory.sem S_impl_copyMemory) (.nd 52 (gS_impl_Memory_pageOf.sem S_impl_Memory_pageOf) .lf .lf) .lf)
def AS_impl_Memory_lay : Anns := ⟨(.nd 0 (.loop ⟨[(1, (.int .i64)), (2, .str), (3, (.konst (.ptr 0 0))), (6, (.konst (.ptr 1 0))), (7, (.konst (.ptr 2 0)))], [(.var [(.list .page)]), (.var [(.konst .nils)]), (.var [(.konst (.vec 3))]), (.row .page)], []⟩) .lf .lf), .lf, []⟩
theorem kS_impl_Memory_lay (x1 : gS_impl_Memory_lay.D.Ty) : gS_impl_Memory_lay.den ES_impl_Memory_lay TT AS_impl_Memory_lay F Try.f72 x1 = S_impl_Memory_lay x1 := by kernel_rfl
theorem okS_impl_Memory_lay : SemOK Try.prog Ly 72 (gS_impl_Memory_lay.sem S_impl_Memory_lay) := typed_ok2 (A := AS_impl_Memory_lay) (F := F) ⟨tok, eqs, Tr.All.get (t := ES_impl_Memory_lay) ⟨okS_impl_copyMemory, ⟨okS_impl_Memory_pageOf, trivial, trivial⟩, trivial⟩, mix⟩ Try.func72 (by kernel_rfl) (by kernel_rfl) gS_impl_Memory_lay rfl S_impl_Memory_lay kS_impl_Memory_lay
def gS_impl_Memory_store : Sig := ⟨⟨numD 0 [.agg [.list .page], .int .i64, .int .i64, .int .i64], [], []⟩, .tup [.agg [.list .page], .int .i64], [], [], false, false, [], []⟩
def ES_impl_Memory_store : Tr Sem1 := (.nd 56 (gS_impl_Memory_fault.sem S_impl_Memory_fault) (.nd 53 (gS_impl_copyMemory.sem S_impl_copyMemory) (.nd 49 (gS_impl_little.sem S_impl_little) .lf .lf) .lf) (.nd 72 (gS_impl_Memory_lay.sem S_impl_Memory_lay) .lf .lf))
def AS_impl_Memory_store : Anns := ⟨.lf, .lf, []⟩
theorem kS_impl_Memory_store (x1 : gS_impl_Memory_store.D.Ty) : gS_impl_Memory_store.den ES_impl_Memory_store TT AS_impl_Memory_store F Try.f44 x1 = S_impl_Memory_store x1 := by kernel_rfl
theorem okS_impl_Memory_store : SemOK Try.prog Ly 44 (gS_impl_Memory_store.sem S_impl_Memory_store) := typed_ok2 (A := AS_impl_Memory_store) (F := F) ⟨tok, eqs, Tr.All.get (t := ES_impl_Memory_store) ⟨okS_impl_Memory_fault, ⟨okS_impl_copyMemory, ⟨okS_impl_little, trivial, trivial⟩, trivial⟩, ⟨okS_impl_Memory_lay, trivial, trivial⟩⟩, mix⟩ Try.func44 (by kernel_rfl) (by kernel_rfl) gS_impl_Memory_store rfl S_impl_Memory_store kS_impl_Memory_store
def gS_impl_StoreAt : Sig := ⟨⟨numD 0 [.agg [.list .page], .int .i64, .int .i64, .int .i64], [], []⟩, .tup [.agg [.list .page], .int .i64], [], [], false, false, [], []⟩
def ES_impl_StoreAt : Tr Sem1 := (.nd 37 (gS_impl_isSize.sem S_impl_isSize) (.nd 29 (gS_impl_MemoryOK.sem S_impl_MemoryOK) .lf .lf) (.nd 44 (gS_impl_Memory_store.sem S_impl_Memory_store) .lf .lf))
def AS_impl_StoreAt : Anns := ⟨.lf, .lf, []⟩
theorem kS_impl_StoreAt (x1 : gS_impl_StoreAt.D.Ty) : gS_impl_StoreAt.den ES_impl_StoreAt TT AS_impl_StoreAt F Try.f21 x1 = S_impl_StoreAt x1 := by kernel_rfl
theorem okS_impl_StoreAt : SemOK Try.prog Ly 21 (gS_impl_StoreAt.sem S_impl_StoreAt) := typed_ok2 (A := AS_impl_StoreAt) (F := F) ⟨tok, eqs, Tr.All.get (t := ES_impl_StoreAt) ⟨okS_impl_isSize, ⟨okS_impl_MemoryOK, trivial, trivial⟩, ⟨okS_impl_Memory_store, trivial, trivial⟩⟩, mix⟩ Try.func21 (by kernel_rfl) (by kernel_rfl) gS_impl_StoreAt rfl S_impl_StoreAt kS_impl_StoreAt
def gS_spec_l01In : Sig := ⟨⟨numD 0 [.int .i64, .int .i64, .int .i64], [], []⟩, .one (.bool), [], [], false, false, [], []⟩
def ES_spec_l01In : Tr Sem1 := .lf
def AS_spec_l01In : Anns := ⟨.lf, .lf, []⟩
theorem kS_spec_l01In (x1 : gS_spec_l01In.D.Ty) : gS_spec_l01In.den ES_spec_l01In TT AS_spec_l01In F Try.f87 x1 = S_spec_l01In x1 := by kernel_rfl
theorem okS_spec_l01In : SemOK Try.prog Ly 87 (gS_spec_l01In.sem S_spec_l01In) := typed_ok2 (A := AS_spec_l01In) (F := F) ⟨tok, eqs, Tr.All.get (t := ES_spec_l01In) trivial, mix⟩ Try.func87 (by kernel_rfl) (by kernel_rfl) gS_spec_l01In rfl S_spec_l01In kS_spec_l01In
def gS_spec_l02Base : Sig := ⟨⟨numD 0 [.int .i64], [], []⟩, .one (.bool), [], [], false, false, [], []⟩
def ES_spec_l02Base : Tr Sem1 := (.nd 87 (gS_spec_l01In.sem S_spec_l01In) .lf .lf)
def AS_spec_l02Base : Anns := ⟨.lf, .lf, []⟩
theorem kS_spec_l02Base (x1 : gS_spec_l02Base.D.Ty) : gS_spec_l02Base.den ES_spec_l02Base TT AS_spec_l02Base F Try.f59 x1 = S_spec_l02Base x1 := by kernel_rfl
theorem okS_spec_l02Base : SemOK Try.prog Ly 59 (gS_spec_l02Base.sem S_spec_l02Base) := typed_ok2 (A := AS_spec_l02Base) (F := F) ⟨tok, eqs, Tr.All.get (t := ES_spec_l02Base) ⟨okS_spec_l01In, trivial, trivial⟩, mix⟩ Try.func59 (by kernel_rfl) (by kernel_rfl) gS_spec_l02Base rfl S_spec_l02Base kS_spec_l02Base
def gS_spec_l02Perm : Sig := ⟨⟨numD 0 [.int .i64], [], []⟩, .one (.bool), [], [], false, false, [], []⟩
def ES_spec_l02Perm : Tr Sem1 := (.nd 87 (gS_spec_l01In.sem S_spec_l01In) .lf .lf)
def AS_spec_l02Perm : Anns := ⟨.lf, .lf, []⟩
theorem kS_spec_l02Perm (x1 : gS_spec_l02Perm.D.Ty) : gS_spec_l02Perm.den ES_spec_l02Perm TT AS_spec_l02Perm F Try.f60 x1 = S_spec_l02Perm x1 := by kernel_rfl
theorem okS_spec_l02Perm : SemOK Try.prog Ly 60 (gS_spec_l02Perm.sem S_spec_l02Perm) := typed_ok2 (A := AS_spec_l02Perm) (F := F) ⟨tok, eqs, Tr.All.get (t := ES_spec_l02Perm) ⟨okS_spec_l01In, trivial, trivial⟩, mix⟩ Try.func60 (by kernel_rfl) (by kernel_rfl) gS_spec_l02Perm rfl S_spec_l02Perm kS_spec_l02Perm
def gS_spec_MemoryOK : Sig := ⟨⟨numD 0 [.agg [.list .page]], [], []⟩, .one (.bool), [], [], false, false, [], []⟩
def ES_spec_MemoryOK : Tr Sem1 := (.nd 60 (gS_spec_l02Perm.sem S_spec_l02Perm) (.nd 59 (gS_spec_l02Base.sem S_spec_l02Base) .lf .lf) .lf)
def AS_spec_MemoryOK : Anns := ⟨(.nd 0 (.loop ⟨[(1, (.konst (.ptr 0 0))), (3, (.int .i64))], [(.var [(.list .page)])], []⟩) .lf .lf), .lf, []⟩
theorem kS_spec_MemoryOK (x1 : gS_spec_MemoryOK.D.Ty) : gS_spec_MemoryOK.den ES_spec_MemoryOK TT AS_spec_MemoryOK F Try.f33 x1 = S_spec_MemoryOK x1 := by kernel_rfl
theorem okS_spec_MemoryOK : SemOK Try.prog Ly 33 (gS_spec_MemoryOK.sem S_spec_MemoryOK) := typed_ok2 (A := AS_spec_MemoryOK) (F := F) ⟨tok, eqs, Tr.All.get (t := ES_spec_MemoryOK) ⟨okS_spec_l02Perm, ⟨okS_spec_l02Base, trivial, trivial⟩, trivial⟩, mix⟩ Try.func33 (by kernel_rfl) (by kernel_rfl) gS_spec_MemoryOK rfl S_spec_MemoryOK kS_spec_MemoryOK
def gS_spec_l01Size : Sig := ⟨⟨numD 0 [.int .i64], [], []⟩, .one (.bool), [], [], false, false, [], []⟩
def ES_spec_l01Size : Tr Sem1 := .lf
def AS_spec_l01Size : Anns := ⟨.lf, .lf, []⟩
theorem kS_spec_l01Size (x1 : gS_spec_l01Size.D.Ty) : gS_spec_l01Size.den ES_spec_l01Size TT AS_spec_l01Size F Try.f34 x1 = S_spec_l01Size x1 := by kernel_rfl
theorem okS_spec_l01Size : SemOK Try.prog Ly 34 (gS_spec_l01Size.sem S_spec_l01Size) := typed_ok2 (A := AS_spec_l01Size) (F := F) ⟨tok, eqs, Tr.All.get (t := ES_spec_l01Size) trivial, mix⟩ Try.func34 (by kernel_rfl) (by kernel_rfl) gS_spec_l01Size rfl S_spec_l01Size kS_spec_l01Size
def gS_spec_l02Find : Sig := ⟨⟨numD 0 [.agg [.list .page], .int .i64], [], []⟩, .one (.int .i64), [], [], false, false, [], []⟩
def ES_spec_l02Find : Tr Sem1 := .lf
def AS_spec_l02Find : Anns := ⟨(.nd 0 (.loop ⟨[(1, (.int .i64)), (2, (.konst (.ptr 0 0))), (5, (.int .i64))], [(.var [(.list .page)])], []⟩) .lf .lf), .lf, []⟩
theorem kS_spec_l02Find (x1 : gS_spec_l02Find.D.Ty) : gS_spec_l02Find.den ES_spec_l02Find TT AS_spec_l02Find F Try.f88 x1 = S_spec_l02Find x1 := by kernel_rfl
theorem okS_spec_l02Find : SemOK Try.prog Ly 88 (gS_spec_l02Find.sem S_spec_l02Find) := typed_ok2 (A := AS_spec_l02Find) (F := F) ⟨tok, eqs, Tr.All.get (t := ES_spec_l02Find) trivial, mix⟩ Try.func88 (by kernel_rfl) (by kernel_rfl) gS_spec_l02Find rfl S_spec_l02Find kS_spec_l02Find
def gS_spec_l02Fault : Sig := ⟨⟨numD 0 [.agg [.list .page], .int .i64, .int .i64, .int .i64], [], []⟩, .one (.int .i64), [], [], false, false, [], []⟩
def ES_spec_l02Fault : Tr Sem1 := (.nd 88 (gS_spec_l02Find.sem S_spec_l02Find) (.nd 87 (gS_spec_l01In.sem S_spec_l01In) .lf .lf) .lf)
def AS_spec_l02Fault : Anns := ⟨(.nd 0 (.loop ⟨[(1, (.int .i64)), (2, (.int .i64)), (3, (.int .i64)), (4, (.konst (.ptr 0 0))), (9, (.int .i64))], [(.var [(.list .page)])], []⟩) .lf .lf), .lf, []⟩
theorem kS_spec_l02Fault (x1 : gS_spec_l02Fault.D.Ty) : gS_spec_l02Fault.den ES_spec_l02Fault TT AS_spec_l02Fault F Try.f61 x1 = S_spec_l02Fault x1 := by kernel_rfl
theorem okS_spec_l02Fault : SemOK Try.prog Ly 61 (gS_spec_l02Fault.sem S_spec_l02Fault) := typed_ok2 (A := AS_spec_l02Fault) (F := F) ⟨tok, eqs, Tr.All.get (t := ES_spec_l02Fault) ⟨okS_spec_l02Find, ⟨okS_spec_l01In, trivial, trivial⟩, trivial⟩, mix⟩ Try.func61 (by kernel_rfl) (by kernel_rfl) gS_spec_l02Fault rfl S_spec_l02Fault kS_spec_l02Fault
def gS_spec_l01Little : Sig := ⟨⟨numD 0 [.int .i64, .int .i64], [], []⟩, .one (.str), [], [], false, false, [], []⟩
def ES_spec_l01Little : Tr Sem1 := .lf
def AS_spec_l01Little : Anns := ⟨(.nd 0 (.loop ⟨[(0, (.int .i64)), (1, (.int .i64)), (5, (.konst (.vec 0))), (6, (.int .i64))], [(.row .u)], []⟩) .lf .lf), .lf, []⟩
theorem kS_spec_l01Little (x1 : gS_spec_l01Little.D.Ty) : gS_spec_l01Little.den ES_spec_l01Little TT AS_spec_l01Little F Try.f74 x1 = S_spec_l01Little x1 := by kernel_rfl
theorem okS_spec_l01Little : SemOK Try.prog Ly 74 (gS_spec_l01Little.sem S_spec_l01Little) := typed_ok2 (A := AS_spec_l01Little) (F := F) ⟨tok, eqs, Tr.All.get (t := ES_spec_l01Little) trivial, mix⟩ Try.func74 (by kernel_rfl) (by kernel_rfl) gS_spec_l01Little rfl S_spec_l01Little kS_spec_l01Little
def gS_spec_l02Own : Sig := ⟨⟨numD 0 [.agg [.list .page]], [], []⟩, .one (.agg [.konst (.vec 0)]), [.row .page], [], false, true, [(2, 1, .page)], []⟩
def ES_spec_l02Own : Tr Sem1 := .lf
def AS_spec_l02Own : Anns := ⟨.lf, .lf, []⟩
theorem kS_spec_l02Own (x1 : gS_spec_l02Own.D.Ty) : gS_spec_l02Own.den ES_spec_l02Own TT AS_spec_l02Own F Try.f46 x1 = S_spec_l02Own x1 := by kernel_rfl
theorem okS_spec_l02Own : SemOK Try.prog Ly 46 (gS_spec_l02Own.sem S_spec_l02Own) := typed_ok2 (A := AS_spec_l02Own) (F := F) ⟨tok, eqs, Tr.All.get (t := ES_spec_l02Own) trivial, mix⟩ Try.func46 (by kernel_rfl) (by kernel_rfl) gS_spec_l02Own rfl S_spec_l02Own kS_spec_l02Own
def gS_spec_l02Put : Sig := ⟨⟨numD 0 [.agg [.list .page], .int .i64, .str], [], []⟩, .one (.agg [.list .page]), [], [], false, false, [], []⟩
def ES_spec_l02Put : Tr Sem1 := (.nd 88 (gS_spec_l02Find.sem S_spec_l02Find) (.nd 46 (gS_spec_l02Own.sem S_spec_l02Own) .lf .lf) .lf)
def AS_spec_l02Put : Anns := ⟨(.nd 0 (.loop ⟨[(1, (.int .i64)), (2, .str), (3, (.konst (.ptr 0 0))), (6, (.konst (.ptr 2 0)))], [(.var [(.konst (.vec 1))]), (.row .page), (.var [(.konst .nils)])], []⟩) .lf .lf), .lf, []⟩
theorem kS_spec_l02Put (x1 : gS_spec_l02Put.D.Ty) : gS_spec_l02Put.den ES_spec_l02Put TT AS_spec_l02Put F Try.f73 x1 = S_spec_l02Put x1 := by kernel_rfl
theorem okS_spec_l02Put : SemOK Try.prog Ly 73 (gS_spec_l02Put.sem S_spec_l02Put) := typed_ok2 (A := AS_spec_l02Put) (F := F) ⟨tok, eqs, Tr.All.get (t := ES_spec_l02Put) ⟨okS_spec_l02Find, ⟨okS_spec_l02Own, trivial, trivial⟩, trivial⟩, mix⟩ Try.func73 (by kernel_rfl) (by kernel_rfl) gS_spec_l02Put rfl S_spec_l02Put kS_spec_l02Put
def gS_spec_l02Store : Sig := ⟨⟨numD 0 [.agg [.list .page], .int .i64, .int .i64, .int .i64], [], []⟩, .tup [.agg [.list .page], .int .i64], [], [], false, false, [], []⟩
def ES_spec_l02Store : Tr Sem1 := (.nd 73 (gS_spec_l02Put.sem S_spec_l02Put) (.nd 61 (gS_spec_l02Fault.sem S_spec_l02Fault) .lf .lf) (.nd 74 (gS_spec_l01Little.sem S_spec_l01Little) .lf .lf))
def AS_spec_l02Store : Anns := ⟨.lf, .lf, []⟩
theorem kS_spec_l02Store (x1 : gS_spec_l02Store.D.Ty) : gS_spec_l02Store.den ES_spec_l02Store TT AS_spec_l02Store F Try.f45 x1 = S_spec_l02Store x1 := by kernel_rfl
theorem okS_spec_l02Store : SemOK Try.prog Ly 45 (gS_spec_l02Store.sem S_spec_l02Store) := typed_ok2 (A := AS_spec_l02Store) (F := F) ⟨tok, eqs, Tr.All.get (t := ES_spec_l02Store) ⟨okS_spec_l02Put, ⟨okS_spec_l02Fault, trivial, trivial⟩, ⟨okS_spec_l01Little, trivial, trivial⟩⟩, mix⟩ Try.func45 (by kernel_rfl) (by kernel_rfl) gS_spec_l02Store rfl S_spec_l02Store kS_spec_l02Store
def gS_spec_StoreAt : Sig := ⟨⟨numD 0 [.agg [.list .page], .int .i64, .int .i64, .int .i64], [], []⟩, .tup [.agg [.list .page], .int .i64], [], [], false, false, [], []⟩
def ES_spec_StoreAt : Tr Sem1 := (.nd 45 (gS_spec_l02Store.sem S_spec_l02Store) (.nd 34 (gS_spec_l01Size.sem S_spec_l01Size) (.nd 33 (gS_spec_MemoryOK.sem S_spec_MemoryOK) .lf .lf) .lf) (.nd 46 (gS_spec_l02Own.sem S_spec_l02Own) .lf .lf))
def AS_spec_StoreAt : Anns := ⟨.lf, .lf, []⟩
theorem kS_spec_StoreAt (x1 : gS_spec_StoreAt.D.Ty) : gS_spec_StoreAt.den ES_spec_StoreAt TT AS_spec_StoreAt F Try.f22 x1 = S_spec_StoreAt x1 := by kernel_rfl
theorem okS_spec_StoreAt : SemOK Try.prog Ly 22 (gS_spec_StoreAt.sem S_spec_StoreAt) := typed_ok2 (A := AS_spec_StoreAt) (F := F) ⟨tok, eqs, Tr.All.get (t := ES_spec_StoreAt) ⟨okS_spec_l02Store, ⟨okS_spec_l01Size, ⟨okS_spec_MemoryOK, trivial, trivial⟩, trivial⟩, ⟨okS_spec_l02Own, trivial, trivial⟩⟩, mix⟩ Try.func22 (by kernel_rfl) (by kernel_rfl) gS_spec_StoreAt rfl S_spec_StoreAt kS_spec_StoreAt
def gS_slices_Equal_implPage : Sig := ⟨⟨numD 0 [.list .page, .list .page], [], []⟩, .one (.bool), [], [], false, false, [], []⟩
def ES_slices_Equal_implPage : Tr Sem1 := .lf
def AS_slices_Equal_implPage : Anns := ⟨(.nd 0 (.loop ⟨[(0, (.list .page)), (1, (.list .page)), (12, (.int .i64)), (13, (.int .i64))], [], []⟩) .lf .lf), .lf, []⟩
theorem kS_slices_Equal_implPage (x1 : gS_slices_Equal_implPage.D.Ty) : gS_slices_Equal_implPage.den ES_slices_Equal_implPage TT AS_slices_Equal_implPage F Try.f47 x1 = S_slices_Equal_implPage x1 := by kernel_rfl
theorem okS_slices_Equal_implPage : SemOK Try.prog Ly 47 (gS_slices_Equal_implPage.sem S_slices_Equal_implPage) := typed_ok2 (A := AS_slices_Equal_implPage) (F := F) ⟨tok, eqs, Tr.All.get (t := ES_slices_Equal_implPage) trivial, mix⟩ Try.func47 (by kernel_rfl) (by kernel_rfl) gS_slices_Equal_implPage rfl S_slices_Equal_implPage kS_slices_Equal_implPage
def gS_impl_SameMemory : Sig := ⟨⟨numD 0 [.agg [.list .page], .agg [.list .page]], [], []⟩, .one (.bool), [], [], false, false, [], []⟩
def ES_impl_SameMemory : Tr Sem1 := (.nd 47 (gS_slices_Equal_implPage.sem S_slices_Equal_implPage) (.nd 29 (gS_impl_MemoryOK.sem S_impl_MemoryOK) .lf .lf) .lf)
def AS_impl_SameMemory : Anns := ⟨.lf, .lf, []⟩
theorem kS_impl_SameMemory (x1 : gS_impl_SameMemory.D.Ty) : gS_impl_SameMemory.den ES_impl_SameMemory TT AS_impl_SameMemory F Try.f23 x1 = S_impl_SameMemory x1 := by kernel_rfl
theorem okS_impl_SameMemory : SemOK Try.prog Ly 23 (gS_impl_SameMemory.sem S_impl_SameMemory) := typed_ok2 (A := AS_impl_SameMemory) (F := F) ⟨tok, eqs, Tr.All.get (t := ES_impl_SameMemory) ⟨okS_slices_Equal_implPage, ⟨okS_impl_MemoryOK, trivial, trivial⟩, trivial⟩, mix⟩ Try.func23 (by kernel_rfl) (by kernel_rfl) gS_impl_SameMemory rfl S_impl_SameMemory kS_impl_SameMemory
def gS_impl_Memory_bytes : Sig := ⟨⟨numD 0 [.agg [.list .page], .int .i64, .int .i64], [], []⟩, .one (.str), [], [], false, false, [], []⟩
def ES_impl_Memory_bytes : Tr Sem1 := (.nd 52 (gS_impl_Memory_pageOf.sem S_impl_Memory_pageOf) .lf .lf)
def AS_impl_Memory_bytes : Anns := ⟨(.nd 0 (.loop ⟨[(1, (.int .i64)), (3, (.konst (.ptr 0 0))), (7, (.konst (.vec 1))), (12, (.int .i64)), (13, (.int .i64))], [(.var [(.list .page)]), (.row .u)], []⟩) .lf .lf), .lf, []⟩
theorem kS_impl_Memory_bytes (x1 : gS_impl_Memory_bytes.D.Ty) : gS_impl_Memory_bytes.den ES_impl_Memory_bytes TT AS_impl_Memory_bytes F Try.f57 x1 = S_impl_Memory_bytes x1 := by kernel_rfl
theorem okS_impl_Memory_bytes : SemOK Try.prog Ly 57 (gS_impl_Memory_bytes.sem S_impl_Memory_bytes) := typed_ok2 (A := AS_impl_Memory_bytes) (F := F) ⟨tok, eqs, Tr.All.get (t := ES_impl_Memory_bytes) ⟨okS_impl_Memory_pageOf, trivial, trivial⟩, mix⟩ Try.func57 (by kernel_rfl) (by kernel_rfl) gS_impl_Memory_bytes rfl S_impl_Memory_bytes kS_impl_Memory_bytes
def gS_impl_take : Sig := ⟨⟨numD 0 [.str], [], []⟩, .one (.int .i64), [], [], false, false, [], []⟩
def ES_impl_take : Tr Sem1 := .lf
def AS_impl_take : Anns := ⟨(.nd 0 (.loop ⟨[(0, .str), (3, (.int .i64)), (6, (.int .i64)), (7, (.int .i64))], [], []⟩) .lf .lf), .lf, []⟩
theorem kS_impl_take (x1 : gS_impl_take.D.Ty) : gS_impl_take.den ES_impl_take TT AS_impl_take F Try.f65 x1 = S_impl_take x1 := by kernel_rfl
theorem okS_impl_take : SemOK Try.prog Ly 65 (gS_impl_take.sem S_impl_take) := typed_ok2 (A := AS_impl_take) (F := F) ⟨tok, eqs, Tr.All.get (t := ES_impl_take) trivial, mix⟩ Try.func65 (by kernel_rfl) (by kernel_rfl) gS_impl_take rfl S_impl_take kS_impl_take
def gS_impl_Memory_load : Sig := ⟨⟨numD 0 [.agg [.list .page], .int .i64, .int .i64], [], []⟩, .tup [.int .i64, .int .i64], [], [], false, false, [], []⟩
def ES_impl_Memory_load : Tr Sem1 := (.nd 57 (gS_impl_Memory_bytes.sem S_impl_Memory_bytes) (.nd 56 (gS_impl_Memory_fault.sem S_impl_Memory_fault) .lf .lf) (.nd 65 (gS_impl_take.sem S_impl_take) .lf .lf))
def AS_impl_Memory_load : Anns := ⟨.lf, .lf, []⟩
theorem kS_impl_Memory_load (x1 : gS_impl_Memory_load.D.Ty) : gS_impl_Memory_load.den ES_impl_Memory_load TT AS_impl_Memory_load F Try.f38 x1 = S_impl_Memory_load x1 := by kernel_rfl
theorem okS_impl_Memory_load : SemOK Try.prog Ly 38 (gS_impl_Memory_load.sem S_impl_Memory_load) := typed_ok2 (A := AS_impl_Memory_load) (F := F) ⟨tok, eqs, Tr.All.get (t := ES_impl_Memory_load) ⟨okS_impl_Memory_bytes, ⟨okS_impl_Memory_fault, trivial, trivial⟩, ⟨okS_impl_take, trivial, trivial⟩⟩, mix⟩ Try.func38 (by kernel_rfl) (by kernel_rfl) gS_impl_Memory_load rfl S_impl_Memory_load kS_impl_Memory_load
def gS_impl_LoadAt : Sig := ⟨⟨numD 0 [.agg [.list .page], .int .i64, .int .i64], [], []⟩, .tup [.int .i64, .int .i64], [], [], false, false, [], []⟩
def ES_impl_LoadAt : Tr Sem1 := (.nd 37 (gS_impl_isSize.sem S_impl_isSize) (.nd 29 (gS_impl_MemoryOK.sem S_impl_MemoryOK) .lf .lf) (.nd 38 (gS_impl_Memory_load.sem S_impl_Memory_load) .lf .lf))
def AS_impl_LoadAt : Anns := ⟨.lf, .lf, []⟩
theorem kS_impl_LoadAt (x1 : gS_impl_LoadAt.D.Ty) : gS_impl_LoadAt.den ES_impl_LoadAt TT AS_impl_LoadAt F Try.f15 x1 = S_impl_LoadAt x1 := by kernel_rfl
theorem okS_impl_LoadAt : SemOK Try.prog Ly 15 (gS_impl_LoadAt.sem S_impl_LoadAt) := typed_ok2 (A := AS_impl_LoadAt) (F := F) ⟨tok, eqs, Tr.All.get (t := ES_impl_LoadAt) ⟨okS_impl_isSize, ⟨okS_impl_MemoryOK, trivial, trivial⟩, ⟨okS_impl_Memory_load, trivial, trivial⟩⟩, mix⟩ Try.func15 (by kernel_rfl) (by kernel_rfl) gS_impl_LoadAt rfl S_impl_LoadAt kS_impl_LoadAt
def gS_impl_zero : Sig := ⟨⟨numD 0 [.int .i64, .int .i64], [], []⟩, .one (.int .i64), [], [], false, false, [], []⟩
def ES_impl_zero : Tr Sem1 := .lf
def AS_impl_zero : Anns := ⟨.lf, .lf, []⟩
theorem kS_impl_zero (x1 : gS_impl_zero.D.Ty) : gS_impl_zero.den ES_impl_zero TT AS_impl_zero F Try.f48 x1 = S_impl_zero x1 := by kernel_rfl
theorem okS_impl_zero : SemOK Try.prog Ly 48 (gS_impl_zero.sem S_impl_zero) := typed_ok2 (A := AS_impl_zero) (F := F) ⟨tok, eqs, Tr.All.get (t := ES_impl_zero) trivial, mix⟩ Try.func48 (by kernel_rfl) (by kernel_rfl) gS_impl_zero rfl S_impl_zero kS_impl_zero
def gS_impl_ZeroOf : Sig := ⟨⟨numD 0 [.int .i64, .int .i64], [], []⟩, .tup [.int .i64, .int .i64], [], [], false, false, [], []⟩
def ES_impl_ZeroOf : Tr Sem1 := (.nd 48 (gS_impl_zero.sem S_impl_zero) (.nd 37 (gS_impl_isSize.sem S_impl_isSize) .lf .lf) .lf)
def AS_impl_ZeroOf : Anns := ⟨.lf, .lf, []⟩
theorem kS_impl_ZeroOf (x1 : gS_impl_ZeroOf.D.Ty) : gS_impl_ZeroOf.den ES_impl_ZeroOf TT AS_impl_ZeroOf F Try.f24 x1 = S_impl_ZeroOf x1 := by kernel_rfl
theorem okS_impl_ZeroOf : SemOK Try.prog Ly 24 (gS_impl_ZeroOf.sem S_impl_ZeroOf) := typed_ok2 (A := AS_impl_ZeroOf) (F := F) ⟨tok, eqs, Tr.All.get (t := ES_impl_ZeroOf) ⟨okS_impl_zero, ⟨okS_impl_isSize, trivial, trivial⟩, trivial⟩, mix⟩ Try.func24 (by kernel_rfl) (by kernel_rfl) gS_impl_ZeroOf rfl S_impl_ZeroOf kS_impl_ZeroOf
def gS_impl_PutLittle : Sig := ⟨⟨numD 0 [.int .i64, .int .i64], [], []⟩, .tup [.str, .int .i64], [], [], false, false, [], []⟩
def ES_impl_PutLittle : Tr Sem1 := (.nd 49 (gS_impl_little.sem S_impl_little) (.nd 37 (gS_impl_isSize.sem S_impl_isSize) .lf .lf) .lf)
def AS_impl_PutLittle : Anns := ⟨.lf, .lf, []⟩
theorem kS_impl_PutLittle (x1 : gS_impl_PutLittle.D.Ty) : gS_impl_PutLittle.den ES_impl_PutLittle TT AS_impl_PutLittle F Try.f25 x1 = S_impl_PutLittle x1 := by kernel_rfl
theorem okS_impl_PutLittle : SemOK Try.prog Ly 25 (gS_impl_PutLittle.sem S_impl_PutLittle) := typed_ok2 (A := AS_impl_PutLittle) (F := F) ⟨tok, eqs, Tr.All.get (t := ES_impl_PutLittle) ⟨okS_impl_little, ⟨okS_impl_isSize, trivial, trivial⟩, trivial⟩, mix⟩ Try.func25 (by kernel_rfl) (by kernel_rfl) gS_impl_PutLittle rfl S_impl_PutLittle kS_impl_PutLittle
def gS_laws_FnMemory : Sig := ⟨⟨numD 0 [.list .u, .list .u], [], []⟩, .one (.bool), [], [], false, false, [], []⟩
def ES_laws_FnMemory : Tr Sem1 := (.nd 21 (gS_impl_StoreAt.sem S_impl_StoreAt) (.nd 18 (gS_laws_sizeAt.sem S_laws_sizeAt) (.nd 17 (gS_spec_MemoryDrawn.sem S_spec_MemoryDrawn) (.nd 15 (gS_impl_LoadAt.sem S_impl_LoadAt) .lf .lf) .lf) (.nd 20 (gS_spec_NumberOf.sem S_spec_NumberOf) (.nd 19 (gS_spec_AddressDrawn.sem S_spec_AddressDrawn) .lf .lf) .lf)) (.nd 24 (gS_impl_ZeroOf.sem S_impl_ZeroOf) (.nd 23 (gS_impl_SameMemory.sem S_impl_SameMemory) (.nd 22 (gS_spec_StoreAt.sem S_spec_StoreAt) .lf .lf) .lf) (.nd 25 (gS_impl_PutLittle.sem S_impl_PutLittle) .lf .lf)))
def AS_laws_FnMemory : Anns := ⟨(.nd 2 (.loop ⟨[(5, (.konst (.ptr 0 0))), (6, (.int .i64)), (7, (.int .i64)), (9, (.konst (.ptr 1 0))), (17, .str), (19, (.int .i64)), (20, (.konst (.ptr 2 0))), (21, .str), (22, .str), (23, (.int .i64))], [(.var [(.list .page)]), (.var [(.list .page)]), (.var [(.int .i64), (.int .i64), .str])], []⟩) (.nd 0 (.loop ⟨[(5, (.konst (.ptr 0 0))), (6, (.int .i64)), (7, (.int .i64)), (9, (.konst (.ptr 1 0))), (17, .str), (19, (.int .i64))], [(.var [(.list .page)]), (.var [(.list .page)])], []⟩) .lf .lf) .lf), (.nd 342 ⟨[(5, (.konst (.ptr 0 0))), (6, (.int .i64)), (7, (.int .i64)), (9, (.konst (.ptr 1 0))), (17, .str), (19, (.int .i64)), (20, (.konst (.ptr 2 0))), (21, .str), (22, .str), (23, (.int .i64)), (25, (.int .u8))], [(.var [(.list .page)]), (.var [(.list .page)]), (.var [(.int .i64), (.int .i64), .str])], []⟩ .lf .lf), []⟩
theorem kS_laws_FnMemory (x1 : gS_laws_FnMemory.D.Ty) : gS_laws_FnMemory.den ES_laws_FnMemory TT AS_laws_FnMemory F Try.f5 x1 = S_laws_FnMemory x1 := by kernel_rfl
theorem okS_laws_FnMemory : SemOK Try.prog Ly 5 (gS_laws_FnMemory.sem S_laws_FnMemory) := typed_ok2 (A := AS_laws_FnMemory) (F := F) ⟨tok, eqs, Tr.All.get (t := ES_laws_FnMemory) ⟨okS_impl_StoreAt, ⟨okS_laws_sizeAt, ⟨okS_spec_MemoryDrawn, ⟨okS_impl_LoadAt, trivial, trivial⟩, trivial⟩, ⟨okS_spec_NumberOf, ⟨okS_spec_AddressDrawn, trivial, trivial⟩, trivial⟩⟩, ⟨okS_impl_ZeroOf, ⟨okS_impl_SameMemory, ⟨okS_spec_StoreAt, trivial, trivial⟩, trivial⟩, ⟨okS_impl_PutLittle, trivial, trivial⟩⟩⟩, mix⟩ Try.func5 (by kernel_rfl) (by kernel_rfl) gS_laws_FnMemory rfl S_laws_FnMemory kS_laws_FnMemory
end Go.Proofs.Ytkdcimbonbjljaa.Memory
