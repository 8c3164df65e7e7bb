/- Theory for the proofs of this claim: see its last text. -/
import Derived.Test.YtkdcimbonbjljaaFnLoadAt
import Derived.Test.YtkdcimbonbjljaaDenE
import Derived.Test.YtkdcimbonbjljaaProg
import Derived.KernelRfl
set_option maxRecDepth 100000
set_option linter.unusedVariables false
namespace Go.Proofs.Ytkdcimbonbjljaa.LoadAt
open Go Go.Den Go.Den.G Go.Proofs Go.Proofs.Ytkdcimbonbjljaa
def TT : Tr TI := (.nd 63 ⟨.fn, 1, 8, [.nilf], none, false⟩ (.nd 32 ⟨.fn, 1, 8, [.nilf], none, false⟩ (.nd 15 ⟨.ptr 118, 1, 8, [.nilp], none, false⟩ (.nd 8 ⟨.struct [(0, 2), (1, 3), (2, 4), (3, 6)], 4, 24, [.int .i64 0, .int .i64 0, .bool false, .int .u8 0], none, false⟩ (.nd 4 ⟨.bool, 1, 1, [.bool false], some .b, false⟩ (.nd 2 ⟨.int .i64, 1, 8, [.int .i64 0], some .i, false⟩ (.nd 1 ⟨.fn, 1, 8, [.nilf], none, false⟩ .lf .lf) (.nd 3 ⟨.int .i64, 1, 8, [.int .i64 0], some .i, false⟩ .lf .lf)) (.nd 6 ⟨.int .u8, 1, 1, [.int .u8 0], some .u, false⟩ (.nd 5 ⟨.int .u8, 1, 1, [.int .u8 0], some .u, false⟩ .lf .lf) (.nd 7 ⟨.struct [(0, 2), (1, 3), (2, 4), (3, 6)], 4, 24, [.int .i64 0, .int .i64 0, .bool false, .int .u8 0], none, false⟩ .lf .lf))) (.nd 12 ⟨.int .u64, 1, 8, [.int .u64 0], none, false⟩ (.nd 10 ⟨.str, 1, 16, [.str []], some .s, false⟩ (.nd 9 ⟨.str, 1, 16, [.str []], some .s, false⟩ .lf .lf) (.nd 11 ⟨.str, 1, 16, [.str []], some .s, false⟩ .lf .lf)) (.nd 14 ⟨.struct [(0, 9), (1, 12)], 2, 24, [.str [], .int .u64 0], none, false⟩ (.nd 13 ⟨.struct [(0, 9), (1, 12)], 2, 24, [.str [], .int .u64 0], none, false⟩ .lf .lf) .lf))) (.nd 24 ⟨.fn, 1, 8, [.nilf], none, false⟩ (.nd 19 ⟨.struct [(0, 17)], 1, 8, [.nilp], none, false⟩ (.nd 17 ⟨.ptr 128, 1, 8, [.nilp], none, false⟩ (.nd 16 ⟨.ptr 121, 1, 8, [.nilp], none, false⟩ .lf .lf) (.nd 18 ⟨.struct [(0, 17)], 1, 8, [.nilp], none, false⟩ .lf .lf)) (.nd 22 ⟨.slice 3, 1, 24, [.nils], none, false⟩ (.nd 21 ⟨.int .i32, 1, 4, [.int .i32 0], none, false⟩ .lf .lf) (.nd 23 ⟨.fn, 1, 8, [.nilf], none, false⟩ .lf .lf))) (.nd 28 ⟨.struct [(0, 27)], 1, 24, [.nils], none, false⟩ (.nd 26 ⟨.fn, 1, 8, [.nilf], none, false⟩ (.nd 25 ⟨.fn, 1, 8, [.nilf], none, false⟩ .lf .lf) (.nd 27 ⟨.slice 73, 1, 24, [.nils], none, false⟩ .lf .lf)) (.nd 30 ⟨.fn, 1, 8, [.nilf], none, false⟩ (.nd 29 ⟨.struct [(0, 27)], 1, 24, [.nils], none, false⟩ .lf .lf) .lf)))) (.nd 49 ⟨.struct [(0, 3), (1, 3), (2, 9)], 3, 32, [.int .i64 0, .int .i64 0, .str []], some .page, true⟩ (.nd 40 ⟨.fn, 1, 8, [.nilf], none, false⟩ (.nd 36 ⟨.fn, 1, 8, [.nilf], none, false⟩ (.nd 34 ⟨.struct [(0, 33)], 1, 24, [.nils], none, false⟩ (.nd 33 ⟨.slice 49, 1, 24, [.nils], none, false⟩ .lf .lf) (.nd 35 ⟨.struct [(0, 33)], 1, 24, [.nils], none, false⟩ .lf .lf)) (.nd 38 ⟨.fn, 1, 8, [.nilf], none, false⟩ (.nd 37 ⟨.fn, 1, 8, [.nilf], none, false⟩ .lf .lf) (.nd 39 ⟨.slice 5, 1, 24, [.nils], none, false⟩ .lf .lf))) (.nd 45 ⟨.fn, 1, 8, [.nilf], none, false⟩ (.nd 42 ⟨.fn, 1, 8, [.nilf], none, false⟩ (.nd 41 ⟨.fn, 1, 8, [.nilf], none, false⟩ .lf .lf) (.nd 44 ⟨.fn, 1, 8, [.nilf], none, false⟩ .lf .lf)) (.nd 48 ⟨.struct [(0, 3), (1, 3), (2, 9)], 3, 32, [.int .i64 0, .int .i64 0, .str []], none, false⟩ (.nd 47 ⟨.fn, 1, 8, [.nilf], none, false⟩ .lf .lf) .lf))) (.nd 56 ⟨.fn, 1, 8, [.nilf], none, false⟩ (.nd 53 ⟨.fn, 1, 8, [.nilf], none, false⟩ (.nd 51 ⟨.fn, 1, 8, [.nilf], none, false⟩ (.nd 50 ⟨.fn, 1, 8, [.nilf], none, false⟩ .lf .lf) (.nd 52 ⟨.fn, 1, 8, [.nilf], none, false⟩ .lf .lf)) (.nd 55 ⟨.fn, 1, 8, [.nilf], none, false⟩ (.nd 54 ⟨.fn, 1, 8, [.nilf], none, false⟩ .lf .lf) .lf)) (.nd 60 ⟨.ptr 81, 1, 8, [.nilp], none, false⟩ (.nd 58 ⟨.fn, 1, 8, [.nilf], none, false⟩ (.nd 57 ⟨.fn, 1, 8, [.nilf], none, false⟩ .lf .lf) (.nd 59 ⟨.fn, 1, 8, [.nilf], none, false⟩ .lf .lf)) (.nd 62 ⟨.fn, 1, 8, [.nilf], none, false⟩ (.nd 61 ⟨.fn, 1, 8, [.nilf], none, false⟩ .lf .lf) .lf))))) (.nd 94 ⟨.ptr 96, 1, 8, [.nilp], none, false⟩ (.nd 78 ⟨.fn, 1, 8, [.nilf], none, false⟩ (.nd 71 ⟨.fn, 1, 8, [.nilf], none, false⟩ (.nd 67 ⟨.fn, 1, 8, [.nilf], none, false⟩ (.nd 65 ⟨.fn, 1, 8, [.nilf], none, false⟩ (.nd 64 ⟨.fn, 1, 8, [.nilf], none, false⟩ .lf .lf) (.nd 66 ⟨.fn, 1, 8, [.nilf], none, false⟩ .lf .lf)) (.nd 69 ⟨.fn, 1, 8, [.nilf], none, false⟩ (.nd 68 ⟨.fn, 1, 8, [.nilf], none, false⟩ .lf .lf) (.nd 70 ⟨.fn, 1, 8, [.nilf], none, false⟩ .lf .lf))) (.nd 75 ⟨.fn, 1, 8, [.nilf], none, false⟩ (.nd 73 ⟨.struct [(0, 3), (1, 3), (2, 9)], 3, 32, [.int .i64 0, .int .i64 0, .str []], some .page, true⟩ (.nd 72 ⟨.fn, 1, 8, [.nilf], none, false⟩ .lf .lf) (.nd 74 ⟨.fn, 1, 8, [.nilf], none, false⟩ .lf .lf)) (.nd 77 ⟨.fn, 1, 8, [.nilf], none, false⟩ (.nd 76 ⟨.fn, 1, 8, [.nilf], none, false⟩ .lf .lf) .lf))) (.nd 86 ⟨.fn, 1, 8, [.nilf], none, false⟩ (.nd 82 ⟨.fn, 1, 8, [.nilf], none, false⟩ (.nd 80 ⟨.struct [(0, 39), (1, 3), (2, 3)], 3, 40, [.nils, .int .i64 0, .int .i64 0], none, false⟩ (.nd 79 ⟨.fn, 1, 8, [.nilf], none, false⟩ .lf .lf) (.nd 81 ⟨.struct [(0, 39), (1, 3), (2, 3)], 3, 40, [.nils, .int .i64 0, .int .i64 0], none, false⟩ .lf .lf)) (.nd 84 ⟨.fn, 1, 8, [.nilf], none, false⟩ (.nd 83 ⟨.int .u64, 1, 8, [.int .u64 0], none, false⟩ .lf .lf) (.nd 85 ⟨.fn, 1, 8, [.nilf], none, false⟩ .lf .lf))) (.nd 90 ⟨.fn, 1, 8, [.nilf], none, false⟩ (.nd 88 ⟨.fn, 1, 8, [.nilf], none, false⟩ (.nd 87 ⟨.fn, 1, 8, [.nilf], none, false⟩ .lf .lf) (.nd 89 ⟨.fn, 1, 8, [.nilf], none, false⟩ .lf .lf)) (.nd 93 ⟨.fn, 1, 8, [.nilf], none, false⟩ (.nd 92 ⟨.fn, 1, 8, [.nilf], none, false⟩ .lf .lf) .lf)))) (.nd 115 ⟨.fn, 1, 8, [.nilf], none, false⟩ (.nd 105 ⟨.ptr 49, 1, 8, [.nilp], none, false⟩ (.nd 101 ⟨.fn, 1, 8, [.nilf], none, false⟩ (.nd 96 ⟨.struct [(0, 94), (1, 39)], 2, 32, [.nilp, .nils], none, false⟩ (.nd 95 ⟨.struct [(0, 94), (1, 39)], 2, 32, [.nilp, .nils], none, false⟩ .lf .lf) (.nd 97 ⟨.fn, 1, 8, [.nilf], none, false⟩ .lf .lf)) (.nd 103 ⟨.fn, 1, 8, [.nilf], none, false⟩ (.nd 102 ⟨.fn, 1, 8, [.nilf], none, false⟩ .lf .lf) (.nd 104 ⟨.int .u64, 1, 8, [.int .u64 0], none, false⟩ .lf .lf))) (.nd 111 ⟨.fn, 1, 8, [.nilf], none, false⟩ (.nd 107 ⟨.int .u32, 1, 4, [.int .u32 0], none, false⟩ (.nd 106 ⟨.fn, 1, 8, [.nilf], none, false⟩ .lf .lf) (.nd 109 ⟨.fn, 1, 8, [.nilf], none, false⟩ .lf .lf)) (.nd 114 ⟨.fn, 1, 8, [.nilf], none, false⟩ (.nd 112 ⟨.ptr 5, 1, 8, [.nilp], none, false⟩ .lf .lf) .lf))) (.nd 122 ⟨.int .u8, 1, 1, [.int .u8 0], some .u, false⟩ (.nd 119 ⟨.array 0 16, 0, 0, [], none, false⟩ (.nd 117 ⟨.struct [(0, 17), (1, 17), (2, 17), (3, 9)], 4, 40, [.nilp, .nilp, .nilp, .str []], none, false⟩ (.nd 116 ⟨.fn, 1, 8, [.nilf], none, false⟩ .lf .lf) (.nd 118 ⟨.struct [(0, 17), (1, 17), (2, 17), (3, 9)], 4, 40, [.nilp, .nilp, .nilp, .str []], none, false⟩ .lf .lf)) (.nd 121 ⟨.struct [(0, 119)], 0, 0, [], none, false⟩ (.nd 120 ⟨.struct [(0, 119)], 0, 0, [], none, false⟩ .lf .lf) .lf)) (.nd 126 ⟨.int .i32, 1, 4, [.int .i32 0], none, false⟩ (.nd 124 ⟨.fn, 1, 8, [.nilf], none, false⟩ (.nd 123 ⟨.int .u8, 1, 1, [.int .u8 0], some .u, false⟩ .lf .lf) (.nd 125 ⟨.int .i32, 1, 4, [.int .i32 0], none, false⟩ .lf .lf)) (.nd 128 ⟨.struct [(0, 12), (1, 12), (2, 107), (3, 122), (4, 5), (5, 5), (6, 123), (7, 124), (8, 112), (9, 125), (10, 126)], 11, 48, [.int .u64 0, .int .u64 0, .int .u32 0, .int .u8 0, .int .u8 0, .int .u8 0, .int .u8 0, .nilf, .nilp, .int .i32 0, .int .i32 0], none, false⟩ (.nd 127 ⟨.struct [(0, 12), (1, 12), (2, 107), (3, 122), (4, 5), (5, 5), (6, 123), (7, 124), (8, 112), (9, 125), (10, 126)], 11, 48, [.int .u64 0, .int .u64 0, .int .u32 0, .int .u8 0, .int .u8 0, .int .u8 0, .int .u8 0, .nilf, .nilp, .int .i32 0, .int .i32 0], none, false⟩ .lf .lf) .lf))))))
theorem tok : TOK Try.prog TT := by unfold TOK; kernel_rfl
theorem eqs : EqAgg Try.prog TT := eqTab_ok (by kernel_rfl)
theorem mix : Try.prog.follows .mixedOrders = true := by kernel_rfl
def gS_laws_szPage : Sig := ⟨⟨numD 0 [.el .page, .int .i64], [], []⟩, .one (.int .i64), [], [], false⟩
def ES_laws_szPage : Tr Sem1 := .lf
def AS_laws_szPage : Anns := ⟨.lf, .lf⟩
theorem kS_laws_szPage (x1 : gS_laws_szPage.D.Ty) : gS_laws_szPage.den ES_laws_szPage TT AS_laws_szPage F Try.f58 x1 = S_laws_szPage x1 := by kernel_rfl
theorem okS_laws_szPage : SemOK Try.prog 58 (gS_laws_szPage.sem S_laws_szPage) := typed_ok2 (A := AS_laws_szPage) (F := F) ⟨tok, eqs, Tr.All.get (t := ES_laws_szPage) trivial, mix⟩ Try.func58 (by kernel_rfl) (by kernel_rfl) gS_laws_szPage rfl S_laws_szPage kS_laws_szPage
def gS_laws_szPageS : Sig := ⟨⟨numD 0 [.list .page, .int .i64], [], []⟩, .one (.int .i64), [], [], false⟩
def ES_laws_szPageS : Tr Sem1 := (.nd 58 (gS_laws_szPage.sem S_laws_szPage) .lf .lf)
def AS_laws_szPageS : Anns := ⟨(.nd 0 (.loop ⟨[(0, (.list .page)), (1, (.int .i64)), (5, (.int .i64))], [], []⟩) .lf .lf), .lf⟩
theorem kS_laws_szPageS (x1 : gS_laws_szPageS.D.Ty) : gS_laws_szPageS.den ES_laws_szPageS TT AS_laws_szPageS F Try.f32 x1 = S_laws_szPageS x1 := by kernel_rfl
theorem okS_laws_szPageS : SemOK Try.prog 32 (gS_laws_szPageS.sem S_laws_szPageS) := typed_ok2 (A := AS_laws_szPageS) (F := F) ⟨tok, eqs, Tr.All.get (t := ES_laws_szPageS) ⟨okS_laws_szPage, trivial, trivial⟩, mix⟩ Try.func32 (by kernel_rfl) (by kernel_rfl) gS_laws_szPageS rfl S_laws_szPageS kS_laws_szPageS
def gS_laws_szMemory : Sig := ⟨⟨numD 0 [.agg [.list .page], .int .i64], [], []⟩, .one (.int .i64), [], [], false⟩
def ES_laws_szMemory : Tr Sem1 := (.nd 32 (gS_laws_szPageS.sem S_laws_szPageS) .lf .lf)
def AS_laws_szMemory : Anns := ⟨.lf, .lf⟩
theorem kS_laws_szMemory (x1 : gS_laws_szMemory.D.Ty) : gS_laws_szMemory.den ES_laws_szMemory TT AS_laws_szMemory F Try.f12 x1 = S_laws_szMemory x1 := by kernel_rfl
theorem okS_laws_szMemory : SemOK Try.prog 12 (gS_laws_szMemory.sem S_laws_szMemory) := typed_ok2 (A := AS_laws_szMemory) (F := F) ⟨tok, eqs, Tr.All.get (t := ES_laws_szMemory) ⟨okS_laws_szPageS, trivial, trivial⟩, mix⟩ Try.func12 (by kernel_rfl) (by kernel_rfl) gS_laws_szMemory rfl S_laws_szMemory kS_laws_szMemory
def gS_laws_toPage : Sig := ⟨⟨numD 0 [.el .page], [], []⟩, .one (.el .page), [], [], false⟩
def ES_laws_toPage : Tr Sem1 := .lf
def AS_laws_toPage : Anns := ⟨.lf, .lf⟩
theorem kS_laws_toPage (x1 : gS_laws_toPage.D.Ty) : gS_laws_toPage.den ES_laws_toPage TT AS_laws_toPage F Try.f64 x1 = S_laws_toPage x1 := by kernel_rfl
theorem okS_laws_toPage : SemOK Try.prog 64 (gS_laws_toPage.sem S_laws_toPage) := typed_ok2 (A := AS_laws_toPage) (F := F) ⟨tok, eqs, Tr.All.get (t := ES_laws_toPage) trivial, mix⟩ Try.func64 (by kernel_rfl) (by kernel_rfl) gS_laws_toPage rfl S_laws_toPage kS_laws_toPage
def gS_laws_toPageS : Sig := ⟨⟨numD 0 [.list .page], [], []⟩, .one (.list .page), [], [], false⟩
def ES_laws_toPageS : Tr Sem1 := (.nd 64 (gS_laws_toPage.sem S_laws_toPage) .lf .lf)
def AS_laws_toPageS : Anns := ⟨(.nd 0 (.loop ⟨[(0, (.list .page)), (3, (.konst (.vec 0))), (4, (.int .i64))], [(.row .page)], []⟩) .lf .lf), .lf⟩
theorem kS_laws_toPageS (x1 : gS_laws_toPageS.D.Ty) : gS_laws_toPageS.den ES_laws_toPageS TT AS_laws_toPageS F Try.f36 x1 = S_laws_toPageS x1 := by kernel_rfl
theorem okS_laws_toPageS : SemOK Try.prog 36 (gS_laws_toPageS.sem S_laws_toPageS) := typed_ok2 (A := AS_laws_toPageS) (F := F) ⟨tok, eqs, Tr.All.get (t := ES_laws_toPageS) ⟨okS_laws_toPage, trivial, trivial⟩, mix⟩ Try.func36 (by kernel_rfl) (by kernel_rfl) gS_laws_toPageS rfl S_laws_toPageS kS_laws_toPageS
def gS_laws_toMemory : Sig := ⟨⟨numD 0 [.agg [.list .page]], [], []⟩, .one (.agg [.list .page]), [], [], false⟩
def ES_laws_toMemory : Tr Sem1 := (.nd 36 (gS_laws_toPageS.sem S_laws_toPageS) .lf .lf)
def AS_laws_toMemory : Anns := ⟨.lf, .lf⟩
theorem kS_laws_toMemory (x1 : gS_laws_toMemory.D.Ty) : gS_laws_toMemory.den ES_laws_toMemory TT AS_laws_toMemory F Try.f14 x1 = S_laws_toMemory x1 := by kernel_rfl
theorem okS_laws_toMemory : SemOK Try.prog 14 (gS_laws_toMemory.sem S_laws_toMemory) := typed_ok2 (A := AS_laws_toMemory) (F := F) ⟨tok, eqs, Tr.All.get (t := ES_laws_toMemory) ⟨okS_laws_toPageS, trivial, trivial⟩, mix⟩ Try.func14 (by kernel_rfl) (by kernel_rfl) gS_laws_toMemory rfl S_laws_toMemory kS_laws_toMemory
def gS_spec_l01In : Sig := ⟨⟨numD 0 [.int .i64, .int .i64, .int .i64], [], []⟩, .one (.bool), [], [], false⟩
def ES_spec_l01In : Tr Sem1 := .lf
def AS_spec_l01In : Anns := ⟨.lf, .lf⟩
theorem kS_spec_l01In (x1 : gS_spec_l01In.D.Ty) : gS_spec_l01In.den ES_spec_l01In TT AS_spec_l01In F Try.f87 x1 = S_spec_l01In x1 := by kernel_rfl
theorem okS_spec_l01In : SemOK Try.prog 87 (gS_spec_l01In.sem S_spec_l01In) := typed_ok2 (A := AS_spec_l01In) (F := F) ⟨tok, eqs, Tr.All.get (t := ES_spec_l01In) trivial, mix⟩ Try.func87 (by kernel_rfl) (by kernel_rfl) gS_spec_l01In rfl S_spec_l01In kS_spec_l01In
def gS_spec_l02Base : Sig := ⟨⟨numD 0 [.int .i64], [], []⟩, .one (.bool), [], [], false⟩
def ES_spec_l02Base : Tr Sem1 := (.nd 87 (gS_spec_l01In.sem S_spec_l01In) .lf .lf)
def AS_spec_l02Base : Anns := ⟨.lf, .lf⟩
theorem kS_spec_l02Base (x1 : gS_spec_l02Base.D.Ty) : gS_spec_l02Base.den ES_spec_l02Base TT AS_spec_l02Base F Try.f59 x1 = S_spec_l02Base x1 := by kernel_rfl
theorem okS_spec_l02Base : SemOK Try.prog 59 (gS_spec_l02Base.sem S_spec_l02Base) := typed_ok2 (A := AS_spec_l02Base) (F := F) ⟨tok, eqs, Tr.All.get (t := ES_spec_l02Base) ⟨okS_spec_l01In, trivial, trivial⟩, mix⟩ Try.func59 (by kernel_rfl) (by kernel_rfl) gS_spec_l02Base rfl S_spec_l02Base kS_spec_l02Base
def gS_spec_l02Perm : Sig := ⟨⟨numD 0 [.int .i64], [], []⟩, .one (.bool), [], [], false⟩
def ES_spec_l02Perm : Tr Sem1 := (.nd 87 (gS_spec_l01In.sem S_spec_l01In) .lf .lf)
def AS_spec_l02Perm : Anns := ⟨.lf, .lf⟩
theorem kS_spec_l02Perm (x1 : gS_spec_l02Perm.D.Ty) : gS_spec_l02Perm.den ES_spec_l02Perm TT AS_spec_l02Perm F Try.f60 x1 = S_spec_l02Perm x1 := by kernel_rfl
theorem okS_spec_l02Perm : SemOK Try.prog 60 (gS_spec_l02Perm.sem S_spec_l02Perm) := typed_ok2 (A := AS_spec_l02Perm) (F := F) ⟨tok, eqs, Tr.All.get (t := ES_spec_l02Perm) ⟨okS_spec_l01In, trivial, trivial⟩, mix⟩ Try.func60 (by kernel_rfl) (by kernel_rfl) gS_spec_l02Perm rfl S_spec_l02Perm kS_spec_l02Perm
def gS_spec_MemoryOK : Sig := ⟨⟨numD 0 [.agg [.list .page]], [], []⟩, .one (.bool), [], [], false⟩
def ES_spec_MemoryOK : Tr Sem1 := (.nd 60 (gS_spec_l02Perm.sem S_spec_l02Perm) (.nd 59 (gS_spec_l02Base.sem S_spec_l02Base) .lf .lf) .lf)
def AS_spec_MemoryOK : Anns := ⟨(.nd 0 (.loop ⟨[(1, (.konst (.ptr 0 0))), (3, (.int .i64))], [(.var [(.list .page)])], []⟩) .lf .lf), .lf⟩
theorem kS_spec_MemoryOK (x1 : gS_spec_MemoryOK.D.Ty) : gS_spec_MemoryOK.den ES_spec_MemoryOK TT AS_spec_MemoryOK F Try.f33 x1 = S_spec_MemoryOK x1 := by kernel_rfl
theorem okS_spec_MemoryOK : SemOK Try.prog 33 (gS_spec_MemoryOK.sem S_spec_MemoryOK) := typed_ok2 (A := AS_spec_MemoryOK) (F := F) ⟨tok, eqs, Tr.All.get (t := ES_spec_MemoryOK) ⟨okS_spec_l02Perm, ⟨okS_spec_l02Base, trivial, trivial⟩, trivial⟩, mix⟩ Try.func33 (by kernel_rfl) (by kernel_rfl) gS_spec_MemoryOK rfl S_spec_MemoryOK kS_spec_MemoryOK
def gS_spec_l01Size : Sig := ⟨⟨numD 0 [.int .i64], [], []⟩, .one (.bool), [], [], false⟩
def ES_spec_l01Size : Tr Sem1 := .lf
def AS_spec_l01Size : Anns := ⟨.lf, .lf⟩
theorem kS_spec_l01Size (x1 : gS_spec_l01Size.D.Ty) : gS_spec_l01Size.den ES_spec_l01Size TT AS_spec_l01Size F Try.f34 x1 = S_spec_l01Size x1 := by kernel_rfl
theorem okS_spec_l01Size : SemOK Try.prog 34 (gS_spec_l01Size.sem S_spec_l01Size) := typed_ok2 (A := AS_spec_l01Size) (F := F) ⟨tok, eqs, Tr.All.get (t := ES_spec_l01Size) trivial, mix⟩ Try.func34 (by kernel_rfl) (by kernel_rfl) gS_spec_l01Size rfl S_spec_l01Size kS_spec_l01Size
def gS_spec_l02Find : Sig := ⟨⟨numD 0 [.agg [.list .page], .int .i64], [], []⟩, .one (.int .i64), [], [], false⟩
def ES_spec_l02Find : Tr Sem1 := .lf
def AS_spec_l02Find : Anns := ⟨(.nd 0 (.loop ⟨[(1, (.int .i64)), (2, (.konst (.ptr 0 0))), (5, (.int .i64))], [(.var [(.list .page)])], []⟩) .lf .lf), .lf⟩
theorem kS_spec_l02Find (x1 : gS_spec_l02Find.D.Ty) : gS_spec_l02Find.den ES_spec_l02Find TT AS_spec_l02Find F Try.f88 x1 = S_spec_l02Find x1 := by kernel_rfl
theorem okS_spec_l02Find : SemOK Try.prog 88 (gS_spec_l02Find.sem S_spec_l02Find) := typed_ok2 (A := AS_spec_l02Find) (F := F) ⟨tok, eqs, Tr.All.get (t := ES_spec_l02Find) trivial, mix⟩ Try.func88 (by kernel_rfl) (by kernel_rfl) gS_spec_l02Find rfl S_spec_l02Find kS_spec_l02Find
def gS_spec_l02Fault : Sig := ⟨⟨numD 0 [.agg [.list .page], .int .i64, .int .i64, .int .i64], [], []⟩, .one (.int .i64), [], [], false⟩
def ES_spec_l02Fault : Tr Sem1 := (.nd 88 (gS_spec_l02Find.sem S_spec_l02Find) (.nd 87 (gS_spec_l01In.sem S_spec_l01In) .lf .lf) .lf)
def AS_spec_l02Fault : Anns := ⟨(.nd 0 (.loop ⟨[(1, (.int .i64)), (2, (.int .i64)), (3, (.int .i64)), (4, (.konst (.ptr 0 0))), (9, (.int .i64))], [(.var [(.list .page)])], []⟩) .lf .lf), .lf⟩
theorem kS_spec_l02Fault (x1 : gS_spec_l02Fault.D.Ty) : gS_spec_l02Fault.den ES_spec_l02Fault TT AS_spec_l02Fault F Try.f61 x1 = S_spec_l02Fault x1 := by kernel_rfl
theorem okS_spec_l02Fault : SemOK Try.prog 61 (gS_spec_l02Fault.sem S_spec_l02Fault) := typed_ok2 (A := AS_spec_l02Fault) (F := F) ⟨tok, eqs, Tr.All.get (t := ES_spec_l02Fault) ⟨okS_spec_l02Find, ⟨okS_spec_l01In, trivial, trivial⟩, trivial⟩, mix⟩ Try.func61 (by kernel_rfl) (by kernel_rfl) gS_spec_l02Fault rfl S_spec_l02Fault kS_spec_l02Fault
def gS_spec_l02Get : Sig := ⟨⟨numD 0 [.agg [.list .page], .int .i64, .int .i64], [], []⟩, .one (.str), [], [], false⟩
def ES_spec_l02Get : Tr Sem1 := (.nd 88 (gS_spec_l02Find.sem S_spec_l02Find) .lf .lf)
def AS_spec_l02Get : Anns := ⟨(.nd 0 (.loop ⟨[(1, (.int .i64)), (2, (.int .i64)), (3, (.konst (.ptr 0 0))), (7, (.konst (.vec 1))), (8, (.int .i64))], [(.var [(.list .page)]), (.row .u)], []⟩) .lf .lf), .lf⟩
theorem kS_spec_l02Get (x1 : gS_spec_l02Get.D.Ty) : gS_spec_l02Get.den ES_spec_l02Get TT AS_spec_l02Get F Try.f63 x1 = S_spec_l02Get x1 := by kernel_rfl
theorem okS_spec_l02Get : SemOK Try.prog 63 (gS_spec_l02Get.sem S_spec_l02Get) := typed_ok2 (A := AS_spec_l02Get) (F := F) ⟨tok, eqs, Tr.All.get (t := ES_spec_l02Get) ⟨okS_spec_l02Find, trivial, trivial⟩, mix⟩ Try.func63 (by kernel_rfl) (by kernel_rfl) gS_spec_l02Get rfl S_spec_l02Get kS_spec_l02Get
def gS_spec_l01Take : Sig := ⟨⟨numD 0 [.str, .int .i64, .int .i64], [], []⟩, .one (.int .i64), [], [], false⟩
def ES_spec_l01Take : Tr Sem1 := .lf
def AS_spec_l01Take : Anns := ⟨(.nd 0 (.loop ⟨[(0, .str), (1, (.int .i64)), (7, (.int .u64)), (8, (.int .i64))], [], []⟩) .lf .lf), .lf⟩
theorem kS_spec_l01Take (x1 : gS_spec_l01Take.D.Ty) : gS_spec_l01Take.den ES_spec_l01Take TT AS_spec_l01Take F Try.f62 x1 = S_spec_l01Take x1 := by kernel_rfl
theorem okS_spec_l01Take : SemOK Try.prog 62 (gS_spec_l01Take.sem S_spec_l01Take) := typed_ok2 (A := AS_spec_l01Take) (F := F) ⟨tok, eqs, Tr.All.get (t := ES_spec_l01Take) trivial, mix⟩ Try.func62 (by kernel_rfl) (by kernel_rfl) gS_spec_l01Take rfl S_spec_l01Take kS_spec_l01Take
def gS_spec_l02Load : Sig := ⟨⟨numD 0 [.agg [.list .page], .int .i64, .int .i64], [], []⟩, .tup [.int .i64, .int .i64], [], [], false⟩
def ES_spec_l02Load : Tr Sem1 := (.nd 62 (gS_spec_l01Take.sem S_spec_l01Take) (.nd 61 (gS_spec_l02Fault.sem S_spec_l02Fault) .lf .lf) (.nd 63 (gS_spec_l02Get.sem S_spec_l02Get) .lf .lf))
def AS_spec_l02Load : Anns := ⟨.lf, .lf⟩
theorem kS_spec_l02Load (x1 : gS_spec_l02Load.D.Ty) : gS_spec_l02Load.den ES_spec_l02Load TT AS_spec_l02Load F Try.f35 x1 = S_spec_l02Load x1 := by kernel_rfl
theorem okS_spec_l02Load : SemOK Try.prog 35 (gS_spec_l02Load.sem S_spec_l02Load) := typed_ok2 (A := AS_spec_l02Load) (F := F) ⟨tok, eqs, Tr.All.get (t := ES_spec_l02Load) ⟨okS_spec_l01Take, ⟨okS_spec_l02Fault, trivial, trivial⟩, ⟨okS_spec_l02Get, trivial, trivial⟩⟩, mix⟩ Try.func35 (by kernel_rfl) (by kernel_rfl) gS_spec_l02Load rfl S_spec_l02Load kS_spec_l02Load
def gS_spec_LoadAt : Sig := ⟨⟨numD 0 [.agg [.list .page], .int .i64, .int .i64], [], []⟩, .tup [.int .i64, .int .i64], [], [], false⟩
def ES_spec_LoadAt : Tr Sem1 := (.nd 34 (gS_spec_l01Size.sem S_spec_l01Size) (.nd 33 (gS_spec_MemoryOK.sem S_spec_MemoryOK) .lf .lf) (.nd 35 (gS_spec_l02Load.sem S_spec_l02Load) .lf .lf))
def AS_spec_LoadAt : Anns := ⟨.lf, .lf⟩
theorem kS_spec_LoadAt (x1 : gS_spec_LoadAt.D.Ty) : gS_spec_LoadAt.den ES_spec_LoadAt TT AS_spec_LoadAt F Try.f13 x1 = S_spec_LoadAt x1 := by kernel_rfl
theorem okS_spec_LoadAt : SemOK Try.prog 13 (gS_spec_LoadAt.sem S_spec_LoadAt) := typed_ok2 (A := AS_spec_LoadAt) (F := F) ⟨tok, eqs, Tr.All.get (t := ES_spec_LoadAt) ⟨okS_spec_l01Size, ⟨okS_spec_MemoryOK, trivial, trivial⟩, ⟨okS_spec_l02Load, trivial, trivial⟩⟩, mix⟩ Try.func13 (by kernel_rfl) (by kernel_rfl) gS_spec_LoadAt rfl S_spec_LoadAt kS_spec_LoadAt
def gS_impl_within : Sig := ⟨⟨numD 0 [.int .i64, .int .i64, .int .i64], [], []⟩, .one (.bool), [], [], false⟩
def ES_impl_within : Tr Sem1 := .lf
def AS_impl_within : Anns := ⟨.lf, .lf⟩
theorem kS_impl_within (x1 : gS_impl_within.D.Ty) : gS_impl_within.den ES_impl_within TT AS_impl_within F Try.f75 x1 = S_impl_within x1 := by kernel_rfl
theorem okS_impl_within : SemOK Try.prog 75 (gS_impl_within.sem S_impl_within) := typed_ok2 (A := AS_impl_within) (F := F) ⟨tok, eqs, Tr.All.get (t := ES_impl_within) trivial, mix⟩ Try.func75 (by kernel_rfl) (by kernel_rfl) gS_impl_within rfl S_impl_within kS_impl_within
def gS_impl_isBase : Sig := ⟨⟨numD 0 [.int .i64], [], []⟩, .one (.bool), [], [], false⟩
def ES_impl_isBase : Tr Sem1 := (.nd 75 (gS_impl_within.sem S_impl_within) .lf .lf)
def AS_impl_isBase : Anns := ⟨.lf, .lf⟩
theorem kS_impl_isBase (x1 : gS_impl_isBase.D.Ty) : gS_impl_isBase.den ES_impl_isBase TT AS_impl_isBase F Try.f50 x1 = S_impl_isBase x1 := by kernel_rfl
theorem okS_impl_isBase : SemOK Try.prog 50 (gS_impl_isBase.sem S_impl_isBase) := typed_ok2 (A := AS_impl_isBase) (F := F) ⟨tok, eqs, Tr.All.get (t := ES_impl_isBase) ⟨okS_impl_within, trivial, trivial⟩, mix⟩ Try.func50 (by kernel_rfl) (by kernel_rfl) gS_impl_isBase rfl S_impl_isBase kS_impl_isBase
def gS_impl_isPerm : Sig := ⟨⟨numD 0 [.int .i64], [], []⟩, .one (.bool), [], [], false⟩
def ES_impl_isPerm : Tr Sem1 := (.nd 75 (gS_impl_within.sem S_impl_within) .lf .lf)
def AS_impl_isPerm : Anns := ⟨.lf, .lf⟩
theorem kS_impl_isPerm (x1 : gS_impl_isPerm.D.Ty) : gS_impl_isPerm.den ES_impl_isPerm TT AS_impl_isPerm F Try.f51 x1 = S_impl_isPerm x1 := by kernel_rfl
theorem okS_impl_isPerm : SemOK Try.prog 51 (gS_impl_isPerm.sem S_impl_isPerm) := typed_ok2 (A := AS_impl_isPerm) (F := F) ⟨tok, eqs, Tr.All.get (t := ES_impl_isPerm) ⟨okS_impl_within, trivial, trivial⟩, mix⟩ Try.func51 (by kernel_rfl) (by kernel_rfl) gS_impl_isPerm rfl S_impl_isPerm kS_impl_isPerm
def gS_impl_MemoryOK : Sig := ⟨⟨numD 0 [.agg [.list .page]], [], []⟩, .one (.bool), [], [], false⟩
def ES_impl_MemoryOK : Tr Sem1 := (.nd 51 (gS_impl_isPerm.sem S_impl_isPerm) (.nd 50 (gS_impl_isBase.sem S_impl_isBase) .lf .lf) .lf)
def AS_impl_MemoryOK : Anns := ⟨(.nd 0 (.loop ⟨[(1, (.konst (.ptr 0 0))), (6, (.list .page)), (7, (.int .i64)), (8, (.int .i64))], [(.var [(.list .page)])], []⟩) .lf .lf), .lf⟩
theorem kS_impl_MemoryOK (x1 : gS_impl_MemoryOK.D.Ty) : gS_impl_MemoryOK.den ES_impl_MemoryOK TT AS_impl_MemoryOK F Try.f29 x1 = S_impl_MemoryOK x1 := by kernel_rfl
theorem okS_impl_MemoryOK : SemOK Try.prog 29 (gS_impl_MemoryOK.sem S_impl_MemoryOK) := typed_ok2 (A := AS_impl_MemoryOK) (F := F) ⟨tok, eqs, Tr.All.get (t := ES_impl_MemoryOK) ⟨okS_impl_isPerm, ⟨okS_impl_isBase, trivial, trivial⟩, trivial⟩, mix⟩ Try.func29 (by kernel_rfl) (by kernel_rfl) gS_impl_MemoryOK rfl S_impl_MemoryOK kS_impl_MemoryOK
def gS_impl_isSize : Sig := ⟨⟨numD 0 [.int .i64], [], []⟩, .one (.bool), [], [], false⟩
def ES_impl_isSize : Tr Sem1 := .lf
def AS_impl_isSize : Anns := ⟨.lf, .lf⟩
theorem kS_impl_isSize (x1 : gS_impl_isSize.D.Ty) : gS_impl_isSize.den ES_impl_isSize TT AS_impl_isSize F Try.f37 x1 = S_impl_isSize x1 := by kernel_rfl
theorem okS_impl_isSize : SemOK Try.prog 37 (gS_impl_isSize.sem S_impl_isSize) := typed_ok2 (A := AS_impl_isSize) (F := F) ⟨tok, eqs, Tr.All.get (t := ES_impl_isSize) trivial, mix⟩ Try.func37 (by kernel_rfl) (by kernel_rfl) gS_impl_isSize rfl S_impl_isSize kS_impl_isSize
def gS_impl_Memory_pageOf_1 : Sig := ⟨⟨numD 0 [.el .page, .konst (.ptr 0 0)], [.var [.int .i64]], []⟩, .one (.bool), [.var [.int .i64]], [], false⟩
def ES_impl_Memory_pageOf_1 : Tr Sem1 := .lf
def AS_impl_Memory_pageOf_1 : Anns := ⟨.lf, .lf⟩
theorem kS_impl_Memory_pageOf_1 (x1 : gS_impl_Memory_pageOf_1.D.Ty) : gS_impl_Memory_pageOf_1.den ES_impl_Memory_pageOf_1 TT AS_impl_Memory_pageOf_1 F Try.f77 x1 = S_impl_Memory_pageOf_1 x1 := by kernel_rfl
theorem okS_impl_Memory_pageOf_1 : SemOK Try.prog 77 (gS_impl_Memory_pageOf_1.sem S_impl_Memory_pageOf_1) := typed_ok2 (A := AS_impl_Memory_pageOf_1) (F := F) ⟨tok, eqs, Tr.All.get (t := ES_impl_Memory_pageOf_1) trivial, mix⟩ Try.func77 (by kernel_rfl) (by kernel_rfl) gS_impl_Memory_pageOf_1 rfl S_impl_Memory_pageOf_1 kS_impl_Memory_pageOf_1
def gS_slices_IndexFunc_implPage_cimpl_Memory_pageOf_1 : Sig := ⟨⟨numD 0 [.list .page, .konst (.func (.func 77) [] [.ptr 0 0])], [.var [.int .i64]], []⟩, .one (.int .i64), [.var [.int .i64]], [], false⟩
def ES_slices_IndexFunc_implPage_cimpl_Memory_pageOf_1 : Tr Sem1 := (.nd 77 (gS_impl_Memory_pageOf_1.sem S_impl_Memory_pageOf_1) .lf .lf)
def AS_slices_IndexFunc_implPage_cimpl_Memory_pageOf_1 : Anns := ⟨(.nd 0 (.loop ⟨[(0, (.list .page)), (1, (.konst (.func (.func 77) [] [(.ptr 0 0)]))), (7, (.int .i64)), (8, (.int .i64))], [(.var [(.int .i64)])], []⟩) .lf .lf), .lf⟩
theorem kS_slices_IndexFunc_implPage_cimpl_Memory_pageOf_1 (x1 : gS_slices_IndexFunc_implPage_cimpl_Memory_pageOf_1.D.Ty) : gS_slices_IndexFunc_implPage_cimpl_Memory_pageOf_1.den ES_slices_IndexFunc_implPage_cimpl_Memory_pageOf_1 TT AS_slices_IndexFunc_implPage_cimpl_Memory_pageOf_1 F Try.f76 x1 = S_slices_IndexFunc_implPage_cimpl_Memory_pageOf_1 x1 := by kernel_rfl
theorem okS_slices_IndexFunc_implPage_cimpl_Memory_pageOf_1 : SemOK Try.prog 76 (gS_slices_IndexFunc_implPage_cimpl_Memory_pageOf_1.sem S_slices_IndexFunc_implPage_cimpl_Memory_pageOf_1) := typed_ok2 (A := AS_slices_IndexFunc_implPage_cimpl_Memory_pageOf_1) (F := F) ⟨tok, eqs, Tr.All.get (t := ES_slices_IndexFunc_implPage_cimpl_Memory_pageOf_1) ⟨okS_impl_Memory_pageOf_1, trivial, trivial⟩, mix⟩ Try.func76 (by kernel_rfl) (by kernel_rfl) gS_slices_IndexFunc_implPage_cimpl_Memory_pageOf_1 rfl S_slices_IndexFunc_implPage_cimpl_Memory_pageOf_1 kS_slices_IndexFunc_implPage_cimpl_Memory_pageOf_1
def gS_impl_Memory_pageOf : Sig := ⟨⟨numD 0 [.agg [.list .page], .int .i64], [], []⟩, .one (.int .i64), [], [], false⟩
def ES_impl_Memory_pageOf : Tr Sem1 := (.nd 76 (gS_slices_IndexFunc_implPage_cimpl_Memory_pageOf_1.sem S_slices_IndexFunc_implPage_cimpl_Memory_pageOf_1) (.nd 75 (gS_impl_within.sem S_impl_within) .lf .lf) .lf)
def AS_impl_Memory_pageOf : Anns := ⟨.lf, .lf⟩
theorem kS_impl_Memory_pageOf (x1 : gS_impl_Memory_pageOf.D.Ty) : gS_impl_Memory_pageOf.den ES_impl_Memory_pageOf TT AS_impl_Memory_pageOf F Try.f52 x1 = S_impl_Memory_pageOf x1 := by kernel_rfl
theorem okS_impl_Memory_pageOf : SemOK Try.prog 52 (gS_impl_Memory_pageOf.sem S_impl_Memory_pageOf) := typed_ok2 (A := AS_impl_Memory_pageOf) (F := F) ⟨tok, eqs, Tr.All.get (t := ES_impl_Memory_pageOf) ⟨okS_slices_IndexFunc_implPage_cimpl_Memory_pageOf_1, ⟨okS_impl_within, trivial, trivial⟩, trivial⟩, mix⟩ Try.func52 (by kernel_rfl) (by kernel_rfl) gS_impl_Memory_pageOf rfl S_impl_Memory_pageOf kS_impl_Memory_pageOf
def gS_impl_Memory_fault : Sig := ⟨⟨numD 0 [.agg [.list .page], .int .i64, .int .i64, .int .i64], [], []⟩, .one (.int .i64), [], [], false⟩
def ES_impl_Memory_fault : Tr Sem1 := (.nd 52 (gS_impl_Memory_pageOf.sem S_impl_Memory_pageOf) .lf .lf)
def AS_impl_Memory_fault : Anns := ⟨(.nd 0 (.loop ⟨[(1, (.int .i64)), (3, (.int .i64)), (4, (.konst (.ptr 0 0))), (11, (.int .i64)), (12, (.int .i64))], [(.var [(.list .page)])], []⟩) .lf .lf), .lf⟩
theorem kS_impl_Memory_fault (x1 : gS_impl_Memory_fault.D.Ty) : gS_impl_Memory_fault.den ES_impl_Memory_fault TT AS_impl_Memory_fault F Try.f56 x1 = S_impl_Memory_fault x1 := by kernel_rfl
theorem okS_impl_Memory_fault : SemOK Try.prog 56 (gS_impl_Memory_fault.sem S_impl_Memory_fault) := typed_ok2 (A := AS_impl_Memory_fault) (F := F) ⟨tok, eqs, Tr.All.get (t := ES_impl_Memory_fault) ⟨okS_impl_Memory_pageOf, trivial, trivial⟩, mix⟩ Try.func56 (by kernel_rfl) (by kernel_rfl) gS_impl_Memory_fault rfl S_impl_Memory_fault kS_impl_Memory_fault
def gS_impl_Memory_bytes : Sig := ⟨⟨numD 0 [.agg [.list .page], .int .i64, .int .i64], [], []⟩, .one (.str), [], [], false⟩
def ES_impl_Memory_bytes : Tr Sem1 := (.nd 52 (gS_impl_Memory_pageOf.sem S_impl_Memory_pageOf) .lf .lf)
def AS_impl_Memory_bytes : Anns := ⟨(.nd 0 (.loop ⟨[(1, (.int .i64)), (3, (.konst (.ptr 0 0))), (7, (.konst (.vec 1))), (12, (.int .i64)), (13, (.int .i64))], [(.var [(.list .page)]), (.row .u)], []⟩) .lf .lf), .lf⟩
theorem kS_impl_Memory_bytes (x1 : gS_impl_Memory_bytes.D.Ty) : gS_impl_Memory_bytes.den ES_impl_Memory_bytes TT AS_impl_Memory_bytes F Try.f57 x1 = S_impl_Memory_bytes x1 := by kernel_rfl
theorem okS_impl_Memory_bytes : SemOK Try.prog 57 (gS_impl_Memory_bytes.sem S_impl_Memory_bytes) := typed_ok2 (A := AS_impl_Memory_bytes) (F := F) ⟨tok, eqs, Tr.All.get (t := ES_impl_Memory_bytes) ⟨okS_impl_Memory_pageOf, trivial, trivial⟩, mix⟩ Try.func57 (by kernel_rfl) (by kernel_rfl) gS_impl_Memory_bytes rfl S_impl_Memory_bytes kS_impl_Memory_bytes
def gS_impl_take : Sig := ⟨⟨numD 0 [.str], [], []⟩, .one (.int .i64), [], [], false⟩
def ES_impl_take : Tr Sem1 := .lf
def AS_impl_take : Anns := ⟨(.nd 0 (.loop ⟨[(0, .str), (3, (.int .i64)), (6, (.int .i64)), (7, (.int .i64))], [], []⟩) .lf .lf), .lf⟩
theorem kS_impl_take (x1 : gS_impl_take.D.Ty) : gS_impl_take.den ES_impl_take TT AS_impl_take F Try.f65 x1 = S_impl_take x1 := by kernel_rfl
theorem okS_impl_take : SemOK Try.prog 65 (gS_impl_take.sem S_impl_take) := typed_ok2 (A := AS_impl_take) (F := F) ⟨tok, eqs, Tr.All.get (t := ES_impl_take) trivial, mix⟩ Try.func65 (by kernel_rfl) (by kernel_rfl) gS_impl_take rfl S_impl_take kS_impl_take
def gS_impl_Memory_load : Sig := ⟨⟨numD 0 [.agg [.list .page], .int .i64, .int .i64], [], []⟩, .tup [.int .i64, .int .i64], [], [], false⟩
def ES_impl_Memory_load : Tr Sem1 := (.nd 57 (gS_impl_Memory_bytes.sem S_impl_Memory_bytes) (.nd 56 (gS_impl_Memory_fault.sem S_impl_Memory_fault) .lf .lf) (.nd 65 (gS_impl_take.sem S_impl_take) .lf .lf))
def AS_impl_Memory_load : Anns := ⟨.lf, .lf⟩
theorem kS_impl_Memory_load (x1 : gS_impl_Memory_load.D.Ty) : gS_impl_Memory_load.den ES_impl_Memory_load TT AS_impl_Memory_load F Try.f38 x1 = S_impl_Memory_load x1 := by kernel_rfl
theorem okS_impl_Memory_load : SemOK Try.prog 38 (gS_impl_Memory_load.sem S_impl_Memory_load) := typed_ok2 (A := AS_impl_Memory_load) (F := F) ⟨tok, eqs, Tr.All.get (t := ES_impl_Memory_load) ⟨okS_impl_Memory_bytes, ⟨okS_impl_Memory_fault, trivial, trivial⟩, ⟨okS_impl_take, trivial, trivial⟩⟩, mix⟩ Try.func38 (by kernel_rfl) (by kernel_rfl) gS_impl_Memory_load rfl S_impl_Memory_load kS_impl_Memory_load
def gS_impl_LoadAt : Sig := ⟨⟨numD 0 [.agg [.list .page], .int .i64, .int .i64], [], []⟩, .tup [.int .i64, .int .i64], [], [], false⟩
def ES_impl_LoadAt : Tr Sem1 := (.nd 37 (gS_impl_isSize.sem S_impl_isSize) (.nd 29 (gS_impl_MemoryOK.sem S_impl_MemoryOK) .lf .lf) (.nd 38 (gS_impl_Memory_load.sem S_impl_Memory_load) .lf .lf))
def AS_impl_LoadAt : Anns := ⟨.lf, .lf⟩
theorem kS_impl_LoadAt (x1 : gS_impl_LoadAt.D.Ty) : gS_impl_LoadAt.den ES_impl_LoadAt TT AS_impl_LoadAt F Try.f15 x1 = S_impl_LoadAt x1 := by kernel_rfl
theorem okS_impl_LoadAt : SemOK Try.prog 15 (gS_impl_LoadAt.sem S_impl_LoadAt) := typed_ok2 (A := AS_impl_LoadAt) (F := F) ⟨tok, eqs, Tr.All.get (t := ES_impl_LoadAt) ⟨okS_impl_isSize, ⟨okS_impl_MemoryOK, trivial, trivial⟩, ⟨okS_impl_Memory_load, trivial, trivial⟩⟩, mix⟩ Try.func15 (by kernel_rfl) (by kernel_rfl) gS_impl_LoadAt rfl S_impl_LoadAt kS_impl_LoadAt
def gS_laws_eqPage : Sig := ⟨⟨numD 0 [.el .page, .el .page], [], []⟩, .one (.bool), [], [], false⟩
def ES_laws_eqPage : Tr Sem1 := .lf
def AS_laws_eqPage : Anns := ⟨.lf, .lf⟩
theorem kS_laws_eqPage (x1 : gS_laws_eqPage.D.Ty) : gS_laws_eqPage.den ES_laws_eqPage TT AS_laws_eqPage F Try.f66 x1 = S_laws_eqPage x1 := by kernel_rfl
theorem okS_laws_eqPage : SemOK Try.prog 66 (gS_laws_eqPage.sem S_laws_eqPage) := typed_ok2 (A := AS_laws_eqPage) (F := F) ⟨tok, eqs, Tr.All.get (t := ES_laws_eqPage) trivial, mix⟩ Try.func66 (by kernel_rfl) (by kernel_rfl) gS_laws_eqPage rfl S_laws_eqPage kS_laws_eqPage
def gS_laws_eqPageS : Sig := ⟨⟨numD 0 [.list .page, .list .page], [], []⟩, .one (.bool), [], [], false⟩
def ES_laws_eqPageS : Tr Sem1 := (.nd 66 (gS_laws_eqPage.sem S_laws_eqPage) .lf .lf)
def AS_laws_eqPageS : Anns := ⟨(.nd 0 (.loop ⟨[(0, (.list .page)), (1, (.list .page)), (5, (.int .i64))], [], []⟩) .lf .lf), .lf⟩
theorem kS_laws_eqPageS (x1 : gS_laws_eqPageS.D.Ty) : gS_laws_eqPageS.den ES_laws_eqPageS TT AS_laws_eqPageS F Try.f39 x1 = S_laws_eqPageS x1 := by kernel_rfl
theorem okS_laws_eqPageS : SemOK Try.prog 39 (gS_laws_eqPageS.sem S_laws_eqPageS) := typed_ok2 (A := AS_laws_eqPageS) (F := F) ⟨tok, eqs, Tr.All.get (t := ES_laws_eqPageS) ⟨okS_laws_eqPage, trivial, trivial⟩, mix⟩ Try.func39 (by kernel_rfl) (by kernel_rfl) gS_laws_eqPageS rfl S_laws_eqPageS kS_laws_eqPageS
def gS_laws_eqMemory : Sig := ⟨⟨numD 0 [.agg [.list .page], .agg [.list .page]], [], []⟩, .one (.bool), [], [], false⟩
def ES_laws_eqMemory : Tr Sem1 := (.nd 39 (gS_laws_eqPageS.sem S_laws_eqPageS) .lf .lf)
def AS_laws_eqMemory : Anns := ⟨.lf, .lf⟩
theorem kS_laws_eqMemory (x1 : gS_laws_eqMemory.D.Ty) : gS_laws_eqMemory.den ES_laws_eqMemory TT AS_laws_eqMemory F Try.f16 x1 = S_laws_eqMemory x1 := by kernel_rfl
theorem okS_laws_eqMemory : SemOK Try.prog 16 (gS_laws_eqMemory.sem S_laws_eqMemory) := typed_ok2 (A := AS_laws_eqMemory) (F := F) ⟨tok, eqs, Tr.All.get (t := ES_laws_eqMemory) ⟨okS_laws_eqPageS, trivial, trivial⟩, mix⟩ Try.func16 (by kernel_rfl) (by kernel_rfl) gS_laws_eqMemory rfl S_laws_eqMemory kS_laws_eqMemory
def gS_laws_FnExactLoadAt : Sig := ⟨⟨numD 0 [.agg [.list .page], .int .i64, .int .i64], [], []⟩, .one (.bool), [], [], false⟩
def ES_laws_FnExactLoadAt : Tr Sem1 := (.nd 14 (gS_laws_toMemory.sem S_laws_toMemory) (.nd 13 (gS_spec_LoadAt.sem S_spec_LoadAt) (.nd 12 (gS_laws_szMemory.sem S_laws_szMemory) .lf .lf) .lf) (.nd 16 (gS_laws_eqMemory.sem S_laws_eqMemory) (.nd 15 (gS_impl_LoadAt.sem S_impl_LoadAt) .lf .lf) .lf))
def AS_laws_FnExactLoadAt : Anns := ⟨.lf, .lf⟩
theorem kS_laws_FnExactLoadAt (x1 : gS_laws_FnExactLoadAt.D.Ty) : gS_laws_FnExactLoadAt.den ES_laws_FnExactLoadAt TT AS_laws_FnExactLoadAt F Try.f4 x1 = S_laws_FnExactLoadAt x1 := by kernel_rfl
theorem okS_laws_FnExactLoadAt : SemOK Try.prog 4 (gS_laws_FnExactLoadAt.sem S_laws_FnExactLoadAt) := typed_ok2 (A := AS_laws_FnExactLoadAt) (F := F) ⟨tok, eqs, Tr.All.get (t := ES_laws_FnExactLoadAt) ⟨okS_laws_toMemory, ⟨okS_spec_LoadAt, ⟨okS_laws_szMemory, trivial, trivial⟩, trivial⟩, ⟨okS_laws_eqMemory, ⟨okS_impl_LoadAt, trivial, trivial⟩, trivial⟩⟩, mix⟩ Try.func4 (by kernel_rfl) (by kernel_rfl) gS_laws_FnExactLoadAt rfl S_laws_FnExactLoadAt kS_laws_FnExactLoadAt
end Go.Proofs.Ytkdcimbonbjljaa.LoadAt
