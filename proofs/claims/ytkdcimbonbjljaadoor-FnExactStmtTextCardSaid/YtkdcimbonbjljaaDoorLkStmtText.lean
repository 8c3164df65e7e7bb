/- Theory for the proofs of this claim: see its last text. -/
import Derived.Test.YtkdcimbonbjljaaDoorFnStmtText
import Derived.Test.YtkdcimbonbjljaaDoorDenF
import Derived.Test.YtkdcimbonbjljaaDoorShl
import Derived.Test.YtkdcimbonbjljaaDoorProg
import Derived.KernelRfl
set_option maxRecDepth 100000
set_option linter.unusedVariables false
noncomputable section
namespace Go.Proofs.YtkdcimbonbjljaaDoor.StmtText
open Go Go.Den Go.Den.G Go.Proofs Go.Proofs.YtkdcimbonbjljaaDoor
def Ly : Lay := [(0, (Go.Lib.pow10Tab.map fun z => Value.int .u64 z).toArray)]
def TT : Tr TI := (.nd 46 ⟨.fn, 1, 8, [.nilf], none, false⟩ (.nd 23 ⟨.struct [(0, 3), (1, 3), (2, 3), (3, 3)], 4, 32, [.int .i64 0, .int .i64 0, .int .i64 0, .int .i64 0], some .stm, true⟩ (.nd 11 ⟨.str, 1, 16, [.str []], some .s, false⟩ (.nd 6 ⟨.int .u8, 1, 1, [.int .u8 0], some .u, false⟩ (.nd 3 ⟨.int .i64, 1, 8, [.int .i64 0], some .i, false⟩ (.nd 2 ⟨.int .i64, 1, 8, [.int .i64 0], some .i, false⟩ (.nd 1 ⟨.fn, 1, 8, [.nilf], none, false⟩ .lf .lf) .lf) (.nd 5 ⟨.int .u8, 1, 1, [.int .u8 0], some .u, false⟩ (.nd 4 ⟨.bool, 1, 1, [.bool false], some .b, false⟩ .lf .lf) .lf)) (.nd 9 ⟨.str, 1, 16, [.str []], some .s, false⟩ (.nd 8 ⟨.struct [(0, 2), (1, 3), (2, 4), (3, 6)], 4, 24, [.int .i64 0, .int .i64 0, .bool false, .int .u8 0], none, false⟩ (.nd 7 ⟨.struct [(0, 2), (1, 3), (2, 4), (3, 6)], 4, 24, [.int .i64 0, .int .i64 0, .bool false, .int .u8 0], none, false⟩ .lf .lf) .lf) (.nd 10 ⟨.str, 1, 16, [.str []], some .s, false⟩ .lf .lf))) (.nd 17 ⟨.ptr 90, 1, 8, [.nilp], none, false⟩ (.nd 14 ⟨.struct [(0, 9), (1, 12)], 2, 24, [.str [], .int .u64 0], none, false⟩ (.nd 13 ⟨.struct [(0, 9), (1, 12)], 2, 24, [.str [], .int .u64 0], none, false⟩ (.nd 12 ⟨.int .u64, 1, 8, [.int .u64 0], none, false⟩ .lf .lf) .lf) (.nd 16 ⟨.ptr 81, 1, 8, [.nilp], none, false⟩ (.nd 15 ⟨.ptr 78, 1, 8, [.nilp], none, false⟩ .lf .lf) .lf)) (.nd 21 ⟨.int .i32, 1, 4, [.int .i32 0], none, false⟩ (.nd 19 ⟨.struct [(0, 17)], 1, 8, [.nilp], none, false⟩ (.nd 18 ⟨.struct [(0, 17)], 1, 8, [.nilp], none, false⟩ .lf .lf) .lf) (.nd 22 ⟨.struct [(0, 3), (1, 3), (2, 3), (3, 3)], 4, 32, [.int .i64 0, .int .i64 0, .int .i64 0, .int .i64 0], none, false⟩ .lf .lf)))) (.nd 36 ⟨.struct [(0, 29), (1, 29), (2, 29), (3, 3)], 4, 80, [.nils, .nils, .nils, .int .i64 0], none, false⟩ (.nd 30 ⟨.struct [(0, 29), (1, 29), (2, 29), (3, 3)], 4, 80, [.nils, .nils, .nils, .int .i64 0], none, false⟩ (.nd 27 ⟨.fn, 1, 8, [.nilf], none, false⟩ (.nd 26 ⟨.struct [(0, 3), (1, 3), (2, 3), (3, 3)], 4, 32, [.int .i64 0, .int .i64 0, .int .i64 0, .int .i64 0], some .stm, true⟩ (.nd 25 ⟨.fn, 1, 8, [.nilf], none, false⟩ .lf .lf) .lf) (.nd 29 ⟨.slice 3, 1, 24, [.nils], none, false⟩ (.nd 28 ⟨.fn, 1, 8, [.nilf], none, false⟩ .lf .lf) .lf)) (.nd 33 ⟨.slice 9, 1, 24, [.nils], none, false⟩ (.nd 32 ⟨.fn, 1, 8, [.nilf], none, false⟩ (.nd 31 ⟨.struct [(0, 29), (1, 29), (2, 29), (3, 3)], 4, 80, [.nils, .nils, .nils, .int .i64 0], none, false⟩ .lf .lf) .lf) (.nd 35 ⟨.fn, 1, 8, [.nilf], none, false⟩ .lf .lf))) (.nd 41 ⟨.fn, 1, 8, [.nilf], none, false⟩ (.nd 39 ⟨.fn, 1, 8, [.nilf], none, false⟩ (.nd 38 ⟨.fn, 1, 8, [.nilf], none, false⟩ (.nd 37 ⟨.fn, 1, 8, [.nilf], none, false⟩ .lf .lf) .lf) (.nd 40 ⟨.fn, 1, 8, [.nilf], none, false⟩ .lf .lf)) (.nd 44 ⟨.fn, 1, 8, [.nilf], none, false⟩ (.nd 43 ⟨.fn, 1, 8, [.nilf], none, false⟩ (.nd 42 ⟨.fn, 1, 8, [.nilf], none, false⟩ .lf .lf) .lf) (.nd 45 ⟨.fn, 1, 8, [.nilf], none, false⟩ .lf .lf))))) (.nd 70 ⟨.int .u32, 1, 4, [.int .u32 0], none, false⟩ (.nd 57 ⟨.fn, 1, 8, [.nilf], none, false⟩ (.nd 52 ⟨.fn, 1, 8, [.nilf], none, false⟩ (.nd 49 ⟨.fn, 1, 8, [.nilf], none, false⟩ (.nd 48 ⟨.fn, 1, 8, [.nilf], none, false⟩ (.nd 47 ⟨.fn, 1, 8, [.nilf], none, false⟩ .lf .lf) .lf) (.nd 51 ⟨.fn, 1, 8, [.nilf], none, false⟩ (.nd 50 ⟨.fn, 1, 8, [.nilf], none, false⟩ .lf .lf) .lf)) (.nd 55 ⟨.fn, 1, 8, [.nilf], none, false⟩ (.nd 54 ⟨.fn, 1, 8, [.nilf], none, false⟩ (.nd 53 ⟨.fn, 1, 8, [.nilf], none, false⟩ .lf .lf) .lf) (.nd 56 ⟨.fn, 1, 8, [.nilf], none, false⟩ .lf .lf))) (.nd 63 ⟨.array 24 5, 24, 24, [.arr .u 24 []], none, false⟩ (.nd 60 ⟨.int .u64, 1, 8, [.int .u64 0], none, false⟩ (.nd 59 ⟨.fn, 1, 8, [.nilf], none, false⟩ (.nd 58 ⟨.slice 5, 1, 24, [.nils], none, false⟩ .lf .lf) .lf) (.nd 62 ⟨.int .u64, 1, 8, [.int .u64 0], none, false⟩ (.nd 61 ⟨.fn, 1, 8, [.nilf], none, false⟩ .lf .lf) .lf)) (.nd 67 ⟨.fn, 1, 8, [.nilf], none, false⟩ (.nd 65 ⟨.fn, 1, 8, [.nilf], none, false⟩ (.nd 64 ⟨.fn, 1, 8, [.nilf], none, false⟩ .lf .lf) .lf) (.nd 68 ⟨.fn, 1, 8, [.nilf], none, false⟩ .lf .lf)))) (.nd 81 ⟨.struct [(0, 79)], 0, 0, [], none, false⟩ (.nd 76 ⟨.fn, 1, 8, [.nilf], none, false⟩ (.nd 73 ⟨.fn, 1, 8, [.nilf], none, false⟩ (.nd 72 ⟨.fn, 1, 8, [.nilf], none, false⟩ (.nd 71 ⟨.array 65 5, 65, 65, [.arr .u 65 []], none, false⟩ .lf .lf) .lf) (.nd 75 ⟨.array 64 5, 64, 64, [.arr .u 64 []], none, false⟩ (.nd 74 ⟨.array 32 5, 32, 32, [.arr .u 32 []], none, false⟩ .lf .lf) .lf)) (.nd 79 ⟨.array 0 16, 0, 0, [], none, false⟩ (.nd 78 ⟨.struct [(0, 17), (1, 17), (2, 17), (3, 9)], 4, 40, [.nilp, .nilp, .nilp, .str []], none, false⟩ (.nd 77 ⟨.struct [(0, 17), (1, 17), (2, 17), (3, 9)], 4, 40, [.nilp, .nilp, .nilp, .str []], none, false⟩ .lf .lf) .lf) (.nd 80 ⟨.struct [(0, 79)], 0, 0, [], none, false⟩ .lf .lf))) (.nd 86 ⟨.ptr 5, 1, 8, [.nilp], none, false⟩ (.nd 84 ⟨.int .u8, 1, 1, [.int .u8 0], some .u, false⟩ (.nd 83 ⟨.int .u8, 1, 1, [.int .u8 0], some .u, false⟩ (.nd 82 ⟨.fn, 1, 8, [.nilf], none, false⟩ .lf .lf) .lf) (.nd 85 ⟨.fn, 1, 8, [.nilf], none, false⟩ .lf .lf)) (.nd 89 ⟨.struct [(0, 12), (1, 12), (2, 70), (3, 83), (4, 5), (5, 5), (6, 84), (7, 85), (8, 86), (9, 87), (10, 88)], 11, 48, [.int .u64 0, .int .u64 0, .int .u32 0, .int .u8 0, .int .u8 0, .int .u8 0, .int .u8 0, .nilf, .nilp, .int .i32 0, .int .i32 0], none, false⟩ (.nd 88 ⟨.int .i32, 1, 4, [.int .i32 0], none, false⟩ (.nd 87 ⟨.int .i32, 1, 4, [.int .i32 0], none, false⟩ .lf .lf) .lf) (.nd 90 ⟨.struct [(0, 12), (1, 12), (2, 70), (3, 83), (4, 5), (5, 5), (6, 84), (7, 85), (8, 86), (9, 87), (10, 88)], 11, 48, [.int .u64 0, .int .u64 0, .int .u32 0, .int .u8 0, .int .u8 0, .int .u8 0, .int .u8 0, .nilf, .nilp, .int .i32 0, .int .i32 0], none, false⟩ .lf .lf))))))
theorem tok : TOK Tryd.prog TT := by unfold TOK; kernel_rfl
theorem eqs : EqAgg Tryd.prog TT := eqTab_ok (by kernel_rfl)
theorem mix : Tryd.prog.follows .mixedOrders = true := by kernel_rfl
def gS_laws_toStmt : Sig := ⟨⟨numD 0 [.el .stm], [], []⟩, .one (.el .stm), [], [], false, false, []⟩
def ES_laws_toStmt : Tr Sem1 := .lf
def AS_laws_toStmt : Anns := ⟨.lf, .lf⟩
theorem kS_laws_toStmt (x1 : gS_laws_toStmt.D.Ty) : gS_laws_toStmt.den ES_laws_toStmt TT AS_laws_toStmt F Tryd.f6 x1 = S_laws_toStmt x1 := by kernel_rfl
theorem okS_laws_toStmt : SemOK Tryd.prog Ly 6 (gS_laws_toStmt.sem S_laws_toStmt) := typed_ok2 (A := AS_laws_toStmt) (F := F) ⟨tok, eqs, Tr.All.get (t := ES_laws_toStmt) trivial, mix⟩ Tryd.func6 (by kernel_rfl) (by kernel_rfl) gS_laws_toStmt rfl S_laws_toStmt kS_laws_toStmt
def gS_spec_l01In : Sig := ⟨⟨numD 0 [.int .i64, .int .i64, .int .i64], [], []⟩, .one (.bool), [], [], false, false, []⟩
def ES_spec_l01In : Tr Sem1 := .lf
def AS_spec_l01In : Anns := ⟨.lf, .lf⟩
theorem kS_spec_l01In (x1 : gS_spec_l01In.D.Ty) : gS_spec_l01In.den ES_spec_l01In TT AS_spec_l01In F Tryd.f31 x1 = S_spec_l01In x1 := by kernel_rfl
theorem okS_spec_l01In : SemOK Tryd.prog Ly 31 (gS_spec_l01In.sem S_spec_l01In) := typed_ok2 (A := AS_spec_l01In) (F := F) ⟨tok, eqs, Tr.All.get (t := ES_spec_l01In) trivial, mix⟩ Tryd.func31 (by kernel_rfl) (by kernel_rfl) gS_spec_l01In rfl S_spec_l01In kS_spec_l01In
def gS_spec_l14Label : Sig := ⟨⟨numD 0 [.int .i64], [], []⟩, .one (.bool), [], [], false, false, []⟩
def ES_spec_l14Label : Tr Sem1 := (.nd 31 (gS_spec_l01In.sem S_spec_l01In) .lf .lf)
def AS_spec_l14Label : Anns := ⟨.lf, .lf⟩
theorem kS_spec_l14Label (x1 : gS_spec_l14Label.D.Ty) : gS_spec_l14Label.den ES_spec_l14Label TT AS_spec_l14Label F Tryd.f28 x1 = S_spec_l14Label x1 := by kernel_rfl
theorem okS_spec_l14Label : SemOK Tryd.prog Ly 28 (gS_spec_l14Label.sem S_spec_l14Label) := typed_ok2 (A := AS_spec_l14Label) (F := F) ⟨tok, eqs, Tr.All.get (t := ES_spec_l14Label) ⟨okS_spec_l01In, trivial, trivial⟩, mix⟩ Tryd.func28 (by kernel_rfl) (by kernel_rfl) gS_spec_l14Label rfl S_spec_l14Label kS_spec_l14Label
def gS_spec_l14Reg : Sig := ⟨⟨numD 0 [.int .i64], [], []⟩, .one (.bool), [], [], false, false, []⟩
def ES_spec_l14Reg : Tr Sem1 := (.nd 31 (gS_spec_l01In.sem S_spec_l01In) .lf .lf)
def AS_spec_l14Reg : Anns := ⟨.lf, .lf⟩
theorem kS_spec_l14Reg (x1 : gS_spec_l14Reg.D.Ty) : gS_spec_l14Reg.den ES_spec_l14Reg TT AS_spec_l14Reg F Tryd.f29 x1 = S_spec_l14Reg x1 := by kernel_rfl
theorem okS_spec_l14Reg : SemOK Tryd.prog Ly 29 (gS_spec_l14Reg.sem S_spec_l14Reg) := typed_ok2 (A := AS_spec_l14Reg) (F := F) ⟨tok, eqs, Tr.All.get (t := ES_spec_l14Reg) ⟨okS_spec_l01In, trivial, trivial⟩, mix⟩ Tryd.func29 (by kernel_rfl) (by kernel_rfl) gS_spec_l14Reg rfl S_spec_l14Reg kS_spec_l14Reg
def gS_spec_l01Bit : Sig := ⟨⟨numD 0 [.int .i64, .int .i64], [], []⟩, .one (.int .i64), [], [], false, false, []⟩
def ES_spec_l01Bit : Tr Sem1 := .lf
def AS_spec_l01Bit : Anns := ⟨.lf, .lf⟩
theorem kS_spec_l01Bit (x1 : gS_spec_l01Bit.D.Ty) : gS_spec_l01Bit.den ES_spec_l01Bit TT AS_spec_l01Bit F Tryd.f47 x1 = S_spec_l01Bit x1 := by kernel_rfl
theorem okS_spec_l01Bit : SemOK Tryd.prog Ly 47 (gS_spec_l01Bit.sem S_spec_l01Bit) := typed_ok2 (A := AS_spec_l01Bit) (F := F) ⟨tok, eqs, Tr.All.get (t := ES_spec_l01Bit) trivial, mix⟩ Tryd.func47 (by kernel_rfl) (by kernel_rfl) gS_spec_l01Bit rfl S_spec_l01Bit kS_spec_l01Bit
def gS_spec_l01Sign : Sig := ⟨⟨numD 0 [.int .i64, .int .i64], [], []⟩, .one (.int .i64), [], [], false, false, []⟩
def ES_spec_l01Sign : Tr Sem1 := (.nd 47 (gS_spec_l01Bit.sem S_spec_l01Bit) .lf .lf)
def AS_spec_l01Sign : Anns := ⟨(.nd 0 (.loop ⟨[(0, (.int .i64)), (1, (.int .i64)), (5, (.int .u64)), (6, (.int .i64))], [], []⟩) .lf .lf), .lf⟩
theorem kS_spec_l01Sign (x1 : gS_spec_l01Sign.D.Ty) : gS_spec_l01Sign.den ES_spec_l01Sign TT AS_spec_l01Sign F Tryd.f43 x1 = S_spec_l01Sign x1 := by kernel_rfl
theorem okS_spec_l01Sign : SemOK Tryd.prog Ly 43 (gS_spec_l01Sign.sem S_spec_l01Sign) := typed_ok2 (A := AS_spec_l01Sign) (F := F) ⟨tok, eqs, Tr.All.get (t := ES_spec_l01Sign) ⟨okS_spec_l01Bit, trivial, trivial⟩, mix⟩ Tryd.func43 (by kernel_rfl) (by kernel_rfl) gS_spec_l01Sign rfl S_spec_l01Sign kS_spec_l01Sign
def gS_spec_l05Fits : Sig := ⟨⟨numD 0 [.int .i64, .int .i64], [], []⟩, .one (.bool), [], [], false, false, []⟩
def ES_spec_l05Fits : Tr Sem1 := (.nd 43 (gS_spec_l01Sign.sem S_spec_l01Sign) .lf .lf)
def AS_spec_l05Fits : Anns := ⟨.lf, .lf⟩
theorem kS_spec_l05Fits (x1 : gS_spec_l05Fits.D.Ty) : gS_spec_l05Fits.den ES_spec_l05Fits TT AS_spec_l05Fits F Tryd.f30 x1 = S_spec_l05Fits x1 := by kernel_rfl
theorem okS_spec_l05Fits : SemOK Tryd.prog Ly 30 (gS_spec_l05Fits.sem S_spec_l05Fits) := typed_ok2 (A := AS_spec_l05Fits) (F := F) ⟨tok, eqs, Tr.All.get (t := ES_spec_l05Fits) ⟨okS_spec_l01Sign, trivial, trivial⟩, mix⟩ Tryd.func30 (by kernel_rfl) (by kernel_rfl) gS_spec_l05Fits rfl S_spec_l05Fits kS_spec_l05Fits
def gS_spec_l14Disp : Sig := ⟨⟨numD 0 [.int .i64], [], []⟩, .one (.bool), [], [], false, false, []⟩
def ES_spec_l14Disp : Tr Sem1 := (.nd 31 (gS_spec_l01In.sem S_spec_l01In) .lf .lf)
def AS_spec_l14Disp : Anns := ⟨.lf, .lf⟩
theorem kS_spec_l14Disp (x1 : gS_spec_l14Disp.D.Ty) : gS_spec_l14Disp.den ES_spec_l14Disp TT AS_spec_l14Disp F Tryd.f32 x1 = S_spec_l14Disp x1 := by kernel_rfl
theorem okS_spec_l14Disp : SemOK Tryd.prog Ly 32 (gS_spec_l14Disp.sem S_spec_l14Disp) := typed_ok2 (A := AS_spec_l14Disp) (F := F) ⟨tok, eqs, Tr.All.get (t := ES_spec_l14Disp) ⟨okS_spec_l01In, trivial, trivial⟩, mix⟩ Tryd.func32 (by kernel_rfl) (by kernel_rfl) gS_spec_l14Disp rfl S_spec_l14Disp kS_spec_l14Disp
def gS_spec_StmtOK : Sig := ⟨⟨numD 0 [.el .stm], [], []⟩, .one (.bool), [], [], false, false, []⟩
def ES_spec_StmtOK : Tr Sem1 := (.nd 30 (gS_spec_l05Fits.sem S_spec_l05Fits) (.nd 29 (gS_spec_l14Reg.sem S_spec_l14Reg) (.nd 28 (gS_spec_l14Label.sem S_spec_l14Label) .lf .lf) .lf) (.nd 32 (gS_spec_l14Disp.sem S_spec_l14Disp) (.nd 31 (gS_spec_l01In.sem S_spec_l01In) .lf .lf) .lf))
def AS_spec_StmtOK : Anns := ⟨.lf, (.nd 166 ⟨[(1, (.konst (.ptr 0 0))), (3, .bool), (4, .bool), (15, (.int .i64)), (83, .bool)], [(.var [(.int .i64), (.int .i64), (.int .i64), (.int .i64)])], []⟩ (.nd 134 ⟨[(1, (.konst (.ptr 0 0))), (3, .bool), (4, .bool), (15, (.int .i64)), (67, .bool)], [(.var [(.int .i64), (.int .i64), (.int .i64), (.int .i64)])], []⟩ (.nd 32 ⟨[(1, (.konst (.ptr 0 0))), (3, .bool), (4, .bool), (15, (.int .i64)), (16, .bool)], [(.var [(.int .i64), (.int .i64), (.int .i64), (.int .i64)])], []⟩ .lf .lf) .lf) (.nd 282 ⟨[(1, (.konst (.ptr 0 0))), (4, .bool), (141, .bool)], [(.var [(.int .i64), (.int .i64), (.int .i64), (.int .i64)])], []⟩ .lf .lf))⟩
theorem kS_spec_StmtOK (x1 : gS_spec_StmtOK.D.Ty) : gS_spec_StmtOK.den ES_spec_StmtOK TT AS_spec_StmtOK F Tryd.f17 x1 = S_spec_StmtOK x1 := by kernel_rfl
theorem okS_spec_StmtOK : SemOK Tryd.prog Ly 17 (gS_spec_StmtOK.sem S_spec_StmtOK) := typed_ok2 (A := AS_spec_StmtOK) (F := F) ⟨tok, eqs, Tr.All.get (t := ES_spec_StmtOK) ⟨okS_spec_l05Fits, ⟨okS_spec_l14Reg, ⟨okS_spec_l14Label, trivial, trivial⟩, trivial⟩, ⟨okS_spec_l14Disp, ⟨okS_spec_l01In, trivial, trivial⟩, trivial⟩⟩, mix⟩ Tryd.func17 (by kernel_rfl) (by kernel_rfl) gS_spec_StmtOK rfl S_spec_StmtOK kS_spec_StmtOK
def gS_spec_l16Words : Sig := ⟨⟨numD 0 [], [], []⟩, .one (.list .s), [], [], false, false, []⟩
def ES_spec_l16Words : Tr Sem1 := .lf
def AS_spec_l16Words : Anns := ⟨.lf, .lf⟩
theorem kS_spec_l16Words (x1 : gS_spec_l16Words.D.Ty) : gS_spec_l16Words.den ES_spec_l16Words TT AS_spec_l16Words F Tryd.f34 x1 = S_spec_l16Words x1 := by kernel_rfl
theorem okS_spec_l16Words : SemOK Tryd.prog Ly 34 (gS_spec_l16Words.sem S_spec_l16Words) := typed_ok2 (A := AS_spec_l16Words) (F := F) ⟨tok, eqs, Tr.All.get (t := ES_spec_l16Words) trivial, mix⟩ Tryd.func34 (by kernel_rfl) (by kernel_rfl) gS_spec_l16Words rfl S_spec_l16Words kS_spec_l16Words
def gS_spec_l16Many : Sig := ⟨⟨numD 0 [.int .i64], [], []⟩, .one (.int .i64), [], [], false, false, []⟩
def ES_spec_l16Many : Tr Sem1 := .lf
def AS_spec_l16Many : Anns := ⟨.lf, .lf⟩
theorem kS_spec_l16Many (x1 : gS_spec_l16Many.D.Ty) : gS_spec_l16Many.den ES_spec_l16Many TT AS_spec_l16Many F Tryd.f35 x1 = S_spec_l16Many x1 := by kernel_rfl
theorem okS_spec_l16Many : SemOK Tryd.prog Ly 35 (gS_spec_l16Many.sem S_spec_l16Many) := typed_ok2 (A := AS_spec_l16Many) (F := F) ⟨tok, eqs, Tr.All.get (t := ES_spec_l16Many) trivial, mix⟩ Tryd.func35 (by kernel_rfl) (by kernel_rfl) gS_spec_l16Many rfl S_spec_l16Many kS_spec_l16Many
def gS_spec_l00Digits : Sig := ⟨⟨numD 0 [.int .i64], [], []⟩, .one (.str), [], [], false, false, []⟩
def ES_spec_l00Digits (n0 : Nat) : Tr Sem1 := (.nd 41 (gS_spec_l00Digits.sem (RS_spec_l00Digits n0)) .lf .lf)
def AS_spec_l00Digits : Anns := ⟨.lf, .lf⟩
theorem kS_spec_l00Digits (n0 : Nat) (x1 : gS_spec_l00Digits.D.Ty) : gS_spec_l00Digits.den (ES_spec_l00Digits n0) TT AS_spec_l00Digits F Tryd.f41 x1 = RS_spec_l00Digits (n0 + 1) x1 := by kernel_rfl
theorem okRS_spec_l00Digits : ∀ n0, SemOK Tryd.prog Ly 41 (gS_spec_l00Digits.sem (RS_spec_l00Digits n0))
  | 0 => sem_none gS_spec_l00Digits (RS_spec_l00Digits 0) (fun _ => rfl)
  | n0 + 1 => typed_ok2 (A := AS_spec_l00Digits) (F := F) ⟨tok, eqs, Tr.All.get (t := ES_spec_l00Digits n0) ⟨(okRS_spec_l00Digits n0), trivial, trivial⟩, mix⟩ Tryd.func41 (by kernel_rfl) (by kernel_rfl) gS_spec_l00Digits rfl (RS_spec_l00Digits (n0 + 1)) (kS_spec_l00Digits n0)
theorem okS_spec_l00Digits : SemOK Tryd.prog Ly 41 (gS_spec_l00Digits.sem S_spec_l00Digits) := okRS_spec_l00Digits 100
def gS_spec_l16Numbers : Sig := ⟨⟨numD 0 [.str, .list .i], [], []⟩, .one (.str), [], [], false, false, []⟩
def ES_spec_l16Numbers : Tr Sem1 := (.nd 41 (gS_spec_l00Digits.sem S_spec_l00Digits) .lf .lf)
def AS_spec_l16Numbers : Anns := ⟨(.nd 0 (.loop ⟨[(0, .str), (1, (.list .i)), (5, (.int .i64))], [], []⟩) .lf .lf), .lf⟩
theorem kS_spec_l16Numbers (x1 : gS_spec_l16Numbers.D.Ty) : gS_spec_l16Numbers.den ES_spec_l16Numbers TT AS_spec_l16Numbers F Tryd.f33 x1 = S_spec_l16Numbers x1 := by kernel_rfl
theorem okS_spec_l16Numbers : SemOK Tryd.prog Ly 33 (gS_spec_l16Numbers.sem S_spec_l16Numbers) := typed_ok2 (A := AS_spec_l16Numbers) (F := F) ⟨tok, eqs, Tr.All.get (t := ES_spec_l16Numbers) ⟨okS_spec_l00Digits, trivial, trivial⟩, mix⟩ Tryd.func33 (by kernel_rfl) (by kernel_rfl) gS_spec_l16Numbers rfl S_spec_l16Numbers kS_spec_l16Numbers
def gS_spec_l16Stmt : Sig := ⟨⟨numD 0 [.el .stm], [], []⟩, .one (.str), [], [], false, false, []⟩
def ES_spec_l16Stmt : Tr Sem1 := (.nd 34 (gS_spec_l16Words.sem S_spec_l16Words) (.nd 33 (gS_spec_l16Numbers.sem S_spec_l16Numbers) .lf .lf) (.nd 35 (gS_spec_l16Many.sem S_spec_l16Many) .lf .lf))
def AS_spec_l16Stmt : Anns := ⟨.lf, .lf⟩
theorem kS_spec_l16Stmt (x1 : gS_spec_l16Stmt.D.Ty) : gS_spec_l16Stmt.den ES_spec_l16Stmt TT AS_spec_l16Stmt F Tryd.f18 x1 = S_spec_l16Stmt x1 := by kernel_rfl
theorem okS_spec_l16Stmt : SemOK Tryd.prog Ly 18 (gS_spec_l16Stmt.sem S_spec_l16Stmt) := typed_ok2 (A := AS_spec_l16Stmt) (F := F) ⟨tok, eqs, Tr.All.get (t := ES_spec_l16Stmt) ⟨okS_spec_l16Words, ⟨okS_spec_l16Numbers, trivial, trivial⟩, ⟨okS_spec_l16Many, trivial, trivial⟩⟩, mix⟩ Tryd.func18 (by kernel_rfl) (by kernel_rfl) gS_spec_l16Stmt rfl S_spec_l16Stmt kS_spec_l16Stmt
def gS_spec_StmtText : Sig := ⟨⟨numD 0 [.el .stm], [], []⟩, .tup [.str, .int .i64], [], [], false, false, []⟩
def ES_spec_StmtText : Tr Sem1 := (.nd 18 (gS_spec_l16Stmt.sem S_spec_l16Stmt) (.nd 17 (gS_spec_StmtOK.sem S_spec_StmtOK) .lf .lf) .lf)
def AS_spec_StmtText : Anns := ⟨.lf, .lf⟩
theorem kS_spec_StmtText (x1 : gS_spec_StmtText.D.Ty) : gS_spec_StmtText.den ES_spec_StmtText TT AS_spec_StmtText F Tryd.f5 x1 = S_spec_StmtText x1 := by kernel_rfl
theorem okS_spec_StmtText : SemOK Tryd.prog Ly 5 (gS_spec_StmtText.sem S_spec_StmtText) := typed_ok2 (A := AS_spec_StmtText) (F := F) ⟨tok, eqs, Tr.All.get (t := ES_spec_StmtText) ⟨okS_spec_l16Stmt, ⟨okS_spec_StmtOK, trivial, trivial⟩, trivial⟩, mix⟩ Tryd.func5 (by kernel_rfl) (by kernel_rfl) gS_spec_StmtText rfl S_spec_StmtText kS_spec_StmtText
def gS_impl_within : Sig := ⟨⟨numD 0 [.int .i64, .int .i64, .int .i64], [], []⟩, .one (.bool), [], [], false, false, []⟩
def ES_impl_within : Tr Sem1 := .lf
def AS_impl_within : Anns := ⟨.lf, .lf⟩
theorem kS_impl_within (x1 : gS_impl_within.D.Ty) : gS_impl_within.den ES_impl_within TT AS_impl_within F Tryd.f39 x1 = S_impl_within x1 := by kernel_rfl
theorem okS_impl_within : SemOK Tryd.prog Ly 39 (gS_impl_within.sem S_impl_within) := typed_ok2 (A := AS_impl_within) (F := F) ⟨tok, eqs, Tr.All.get (t := ES_impl_within) trivial, mix⟩ Tryd.func39 (by kernel_rfl) (by kernel_rfl) gS_impl_within rfl S_impl_within kS_impl_within
def gS_impl_isLabel : Sig := ⟨⟨numD 0 [.int .i64], [], []⟩, .one (.bool), [], [], false, false, []⟩
def ES_impl_isLabel : Tr Sem1 := (.nd 39 (gS_impl_within.sem S_impl_within) .lf .lf)
def AS_impl_isLabel : Anns := ⟨.lf, .lf⟩
theorem kS_impl_isLabel (x1 : gS_impl_isLabel.D.Ty) : gS_impl_isLabel.den ES_impl_isLabel TT AS_impl_isLabel F Tryd.f36 x1 = S_impl_isLabel x1 := by kernel_rfl
theorem okS_impl_isLabel : SemOK Tryd.prog Ly 36 (gS_impl_isLabel.sem S_impl_isLabel) := typed_ok2 (A := AS_impl_isLabel) (F := F) ⟨tok, eqs, Tr.All.get (t := ES_impl_isLabel) ⟨okS_impl_within, trivial, trivial⟩, mix⟩ Tryd.func36 (by kernel_rfl) (by kernel_rfl) gS_impl_isLabel rfl S_impl_isLabel kS_impl_isLabel
def gS_impl_isStackReg : Sig := ⟨⟨numD 0 [.int .i64], [], []⟩, .one (.bool), [], [], false, false, []⟩
def ES_impl_isStackReg : Tr Sem1 := .lf
def AS_impl_isStackReg : Anns := ⟨.lf, .lf⟩
theorem kS_impl_isStackReg (x1 : gS_impl_isStackReg.D.Ty) : gS_impl_isStackReg.den ES_impl_isStackReg TT AS_impl_isStackReg F Tryd.f44 x1 = S_impl_isStackReg x1 := by kernel_rfl
theorem okS_impl_isStackReg : SemOK Tryd.prog Ly 44 (gS_impl_isStackReg.sem S_impl_isStackReg) := typed_ok2 (A := AS_impl_isStackReg) (F := F) ⟨tok, eqs, Tr.All.get (t := ES_impl_isStackReg) trivial, mix⟩ Tryd.func44 (by kernel_rfl) (by kernel_rfl) gS_impl_isStackReg rfl S_impl_isStackReg kS_impl_isStackReg
def gS_impl_isOwnReg : Sig := ⟨⟨numD 0 [.int .i64], [], []⟩, .one (.bool), [], [], false, false, []⟩
def ES_impl_isOwnReg : Tr Sem1 := (.nd 44 (gS_impl_isStackReg.sem S_impl_isStackReg) (.nd 39 (gS_impl_within.sem S_impl_within) .lf .lf) .lf)
def AS_impl_isOwnReg : Anns := ⟨.lf, .lf⟩
theorem kS_impl_isOwnReg (x1 : gS_impl_isOwnReg.D.Ty) : gS_impl_isOwnReg.den ES_impl_isOwnReg TT AS_impl_isOwnReg F Tryd.f37 x1 = S_impl_isOwnReg x1 := by kernel_rfl
theorem okS_impl_isOwnReg : SemOK Tryd.prog Ly 37 (gS_impl_isOwnReg.sem S_impl_isOwnReg) := typed_ok2 (A := AS_impl_isOwnReg) (F := F) ⟨tok, eqs, Tr.All.get (t := ES_impl_isOwnReg) ⟨okS_impl_isStackReg, ⟨okS_impl_within, trivial, trivial⟩, trivial⟩, mix⟩ Tryd.func37 (by kernel_rfl) (by kernel_rfl) gS_impl_isOwnReg rfl S_impl_isOwnReg kS_impl_isOwnReg
def gS_impl_sign : Sig := ⟨⟨numD 0 [.int .i64, .int .i64], [], []⟩, .one (.int .i64), [], [], false, false, []⟩
def ES_impl_sign : Tr Sem1 := .lf
def AS_impl_sign : Anns := ⟨.lf, .lf⟩
theorem kS_impl_sign (x1 : gS_impl_sign.D.Ty) : gS_impl_sign.den ES_impl_sign TT AS_impl_sign F Tryd.f45 x1 = S_impl_sign x1 := by kernel_rfl
theorem okS_impl_sign : SemOK Tryd.prog Ly 45 (gS_impl_sign.sem S_impl_sign) := typed_ok2 (A := AS_impl_sign) (F := F) ⟨tok, eqs, Tr.All.get (t := ES_impl_sign) trivial, mix⟩ Tryd.func45 (by kernel_rfl) (by kernel_rfl) gS_impl_sign rfl S_impl_sign kS_impl_sign
def gS_impl_fits : Sig := ⟨⟨numD 0 [.int .i64, .int .i64], [], []⟩, .one (.bool), [], [], false, false, []⟩
def ES_impl_fits : Tr Sem1 := (.nd 45 (gS_impl_sign.sem S_impl_sign) .lf .lf)
def AS_impl_fits : Anns := ⟨.lf, .lf⟩
theorem kS_impl_fits (x1 : gS_impl_fits.D.Ty) : gS_impl_fits.den ES_impl_fits TT AS_impl_fits F Tryd.f38 x1 = S_impl_fits x1 := by kernel_rfl
theorem okS_impl_fits : SemOK Tryd.prog Ly 38 (gS_impl_fits.sem S_impl_fits) := typed_ok2 (A := AS_impl_fits) (F := F) ⟨tok, eqs, Tr.All.get (t := ES_impl_fits) ⟨okS_impl_sign, trivial, trivial⟩, mix⟩ Tryd.func38 (by kernel_rfl) (by kernel_rfl) gS_impl_fits rfl S_impl_fits kS_impl_fits
def gS_impl_StmtOK : Sig := ⟨⟨numD 0 [.el .stm], [], []⟩, .one (.bool), [], [], false, false, []⟩
def ES_impl_StmtOK : Tr Sem1 := (.nd 38 (gS_impl_fits.sem S_impl_fits) (.nd 37 (gS_impl_isOwnReg.sem S_impl_isOwnReg) (.nd 36 (gS_impl_isLabel.sem S_impl_isLabel) .lf .lf) .lf) (.nd 39 (gS_impl_within.sem S_impl_within) .lf .lf))
def AS_impl_StmtOK : Anns := ⟨.lf, (.nd 166 ⟨[(1, (.konst (.ptr 0 0))), (4, (.int .i64)), (83, .bool)], [(.var [(.int .i64), (.int .i64), (.int .i64), (.int .i64)])], []⟩ (.nd 134 ⟨[(1, (.konst (.ptr 0 0))), (4, (.int .i64)), (67, .bool)], [(.var [(.int .i64), (.int .i64), (.int .i64), (.int .i64)])], []⟩ (.nd 10 ⟨[(1, (.konst (.ptr 0 0))), (4, (.int .i64)), (5, .bool)], [(.var [(.int .i64), (.int .i64), (.int .i64), (.int .i64)])], []⟩ .lf .lf) .lf) (.nd 272 ⟨[(1, (.konst (.ptr 0 0))), (4, (.int .i64)), (136, .bool)], [(.var [(.int .i64), (.int .i64), (.int .i64), (.int .i64)])], []⟩ .lf .lf))⟩
theorem kS_impl_StmtOK (x1 : gS_impl_StmtOK.D.Ty) : gS_impl_StmtOK.den ES_impl_StmtOK TT AS_impl_StmtOK F Tryd.f19 x1 = S_impl_StmtOK x1 := by kernel_rfl
theorem okS_impl_StmtOK : SemOK Tryd.prog Ly 19 (gS_impl_StmtOK.sem S_impl_StmtOK) := typed_ok2 (A := AS_impl_StmtOK) (F := F) ⟨tok, eqs, Tr.All.get (t := ES_impl_StmtOK) ⟨okS_impl_fits, ⟨okS_impl_isOwnReg, ⟨okS_impl_isLabel, trivial, trivial⟩, trivial⟩, ⟨okS_impl_within, trivial, trivial⟩⟩, mix⟩ Tryd.func19 (by kernel_rfl) (by kernel_rfl) gS_impl_StmtOK rfl S_impl_StmtOK kS_impl_StmtOK
def gS_impl_stmtForm : Sig := ⟨⟨numD 0 [.int .i64], [], []⟩, .tup [.str, .int .i64], [], [], false, false, []⟩
def ES_impl_stmtForm : Tr Sem1 := .lf
def AS_impl_stmtForm : Anns := ⟨.lf, .lf⟩
theorem kS_impl_stmtForm (x1 : gS_impl_stmtForm.D.Ty) : gS_impl_stmtForm.den ES_impl_stmtForm TT AS_impl_stmtForm F Tryd.f40 x1 = S_impl_stmtForm x1 := by kernel_rfl
theorem okS_impl_stmtForm : SemOK Tryd.prog Ly 40 (gS_impl_stmtForm.sem S_impl_stmtForm) := typed_ok2 (A := AS_impl_stmtForm) (F := F) ⟨tok, eqs, Tr.All.get (t := ES_impl_stmtForm) trivial, mix⟩ Tryd.func40 (by kernel_rfl) (by kernel_rfl) gS_impl_stmtForm rfl S_impl_stmtForm kS_impl_stmtForm
def gS_strconv_Itoa : Sig := ⟨⟨numD 0 [.int .i64], [], []⟩, .one (.str), [], [], false, false, []⟩
theorem okS_strconv_Itoa : SemOK Tryd.prog Ly 42 (gS_strconv_Itoa.sem S_strconv_Itoa) := itoa_ok Tryd.func42 (by kernel_rfl) (by kernel_rfl) (by kernel_rfl) (gv := 0) (by simp [Ly]) (by kernel_rfl) (fun n h0 h1 w ht => Tryd.strconv_Itoa n h0 h1 w ht)
def gS_impl_wordsLine : Sig := ⟨⟨numD 0 [.str, .list .i], [], []⟩, .one (.str), [], [], false, false, []⟩
def ES_impl_wordsLine : Tr Sem1 := (.nd 42 (gS_strconv_Itoa.sem S_strconv_Itoa) .lf .lf)
def AS_impl_wordsLine : Anns := ⟨(.nd 0 (.loop ⟨[(5, .str), (9, (.list .i)), (10, (.int .i64)), (11, (.int .i64))], [], []⟩) .lf .lf), .lf⟩
theorem kS_impl_wordsLine (x1 : gS_impl_wordsLine.D.Ty) : gS_impl_wordsLine.den ES_impl_wordsLine TT AS_impl_wordsLine F Tryd.f24 x1 = S_impl_wordsLine x1 := by kernel_rfl
theorem okS_impl_wordsLine : SemOK Tryd.prog Ly 24 (gS_impl_wordsLine.sem S_impl_wordsLine) := typed_ok2 (A := AS_impl_wordsLine) (F := F) ⟨tok, eqs, Tr.All.get (t := ES_impl_wordsLine) ⟨okS_strconv_Itoa, trivial, trivial⟩, mix⟩ Tryd.func24 (by kernel_rfl) (by kernel_rfl) gS_impl_wordsLine rfl S_impl_wordsLine kS_impl_wordsLine
def gS_impl_stmtText : Sig := ⟨⟨numD 0 [.el .stm], [], []⟩, .one (.str), [], [], false, false, []⟩
def ES_impl_stmtText : Tr Sem1 := (.nd 40 (gS_impl_stmtForm.sem S_impl_stmtForm) (.nd 24 (gS_impl_wordsLine.sem S_impl_wordsLine) .lf .lf) .lf)
def AS_impl_stmtText : Anns := ⟨.lf, .lf⟩
theorem kS_impl_stmtText (x1 : gS_impl_stmtText.D.Ty) : gS_impl_stmtText.den ES_impl_stmtText TT AS_impl_stmtText F Tryd.f20 x1 = S_impl_stmtText x1 := by kernel_rfl
theorem okS_impl_stmtText : SemOK Tryd.prog Ly 20 (gS_impl_stmtText.sem S_impl_stmtText) := typed_ok2 (A := AS_impl_stmtText) (F := F) ⟨tok, eqs, Tr.All.get (t := ES_impl_stmtText) ⟨okS_impl_stmtForm, ⟨okS_impl_wordsLine, trivial, trivial⟩, trivial⟩, mix⟩ Tryd.func20 (by kernel_rfl) (by kernel_rfl) gS_impl_stmtText rfl S_impl_stmtText kS_impl_stmtText
def gS_impl_StmtText : Sig := ⟨⟨numD 0 [.el .stm], [], []⟩, .tup [.str, .int .i64], [], [], false, false, []⟩
def ES_impl_StmtText : Tr Sem1 := (.nd 20 (gS_impl_stmtText.sem S_impl_stmtText) (.nd 19 (gS_impl_StmtOK.sem S_impl_StmtOK) .lf .lf) .lf)
def AS_impl_StmtText : Anns := ⟨.lf, .lf⟩
theorem kS_impl_StmtText (x1 : gS_impl_StmtText.D.Ty) : gS_impl_StmtText.den ES_impl_StmtText TT AS_impl_StmtText F Tryd.f7 x1 = S_impl_StmtText x1 := by kernel_rfl
theorem okS_impl_StmtText : SemOK Tryd.prog Ly 7 (gS_impl_StmtText.sem S_impl_StmtText) := typed_ok2 (A := AS_impl_StmtText) (F := F) ⟨tok, eqs, Tr.All.get (t := ES_impl_StmtText) ⟨okS_impl_stmtText, ⟨okS_impl_StmtOK, trivial, trivial⟩, trivial⟩, mix⟩ Tryd.func7 (by kernel_rfl) (by kernel_rfl) gS_impl_StmtText rfl S_impl_StmtText kS_impl_StmtText
def gS_laws_FnExactStmtText : Sig := ⟨⟨numD 0 [.el .stm], [], []⟩, .one (.bool), [], [], false, false, []⟩
def ES_laws_FnExactStmtText : Tr Sem1 := (.nd 6 (gS_laws_toStmt.sem S_laws_toStmt) (.nd 5 (gS_spec_StmtText.sem S_spec_StmtText) .lf .lf) (.nd 7 (gS_impl_StmtText.sem S_impl_StmtText) .lf .lf))
def AS_laws_FnExactStmtText : Anns := ⟨.lf, .lf⟩
theorem kS_laws_FnExactStmtText (x1 : gS_laws_FnExactStmtText.D.Ty) : gS_laws_FnExactStmtText.den ES_laws_FnExactStmtText TT AS_laws_FnExactStmtText F Tryd.f3 x1 = S_laws_FnExactStmtText x1 := by kernel_rfl
theorem okS_laws_FnExactStmtText : SemOK Tryd.prog Ly 3 (gS_laws_FnExactStmtText.sem S_laws_FnExactStmtText) := typed_ok2 (A := AS_laws_FnExactStmtText) (F := F) ⟨tok, eqs, Tr.All.get (t := ES_laws_FnExactStmtText) ⟨okS_laws_toStmt, ⟨okS_spec_StmtText, trivial, trivial⟩, ⟨okS_impl_StmtText, trivial, trivial⟩⟩, mix⟩ Tryd.func3 (by kernel_rfl) (by kernel_rfl) gS_laws_FnExactStmtText rfl S_laws_FnExactStmtText kS_laws_FnExactStmtText
end Go.Proofs.YtkdcimbonbjljaaDoor.StmtText
