/- Theory for the proofs of this claim: see its last text. -/
import Derived.Test.YtkdcimbonbjljaaDoorFnReportLines
import Derived.Test.YtkdcimbonbjljaaDoorDenF
import Derived.Test.YtkdcimbonbjljaaDoorShl
import Derived.Test.YtkdcimbonbjljaaDoorProg
import Derived.KernelRfl
set_option maxRecDepth 100000
set_option linter.unusedVariables false
noncomputable section
namespace Go.Proofs.YtkdcimbonbjljaaDoor.ReportLines
open Go Go.Den Go.Den.G Go.Proofs Go.Proofs.YtkdcimbonbjljaaDoor
def Ly : Lay := [(0, (Go.Lib.pow10Tab.map fun z => Value.int .u64 z).toArray)]
def TT : Tr TI := (.nd 46 ⟨.fn, 1, 8, [.nilf], none, false⟩ (.nd 23 ⟨.struct [(0, 3), (1, 3), (2, 3), (3, 3)], 4, 32, [.int .i64 0, .int .i64 0, .int .i64 0, .int .i64 0], some .stm, true⟩ (.nd 11 ⟨.str, 1, 16, [.str []], some .s, false⟩ (.nd 6 ⟨.int .u8, 1, 1, [.int .u8 0], some .u, false⟩ (.nd 3 ⟨.int .i64, 1, 8, [.int .i64 0], some .i, false⟩ (.nd 2 ⟨.int .i64, 1, 8, [.int .i64 0], some .i, false⟩ (.nd 1 ⟨.fn, 1, 8, [.nilf], none, false⟩ .lf .lf) .lf) (.nd 5 ⟨.int .u8, 1, 1, [.int .u8 0], some .u, false⟩ (.nd 4 ⟨.bool, 1, 1, [.bool false], some .b, false⟩ .lf .lf) .lf)) (.nd 9 ⟨.str, 1, 16, [.str []], some .s, false⟩ (.nd 8 ⟨.struct [(0, 2), (1, 3), (2, 4), (3, 6)], 4, 24, [.int .i64 0, .int .i64 0, .bool false, .int .u8 0], none, false⟩ (.nd 7 ⟨.struct [(0, 2), (1, 3), (2, 4), (3, 6)], 4, 24, [.int .i64 0, .int .i64 0, .bool false, .int .u8 0], none, false⟩ .lf .lf) .lf) (.nd 10 ⟨.str, 1, 16, [.str []], some .s, false⟩ .lf .lf))) (.nd 17 ⟨.ptr 90, 1, 8, [.nilp], none, false⟩ (.nd 14 ⟨.struct [(0, 9), (1, 12)], 2, 24, [.str [], .int .u64 0], none, false⟩ (.nd 13 ⟨.struct [(0, 9), (1, 12)], 2, 24, [.str [], .int .u64 0], none, false⟩ (.nd 12 ⟨.int .u64, 1, 8, [.int .u64 0], none, false⟩ .lf .lf) .lf) (.nd 16 ⟨.ptr 81, 1, 8, [.nilp], none, false⟩ (.nd 15 ⟨.ptr 78, 1, 8, [.nilp], none, false⟩ .lf .lf) .lf)) (.nd 21 ⟨.int .i32, 1, 4, [.int .i32 0], none, false⟩ (.nd 19 ⟨.struct [(0, 17)], 1, 8, [.nilp], none, false⟩ (.nd 18 ⟨.struct [(0, 17)], 1, 8, [.nilp], none, false⟩ .lf .lf) .lf) (.nd 22 ⟨.struct [(0, 3), (1, 3), (2, 3), (3, 3)], 4, 32, [.int .i64 0, .int .i64 0, .int .i64 0, .int .i64 0], none, false⟩ .lf .lf)))) (.nd 36 ⟨.struct [(0, 29), (1, 29), (2, 29), (3, 3)], 4, 80, [.nils, .nils, .nils, .int .i64 0], none, false⟩ (.nd 30 ⟨.struct [(0, 29), (1, 29), (2, 29), (3, 3)], 4, 80, [.nils, .nils, .nils, .int .i64 0], none, false⟩ (.nd 27 ⟨.fn, 1, 8, [.nilf], none, false⟩ (.nd 26 ⟨.struct [(0, 3), (1, 3), (2, 3), (3, 3)], 4, 32, [.int .i64 0, .int .i64 0, .int .i64 0, .int .i64 0], some .stm, true⟩ (.nd 25 ⟨.fn, 1, 8, [.nilf], none, false⟩ .lf .lf) .lf) (.nd 29 ⟨.slice 3, 1, 24, [.nils], none, false⟩ (.nd 28 ⟨.fn, 1, 8, [.nilf], none, false⟩ .lf .lf) .lf)) (.nd 33 ⟨.slice 9, 1, 24, [.nils], none, false⟩ (.nd 32 ⟨.fn, 1, 8, [.nilf], none, false⟩ (.nd 31 ⟨.struct [(0, 29), (1, 29), (2, 29), (3, 3)], 4, 80, [.nils, .nils, .nils, .int .i64 0], none, false⟩ .lf .lf) .lf) (.nd 35 ⟨.fn, 1, 8, [.nilf], none, false⟩ .lf .lf))) (.nd 41 ⟨.fn, 1, 8, [.nilf], none, false⟩ (.nd 39 ⟨.fn, 1, 8, [.nilf], none, false⟩ (.nd 38 ⟨.fn, 1, 8, [.nilf], none, false⟩ (.nd 37 ⟨.fn, 1, 8, [.nilf], none, false⟩ .lf .lf) .lf) (.nd 40 ⟨.fn, 1, 8, [.nilf], none, false⟩ .lf .lf)) (.nd 44 ⟨.fn, 1, 8, [.nilf], none, false⟩ (.nd 43 ⟨.fn, 1, 8, [.nilf], none, false⟩ (.nd 42 ⟨.fn, 1, 8, [.nilf], none, false⟩ .lf .lf) .lf) (.nd 45 ⟨.fn, 1, 8, [.nilf], none, false⟩ .lf .lf))))) (.nd 70 ⟨.int .u32, 1, 4, [.int .u32 0], none, false⟩ (.nd 57 ⟨.fn, 1, 8, [.nilf], none, false⟩ (.nd 52 ⟨.fn, 1, 8, [.nilf], none, false⟩ (.nd 49 ⟨.fn, 1, 8, [.nilf], none, false⟩ (.nd 48 ⟨.fn, 1, 8, [.nilf], none, false⟩ (.nd 47 ⟨.fn, 1, 8, [.nilf], none, false⟩ .lf .lf) .lf) (.nd 51 ⟨.fn, 1, 8, [.nilf], none, false⟩ (.nd 50 ⟨.fn, 1, 8, [.nilf], none, false⟩ .lf .lf) .lf)) (.nd 55 ⟨.fn, 1, 8, [.nilf], none, false⟩ (.nd 54 ⟨.fn, 1, 8, [.nilf], none, false⟩ (.nd 53 ⟨.fn, 1, 8, [.nilf], none, false⟩ .lf .lf) .lf) (.nd 56 ⟨.fn, 1, 8, [.nilf], none, false⟩ .lf .lf))) (.nd 63 ⟨.array 24 5, 24, 24, [.arr .u 24 []], none, false⟩ (.nd 60 ⟨.int .u64, 1, 8, [.int .u64 0], none, false⟩ (.nd 59 ⟨.fn, 1, 8, [.nilf], none, false⟩ (.nd 58 ⟨.slice 5, 1, 24, [.nils], none, false⟩ .lf .lf) .lf) (.nd 62 ⟨.int .u64, 1, 8, [.int .u64 0], none, false⟩ (.nd 61 ⟨.fn, 1, 8, [.nilf], none, false⟩ .lf .lf) .lf)) (.nd 67 ⟨.fn, 1, 8, [.nilf], none, false⟩ (.nd 65 ⟨.fn, 1, 8, [.nilf], none, false⟩ (.nd 64 ⟨.fn, 1, 8, [.nilf], none, false⟩ .lf .lf) .lf) (.nd 68 ⟨.fn, 1, 8, [.nilf], none, false⟩ .lf .lf)))) (.nd 81 ⟨.struct [(0, 79)], 0, 0, [], none, false⟩ (.nd 76 ⟨.fn, 1, 8, [.nilf], none, false⟩ (.nd 73 ⟨.fn, 1, 8, [.nilf], none, false⟩ (.nd 72 ⟨.fn, 1, 8, [.nilf], none, false⟩ (.nd 71 ⟨.array 65 5, 65, 65, [.arr .u 65 []], none, false⟩ .lf .lf) .lf) (.nd 75 ⟨.array 64 5, 64, 64, [.arr .u 64 []], none, false⟩ (.nd 74 ⟨.array 32 5, 32, 32, [.arr .u 32 []], none, false⟩ .lf .lf) .lf)) (.nd 79 ⟨.array 0 16, 0, 0, [], none, false⟩ (.nd 78 ⟨.struct [(0, 17), (1, 17), (2, 17), (3, 9)], 4, 40, [.nilp, .nilp, .nilp, .str []], none, false⟩ (.nd 77 ⟨.struct [(0, 17), (1, 17), (2, 17), (3, 9)], 4, 40, [.nilp, .nilp, .nilp, .str []], none, false⟩ .lf .lf) .lf) (.nd 80 ⟨.struct [(0, 79)], 0, 0, [], none, false⟩ .lf .lf))) (.nd 86 ⟨.ptr 5, 1, 8, [.nilp], none, false⟩ (.nd 84 ⟨.int .u8, 1, 1, [.int .u8 0], some .u, false⟩ (.nd 83 ⟨.int .u8, 1, 1, [.int .u8 0], some .u, false⟩ (.nd 82 ⟨.fn, 1, 8, [.nilf], none, false⟩ .lf .lf) .lf) (.nd 85 ⟨.fn, 1, 8, [.nilf], none, false⟩ .lf .lf)) (.nd 89 ⟨.struct [(0, 12), (1, 12), (2, 70), (3, 83), (4, 5), (5, 5), (6, 84), (7, 85), (8, 86), (9, 87), (10, 88)], 11, 48, [.int .u64 0, .int .u64 0, .int .u32 0, .int .u8 0, .int .u8 0, .int .u8 0, .int .u8 0, .nilf, .nilp, .int .i32 0, .int .i32 0], none, false⟩ (.nd 88 ⟨.int .i32, 1, 4, [.int .i32 0], none, false⟩ (.nd 87 ⟨.int .i32, 1, 4, [.int .i32 0], none, false⟩ .lf .lf) .lf) (.nd 90 ⟨.struct [(0, 12), (1, 12), (2, 70), (3, 83), (4, 5), (5, 5), (6, 84), (7, 85), (8, 86), (9, 87), (10, 88)], 11, 48, [.int .u64 0, .int .u64 0, .int .u32 0, .int .u8 0, .int .u8 0, .int .u8 0, .int .u8 0, .nilf, .nilp, .int .i32 0, .int .i32 0], none, false⟩ .lf .lf))))))
theorem tok : TOK Tryd.prog TT := by unfold TOK; kernel_rfl
theorem eqs : EqAgg Tryd.prog TT := eqTab_ok (by kernel_rfl)
theorem mix : Tryd.prog.follows .mixedOrders = true := by kernel_rfl
def gS_laws_szIntS : Sig := ⟨⟨numD 0 [.list .i, .int .i64], [], []⟩, .one (.int .i64), [], [], false, false, []⟩
def ES_laws_szIntS : Tr Sem1 := .lf
def AS_laws_szIntS : Anns := ⟨.lf, .lf⟩
theorem kS_laws_szIntS (x1 : gS_laws_szIntS.D.Ty) : gS_laws_szIntS.den ES_laws_szIntS TT AS_laws_szIntS F Tryd.f21 x1 = S_laws_szIntS x1 := by kernel_rfl
theorem okS_laws_szIntS : SemOK Tryd.prog Ly 21 (gS_laws_szIntS.sem S_laws_szIntS) := typed_ok2 (A := AS_laws_szIntS) (F := F) ⟨tok, eqs, Tr.All.get (t := ES_laws_szIntS) trivial, mix⟩ Tryd.func21 (by kernel_rfl) (by kernel_rfl) gS_laws_szIntS rfl S_laws_szIntS kS_laws_szIntS
def gS_laws_szReport : Sig := ⟨⟨numD 0 [.agg [.list .i, .list .i, .list .i, .int .i64], .int .i64], [], []⟩, .one (.int .i64), [], [], false, false, []⟩
def ES_laws_szReport : Tr Sem1 := (.nd 21 (gS_laws_szIntS.sem S_laws_szIntS) .lf .lf)
def AS_laws_szReport : Anns := ⟨.lf, .lf⟩
theorem kS_laws_szReport (x1 : gS_laws_szReport.D.Ty) : gS_laws_szReport.den ES_laws_szReport TT AS_laws_szReport F Tryd.f8 x1 = S_laws_szReport x1 := by kernel_rfl
theorem okS_laws_szReport : SemOK Tryd.prog Ly 8 (gS_laws_szReport.sem S_laws_szReport) := typed_ok2 (A := AS_laws_szReport) (F := F) ⟨tok, eqs, Tr.All.get (t := ES_laws_szReport) ⟨okS_laws_szIntS, trivial, trivial⟩, mix⟩ Tryd.func8 (by kernel_rfl) (by kernel_rfl) gS_laws_szReport rfl S_laws_szReport kS_laws_szReport
def gS_laws_toIntS : Sig := ⟨⟨numD 0 [.list .i], [], []⟩, .one (.konst (.vec 0)), [.row .i], [], false, true, [(2, 0, .i)]⟩
def ES_laws_toIntS : Tr Sem1 := .lf
def AS_laws_toIntS : Anns := ⟨(.nd 0 (.loop ⟨[(0, (.list .i)), (3, (.konst (.vec 0))), (4, (.int .i64))], [(.row .i)], []⟩) .lf .lf), .lf⟩
theorem kS_laws_toIntS (x1 : gS_laws_toIntS.D.Ty) : gS_laws_toIntS.den ES_laws_toIntS TT AS_laws_toIntS F Tryd.f23 x1 = S_laws_toIntS x1 := by kernel_rfl
theorem okS_laws_toIntS : SemOK Tryd.prog Ly 23 (gS_laws_toIntS.sem S_laws_toIntS) := typed_ok2 (A := AS_laws_toIntS) (F := F) ⟨tok, eqs, Tr.All.get (t := ES_laws_toIntS) trivial, mix⟩ Tryd.func23 (by kernel_rfl) (by kernel_rfl) gS_laws_toIntS rfl S_laws_toIntS kS_laws_toIntS
def gS_laws_toReport : Sig := ⟨⟨numD 0 [.agg [.list .i, .list .i, .list .i, .int .i64]], [], []⟩, .one (.agg [.konst (.vec 0), .konst (.vec 1), .konst (.vec 2), .int .i64]), [.row .i, .row .i, .row .i], [], false, true, [(2, 1, .i), (2, 2, .i), (2, 3, .i)]⟩
def ES_laws_toReport : Tr Sem1 := (.nd 23 (gS_laws_toIntS.sem S_laws_toIntS) .lf .lf)
def AS_laws_toReport : Anns := ⟨.lf, .lf⟩
theorem kS_laws_toReport (x1 : gS_laws_toReport.D.Ty) : gS_laws_toReport.den ES_laws_toReport TT AS_laws_toReport F Tryd.f10 x1 = S_laws_toReport x1 := by kernel_rfl
theorem okS_laws_toReport : SemOK Tryd.prog Ly 10 (gS_laws_toReport.sem S_laws_toReport) := typed_ok2 (A := AS_laws_toReport) (F := F) ⟨tok, eqs, Tr.All.get (t := ES_laws_toReport) ⟨okS_laws_toIntS, trivial, trivial⟩, mix⟩ Tryd.func10 (by kernel_rfl) (by kernel_rfl) gS_laws_toReport rfl S_laws_toReport kS_laws_toReport
def gS_spec_l00Digits : Sig := ⟨⟨numD 0 [.int .i64], [], []⟩, .one (.str), [], [], false, false, []⟩
def ES_spec_l00Digits (n0 : Nat) : Tr Sem1 := (.nd 41 (gS_spec_l00Digits.sem (RS_spec_l00Digits n0)) .lf .lf)
def AS_spec_l00Digits : Anns := ⟨.lf, .lf⟩
theorem kS_spec_l00Digits (n0 : Nat) (x1 : gS_spec_l00Digits.D.Ty) : gS_spec_l00Digits.den (ES_spec_l00Digits n0) TT AS_spec_l00Digits F Tryd.f41 x1 = RS_spec_l00Digits (n0 + 1) x1 := by kernel_rfl
theorem okRS_spec_l00Digits : ∀ n0, SemOK Tryd.prog Ly 41 (gS_spec_l00Digits.sem (RS_spec_l00Digits n0))
  | 0 => sem_none gS_spec_l00Digits (RS_spec_l00Digits 0) (fun _ => rfl)
  | n0 + 1 => typed_ok2 (A := AS_spec_l00Digits) (F := F) ⟨tok, eqs, Tr.All.get (t := ES_spec_l00Digits n0) ⟨(okRS_spec_l00Digits n0), trivial, trivial⟩, mix⟩ Tryd.func41 (by kernel_rfl) (by kernel_rfl) gS_spec_l00Digits rfl (RS_spec_l00Digits (n0 + 1)) (kS_spec_l00Digits n0)
theorem okS_spec_l00Digits : SemOK Tryd.prog Ly 41 (gS_spec_l00Digits.sem S_spec_l00Digits) := okRS_spec_l00Digits 100
def gS_spec_l16Numbers : Sig := ⟨⟨numD 0 [.str, .list .i], [], []⟩, .one (.str), [], [], false, false, []⟩
def ES_spec_l16Numbers : Tr Sem1 := (.nd 41 (gS_spec_l00Digits.sem S_spec_l00Digits) .lf .lf)
def AS_spec_l16Numbers : Anns := ⟨(.nd 0 (.loop ⟨[(0, .str), (1, (.list .i)), (5, (.int .i64))], [], []⟩) .lf .lf), .lf⟩
theorem kS_spec_l16Numbers (x1 : gS_spec_l16Numbers.D.Ty) : gS_spec_l16Numbers.den ES_spec_l16Numbers TT AS_spec_l16Numbers F Tryd.f33 x1 = S_spec_l16Numbers x1 := by kernel_rfl
theorem okS_spec_l16Numbers : SemOK Tryd.prog Ly 33 (gS_spec_l16Numbers.sem S_spec_l16Numbers) := typed_ok2 (A := AS_spec_l16Numbers) (F := F) ⟨tok, eqs, Tr.All.get (t := ES_spec_l16Numbers) ⟨okS_spec_l00Digits, trivial, trivial⟩, mix⟩ Tryd.func33 (by kernel_rfl) (by kernel_rfl) gS_spec_l16Numbers rfl S_spec_l16Numbers kS_spec_l16Numbers
def gS_spec_l16Report : Sig := ⟨⟨numD 0 [.agg [.list .i, .list .i, .list .i, .int .i64]], [], []⟩, .one (.list .s), [], [], false, false, []⟩
def ES_spec_l16Report : Tr Sem1 := (.nd 41 (gS_spec_l00Digits.sem S_spec_l00Digits) (.nd 33 (gS_spec_l16Numbers.sem S_spec_l16Numbers) .lf .lf) .lf)
def AS_spec_l16Report : Anns := ⟨.lf, .lf⟩
theorem kS_spec_l16Report (x1 : gS_spec_l16Report.D.Ty) : gS_spec_l16Report.den ES_spec_l16Report TT AS_spec_l16Report F Tryd.f22 x1 = S_spec_l16Report x1 := by kernel_rfl
theorem okS_spec_l16Report : SemOK Tryd.prog Ly 22 (gS_spec_l16Report.sem S_spec_l16Report) := typed_ok2 (A := AS_spec_l16Report) (F := F) ⟨tok, eqs, Tr.All.get (t := ES_spec_l16Report) ⟨okS_spec_l00Digits, ⟨okS_spec_l16Numbers, trivial, trivial⟩, trivial⟩, mix⟩ Tryd.func22 (by kernel_rfl) (by kernel_rfl) gS_spec_l16Report rfl S_spec_l16Report kS_spec_l16Report
def gS_spec_ReportLines : Sig := ⟨⟨numD 0 [.agg [.list .i, .list .i, .list .i, .int .i64]], [], []⟩, .tup [.list .s, .int .i64], [], [], false, false, []⟩
def ES_spec_ReportLines : Tr Sem1 := (.nd 22 (gS_spec_l16Report.sem S_spec_l16Report) .lf .lf)
def AS_spec_ReportLines : Anns := ⟨.lf, .lf⟩
theorem kS_spec_ReportLines (x1 : gS_spec_ReportLines.D.Ty) : gS_spec_ReportLines.den ES_spec_ReportLines TT AS_spec_ReportLines F Tryd.f9 x1 = S_spec_ReportLines x1 := by kernel_rfl
theorem okS_spec_ReportLines : SemOK Tryd.prog Ly 9 (gS_spec_ReportLines.sem S_spec_ReportLines) := typed_ok2 (A := AS_spec_ReportLines) (F := F) ⟨tok, eqs, Tr.All.get (t := ES_spec_ReportLines) ⟨okS_spec_l16Report, trivial, trivial⟩, mix⟩ Tryd.func9 (by kernel_rfl) (by kernel_rfl) gS_spec_ReportLines rfl S_spec_ReportLines kS_spec_ReportLines
def gS_strconv_Itoa : Sig := ⟨⟨numD 0 [.int .i64], [], []⟩, .one (.str), [], [], false, false, []⟩
theorem okS_strconv_Itoa : SemOK Tryd.prog Ly 42 (gS_strconv_Itoa.sem S_strconv_Itoa) := itoa_ok Tryd.func42 (by kernel_rfl) (by kernel_rfl) (by kernel_rfl) (gv := 0) (by simp [Ly]) (by kernel_rfl) (fun n h0 h1 w ht => Tryd.strconv_Itoa n h0 h1 w ht)
def gS_impl_wordsLine : Sig := ⟨⟨numD 0 [.str, .list .i], [], []⟩, .one (.str), [], [], false, false, []⟩
def ES_impl_wordsLine : Tr Sem1 := (.nd 42 (gS_strconv_Itoa.sem S_strconv_Itoa) .lf .lf)
def AS_impl_wordsLine : Anns := ⟨(.nd 0 (.loop ⟨[(5, .str), (9, (.list .i)), (10, (.int .i64)), (11, (.int .i64))], [], []⟩) .lf .lf), .lf⟩
theorem kS_impl_wordsLine (x1 : gS_impl_wordsLine.D.Ty) : gS_impl_wordsLine.den ES_impl_wordsLine TT AS_impl_wordsLine F Tryd.f24 x1 = S_impl_wordsLine x1 := by kernel_rfl
theorem okS_impl_wordsLine : SemOK Tryd.prog Ly 24 (gS_impl_wordsLine.sem S_impl_wordsLine) := typed_ok2 (A := AS_impl_wordsLine) (F := F) ⟨tok, eqs, Tr.All.get (t := ES_impl_wordsLine) ⟨okS_strconv_Itoa, trivial, trivial⟩, mix⟩ Tryd.func24 (by kernel_rfl) (by kernel_rfl) gS_impl_wordsLine rfl S_impl_wordsLine kS_impl_wordsLine
def gS_impl_ReportLines : Sig := ⟨⟨numD 0 [.agg [.list .i, .list .i, .list .i, .int .i64]], [], []⟩, .tup [.konst (.vec 0), .int .i64], [.row .s], [], false, true, [(2, 0, .s)]⟩
def ES_impl_ReportLines : Tr Sem1 := (.nd 24 (gS_impl_wordsLine.sem S_impl_wordsLine) .lf .lf)
def AS_impl_ReportLines : Anns := ⟨.lf, .lf⟩
theorem kS_impl_ReportLines (x1 : gS_impl_ReportLines.D.Ty) : gS_impl_ReportLines.den ES_impl_ReportLines TT AS_impl_ReportLines F Tryd.f11 x1 = S_impl_ReportLines x1 := by kernel_rfl
theorem okS_impl_ReportLines : SemOK Tryd.prog Ly 11 (gS_impl_ReportLines.sem S_impl_ReportLines) := typed_ok2 (A := AS_impl_ReportLines) (F := F) ⟨tok, eqs, Tr.All.get (t := ES_impl_ReportLines) ⟨okS_impl_wordsLine, trivial, trivial⟩, mix⟩ Tryd.func11 (by kernel_rfl) (by kernel_rfl) gS_impl_ReportLines rfl S_impl_ReportLines kS_impl_ReportLines
def gS_laws_eqStringS : Sig := ⟨⟨numD 0 [.list .s, .list .s], [], []⟩, .one (.bool), [], [], false, false, []⟩
def ES_laws_eqStringS : Tr Sem1 := .lf
def AS_laws_eqStringS : Anns := ⟨(.nd 0 (.loop ⟨[(0, (.list .s)), (1, (.list .s)), (5, (.int .i64))], [], []⟩) .lf .lf), .lf⟩
theorem kS_laws_eqStringS (x1 : gS_laws_eqStringS.D.Ty) : gS_laws_eqStringS.den ES_laws_eqStringS TT AS_laws_eqStringS F Tryd.f12 x1 = S_laws_eqStringS x1 := by kernel_rfl
theorem okS_laws_eqStringS : SemOK Tryd.prog Ly 12 (gS_laws_eqStringS.sem S_laws_eqStringS) := typed_ok2 (A := AS_laws_eqStringS) (F := F) ⟨tok, eqs, Tr.All.get (t := ES_laws_eqStringS) trivial, mix⟩ Tryd.func12 (by kernel_rfl) (by kernel_rfl) gS_laws_eqStringS rfl S_laws_eqStringS kS_laws_eqStringS
def gS_laws_eqIntS : Sig := ⟨⟨numD 0 [.list .i, .list .i], [], []⟩, .one (.bool), [], [], false, false, []⟩
def ES_laws_eqIntS : Tr Sem1 := .lf
def AS_laws_eqIntS : Anns := ⟨(.nd 0 (.loop ⟨[(0, (.list .i)), (1, (.list .i)), (5, (.int .i64))], [], []⟩) .lf .lf), .lf⟩
theorem kS_laws_eqIntS (x1 : gS_laws_eqIntS.D.Ty) : gS_laws_eqIntS.den ES_laws_eqIntS TT AS_laws_eqIntS F Tryd.f25 x1 = S_laws_eqIntS x1 := by kernel_rfl
theorem okS_laws_eqIntS : SemOK Tryd.prog Ly 25 (gS_laws_eqIntS.sem S_laws_eqIntS) := typed_ok2 (A := AS_laws_eqIntS) (F := F) ⟨tok, eqs, Tr.All.get (t := ES_laws_eqIntS) trivial, mix⟩ Tryd.func25 (by kernel_rfl) (by kernel_rfl) gS_laws_eqIntS rfl S_laws_eqIntS kS_laws_eqIntS
def gS_laws_eqReport : Sig := ⟨⟨numD 0 [.agg [.list .i, .list .i, .list .i, .int .i64], .agg [.list .i, .list .i, .list .i, .int .i64]], [], []⟩, .one (.bool), [], [], false, false, []⟩
def ES_laws_eqReport : Tr Sem1 := (.nd 25 (gS_laws_eqIntS.sem S_laws_eqIntS) .lf .lf)
def AS_laws_eqReport : Anns := ⟨.lf, .lf⟩
theorem kS_laws_eqReport (x1 : gS_laws_eqReport.D.Ty) : gS_laws_eqReport.den ES_laws_eqReport TT AS_laws_eqReport F Tryd.f13 x1 = S_laws_eqReport x1 := by kernel_rfl
theorem okS_laws_eqReport : SemOK Tryd.prog Ly 13 (gS_laws_eqReport.sem S_laws_eqReport) := typed_ok2 (A := AS_laws_eqReport) (F := F) ⟨tok, eqs, Tr.All.get (t := ES_laws_eqReport) ⟨okS_laws_eqIntS, trivial, trivial⟩, mix⟩ Tryd.func13 (by kernel_rfl) (by kernel_rfl) gS_laws_eqReport rfl S_laws_eqReport kS_laws_eqReport
def gS_laws_markIntS : Sig := ⟨⟨numD 0 [.konst (.vec 0), .int .i64], [.row .i], []⟩, .one (.int .i64), [.row .i], [(0, 0, big)], true, false, []⟩
def ES_laws_markIntS : Tr Sem1 := .lf
def AS_laws_markIntS : Anns := ⟨(.nd 0 (.loop ⟨[(0, (.konst (.vec 0))), (1, (.int .i64)), (5, (.int .i64))], [(.row .i)], []⟩) .lf .lf), .lf⟩
theorem kS_laws_markIntS (x1 : gS_laws_markIntS.D.Ty) : gS_laws_markIntS.den ES_laws_markIntS TT AS_laws_markIntS F Tryd.f26 x1 = S_laws_markIntS x1 := by kernel_rfl
theorem okS_laws_markIntS : SemOK Tryd.prog Ly 26 (gS_laws_markIntS.sem S_laws_markIntS) := typed_ok2 (A := AS_laws_markIntS) (F := F) ⟨tok, eqs, Tr.All.get (t := ES_laws_markIntS) trivial, mix⟩ Tryd.func26 (by kernel_rfl) (by kernel_rfl) gS_laws_markIntS rfl S_laws_markIntS kS_laws_markIntS
def gS_laws_markReport : Sig := ⟨⟨numD 0 [.agg [.konst (.vec 0), .konst (.vec 1), .konst (.vec 2), .int .i64], .int .i64], [.row .i, .row .i, .row .i], []⟩, .one (.int .i64), [.row .i, .row .i, .row .i], [(0, 0, big), (1, 0, big), (2, 0, big)], true, false, []⟩
def ES_laws_markReport : Tr Sem1 := (.nd 26 (gS_laws_markIntS.sem S_laws_markIntS) .lf .lf)
def AS_laws_markReport : Anns := ⟨.lf, .lf⟩
theorem kS_laws_markReport (x1 : gS_laws_markReport.D.Ty) : gS_laws_markReport.den ES_laws_markReport TT AS_laws_markReport F Tryd.f14 x1 = S_laws_markReport x1 := by kernel_rfl
theorem okS_laws_markReport : SemOK Tryd.prog Ly 14 (gS_laws_markReport.sem S_laws_markReport) := typed_ok2 (A := AS_laws_markReport) (F := F) ⟨tok, eqs, Tr.All.get (t := ES_laws_markReport) ⟨okS_laws_markIntS, trivial, trivial⟩, mix⟩ Tryd.func14 (by kernel_rfl) (by kernel_rfl) gS_laws_markReport rfl S_laws_markReport kS_laws_markReport
def gS_laws_markText : Sig := ⟨⟨numD 0 [.int .i64], [], []⟩, .one (.str), [], [], true, false, []⟩
def ES_laws_markText : Tr Sem1 := .lf
def AS_laws_markText : Anns := ⟨(.nd 0 (.loop ⟨[(0, (.int .i64)), (3, .str)], [], []⟩) .lf .lf), .lf⟩
theorem kS_laws_markText (x1 : gS_laws_markText.D.Ty) : gS_laws_markText.den ES_laws_markText TT AS_laws_markText F Tryd.f27 x1 = S_laws_markText x1 := by kernel_rfl
theorem okS_laws_markText : SemOK Tryd.prog Ly 27 (gS_laws_markText.sem S_laws_markText) := typed_ok2 (A := AS_laws_markText) (F := F) ⟨tok, eqs, Tr.All.get (t := ES_laws_markText) trivial, mix⟩ Tryd.func27 (by kernel_rfl) (by kernel_rfl) gS_laws_markText rfl S_laws_markText kS_laws_markText
def gS_laws_markStringS : Sig := ⟨⟨numD 0 [.konst (.vec 0), .int .i64], [.row .s], []⟩, .one (.int .i64), [.row .s], [(0, 0, big)], true, false, []⟩
def ES_laws_markStringS : Tr Sem1 := (.nd 27 (gS_laws_markText.sem S_laws_markText) .lf .lf)
def AS_laws_markStringS : Anns := ⟨(.nd 0 (.loop ⟨[(0, (.konst (.vec 0))), (1, (.int .i64)), (5, (.int .i64))], [(.row .s)], []⟩) .lf .lf), .lf⟩
theorem kS_laws_markStringS (x1 : gS_laws_markStringS.D.Ty) : gS_laws_markStringS.den ES_laws_markStringS TT AS_laws_markStringS F Tryd.f15 x1 = S_laws_markStringS x1 := by kernel_rfl
theorem okS_laws_markStringS : SemOK Tryd.prog Ly 15 (gS_laws_markStringS.sem S_laws_markStringS) := typed_ok2 (A := AS_laws_markStringS) (F := F) ⟨tok, eqs, Tr.All.get (t := ES_laws_markStringS) ⟨okS_laws_markText, trivial, trivial⟩, mix⟩ Tryd.func15 (by kernel_rfl) (by kernel_rfl) gS_laws_markStringS rfl S_laws_markStringS kS_laws_markStringS
def gS_laws_heldStringS : Sig := ⟨⟨numD 0 [.list .s, .int .i64], [], []⟩, .one (.int .i64), [], [], false, false, []⟩
def ES_laws_heldStringS : Tr Sem1 := (.nd 27 (gS_laws_markText.sem S_laws_markText) .lf .lf)
def AS_laws_heldStringS : Anns := ⟨(.nd 0 (.loop ⟨[(0, (.list .s)), (1, (.int .i64)), (5, (.int .i64))], [], []⟩) .lf .lf), .lf⟩
theorem kS_laws_heldStringS (x1 : gS_laws_heldStringS.D.Ty) : gS_laws_heldStringS.den ES_laws_heldStringS TT AS_laws_heldStringS F Tryd.f16 x1 = S_laws_heldStringS x1 := by kernel_rfl
theorem okS_laws_heldStringS : SemOK Tryd.prog Ly 16 (gS_laws_heldStringS.sem S_laws_heldStringS) := typed_ok2 (A := AS_laws_heldStringS) (F := F) ⟨tok, eqs, Tr.All.get (t := ES_laws_heldStringS) ⟨okS_laws_markText, trivial, trivial⟩, mix⟩ Tryd.func16 (by kernel_rfl) (by kernel_rfl) gS_laws_heldStringS rfl S_laws_heldStringS kS_laws_heldStringS
def gS_laws_FnExactReportLines : Sig := ⟨⟨numD 0 [.agg [.list .i, .list .i, .list .i, .int .i64]], [], []⟩, .one (.bool), [], [], false, false, []⟩
def ES_laws_FnExactReportLines : Tr Sem1 := (.nd 12 (gS_laws_eqStringS.sem S_laws_eqStringS) (.nd 10 (gS_laws_toReport.sem S_laws_toReport) (.nd 9 (gS_spec_ReportLines.sem S_spec_ReportLines) (.nd 8 (gS_laws_szReport.sem S_laws_szReport) .lf .lf) .lf) (.nd 11 (gS_impl_ReportLines.sem S_impl_ReportLines) .lf .lf)) (.nd 15 (gS_laws_markStringS.sem S_laws_markStringS) (.nd 14 (gS_laws_markReport.sem S_laws_markReport) (.nd 13 (gS_laws_eqReport.sem S_laws_eqReport) .lf .lf) .lf) (.nd 16 (gS_laws_heldStringS.sem S_laws_heldStringS) .lf .lf)))
def AS_laws_FnExactReportLines : Anns := ⟨.lf, .lf⟩
theorem kS_laws_FnExactReportLines (x1 : gS_laws_FnExactReportLines.D.Ty) : gS_laws_FnExactReportLines.den ES_laws_FnExactReportLines TT AS_laws_FnExactReportLines F Tryd.f4 x1 = S_laws_FnExactReportLines x1 := by kernel_rfl
theorem okS_laws_FnExactReportLines : SemOK Tryd.prog Ly 4 (gS_laws_FnExactReportLines.sem S_laws_FnExactReportLines) := typed_ok2 (A := AS_laws_FnExactReportLines) (F := F) ⟨tok, eqs, Tr.All.get (t := ES_laws_FnExactReportLines) ⟨okS_laws_eqStringS, ⟨okS_laws_toReport, ⟨okS_spec_ReportLines, ⟨okS_laws_szReport, trivial, trivial⟩, trivial⟩, ⟨okS_impl_ReportLines, trivial, trivial⟩⟩, ⟨okS_laws_markStringS, ⟨okS_laws_markReport, ⟨okS_laws_eqReport, trivial, trivial⟩, trivial⟩, ⟨okS_laws_heldStringS, trivial, trivial⟩⟩⟩, mix⟩ Tryd.func4 (by kernel_rfl) (by kernel_rfl) gS_laws_FnExactReportLines rfl S_laws_FnExactReportLines kS_laws_FnExactReportLines
end Go.Proofs.YtkdcimbonbjljaaDoor.ReportLines
