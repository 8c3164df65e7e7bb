/- Theory for the proofs of this claim: see its last text. -/
import Derived.Test.YtmpliclmlpjopaaGreatFnExecInstr
import Derived.Test.YtmpliclmlpjopaaGreatDenF
import Derived.Test.YtmpliclmlpjopaaGreatShl
import Derived.Test.YtmpliclmlpjopaaGreatProg
import Derived.KernelRfl
set_option maxRecDepth 100000
set_option maxHeartbeats 4000000
set_option linter.unusedVariables false
noncomputable section
namespace Go.Proofs.YtmpliclmlpjopaaGreat.ExecInstr
open Go Go.Den Go.Den.G Go.Proofs Go.Proofs.YtmpliclmlpjopaaGreat
abbrev B11:BT:= .var [(.arr .i 16),(.int .i64),(.int .i64)]
abbrev V10:VT:= .agg [.int .i64,.int .i64,.int .i64,.int .i64,.int .i64,.int .i64,.int .i64]
abbrev B9:BT:= .var [.arr .i 16,.int .i64,.int .i64,.list .page,.int .i64,.konst (.vec 2),.int .i64]
abbrev B8:BT:= .var [.arr .i 16,.int .i64,.int .i64,.list .page,.int .i64,.konst (.vec 1),.int .i64]
abbrev B7:BT:= .var [.arr .i 16,.int .i64,.int .i64,.konst (.vec 3),.int .i64,.konst (.vec 4),.int .i64]
abbrev B6:BT:= .var [.arr .i 16,.int .i64,.int .i64,.konst (.vec 1),.int .i64,.konst (.vec 2),.int .i64]
abbrev B5:BT:= .var [(.int .i64),(.int .i64),(.int .i64),(.int .i64),(.int .i64),(.int .i64),(.int .i64)]
abbrev B4:BT:= .var [(.arr .i 16),(.int .i64),(.int .i64),(.list .page),(.int .i64),(.konst (.vec 2)),(.int .i64)]
abbrev B3:BT:= .var [(.arr .i 16),(.int .i64),(.int .i64),(.konst (.vec 6)),(.int .i64),(.konst (.vec 7)),(.int .i64)]
abbrev B2:BT:= .var [(.arr .i 16),(.int .i64),(.int .i64),(.konst (.vec 5)),(.int .i64),(.konst (.vec 6)),(.int .i64)]
abbrev B1:BT:= .var [(.arr .i 16),(.int .i64),(.int .i64),(.konst (.vec 3)),(.int .i64),(.konst (.vec 4)),(.int .i64)]
abbrev B0:BT:= .var [(.int .i64),(.int .i64),(.int .i64),(.int .i64),(.int .i64),(.int .i64),(.int .i64),(.int .i64),(.int .i64),(.int .i64),(.int .i64),(.int .i64),(.int .i64),(.int .i64),(.int .i64),(.int .i64),(.int .i64),(.int .i64),(.int .i64)]
def Ly:Lay:=[(0,fun cs=>∃m,cs= #[.int .i64 m])]
def TT:Tr TI:=(.nd 139 ⟨.fn,1,8,[.nilf],none,false⟩ (.nd 70 ⟨.fn,1,8,[.nilf],none,false⟩ (.nd 32 ⟨.struct [(0,3),(1,3),(2,3),(3,3),(4,3),(5,3),(6,3)],7,56,[.int .i64 0,.int .i64 0,.int .i64 0,.int .i64 0,.int .i64 0,.int .i64 0,.int .i64 0],none,true⟩ (.nd 16 ⟨.ptr 263,1,8,[.nilp],none,false⟩ (.nd 8 ⟨.struct [(0,2),(1,3),(2,4),(3,6)],4,24,[.int .i64 0,.int .i64 0,.bool false,.int .u8 0],none,false⟩ (.nd 4 ⟨.bool,1,1,[.bool false],some .b,false⟩ (.nd 2 ⟨.int .i64,1,8,[.int .i64 0],some .i,false⟩ (.nd 1 ⟨.fn,1,8,[.nilf],none,false⟩ .lf .lf) (.nd 3 ⟨.int .i64,1,8,[.int .i64 0],some .i,false⟩ .lf .lf)) (.nd 6 ⟨.int .u8,1,1,[.int .u8 0],some .u,false⟩ (.nd 5 ⟨.int .u8,1,1,[.int .u8 0],some .u,false⟩ .lf .lf) (.nd 7 ⟨.struct [(0,2),(1,3),(2,4),(3,6)],4,24,[.int .i64 0,.int .i64 0,.bool false,.int .u8 0],none,false⟩ .lf .lf))) (.nd 12 ⟨.int .u64,1,8,[.int .u64 0],none,false⟩ (.nd 10 ⟨.str,1,16,[.str []],some .s,false⟩ (.nd 9 ⟨.str,1,16,[.str []],some .s,false⟩ .lf .lf) (.nd 11 ⟨.str,1,16,[.str []],some .s,false⟩ .lf .lf)) (.nd 14 ⟨.struct [(0,9),(1,12)],2,24,[.str [],.int .u64 0],none,false⟩ (.nd 13 ⟨.struct [(0,9),(1,12)],2,24,[.str [],.int .u64 0],none,false⟩ .lf .lf) (.nd 15 ⟨.ptr 260,1,8,[.nilp],none,false⟩ .lf .lf)))) (.nd 24 ⟨.struct [(0,23),(16,3),(17,3)],18,144,[.arr .i 16 [],.int .i64 0,.int .i64 0],none,false⟩ (.nd 20 ⟨.iface,1,16,[.err true],none,false⟩ (.nd 18 ⟨.struct [(0,17)],1,8,[.nilp],none,false⟩ (.nd 17 ⟨.ptr 271,1,8,[.nilp],none,false⟩ .lf .lf) (.nd 19 ⟨.struct [(0,17)],1,8,[.nilp],none,false⟩ .lf .lf)) (.nd 22 ⟨.slice 5,1,24,[.nils],none,false⟩ (.nd 21 ⟨.int .i32,1,4,[.int .i32 0],none,false⟩ .lf .lf) (.nd 23 ⟨.array 16 3,16,128,[.arr .i 16 []],none,false⟩ .lf .lf))) (.nd 28 ⟨.struct [(0,27)],1,24,[.nils],none,false⟩ (.nd 26 ⟨.fn,1,8,[.nilf],none,false⟩ (.nd 25 ⟨.struct [(0,23),(16,3),(17,3)],18,144,[.arr .i 16 [],.int .i64 0,.int .i64 0],none,true⟩ .lf .lf) (.nd 27 ⟨.slice 103,1,24,[.nils],none,false⟩ .lf .lf)) (.nd 30 ⟨.fn,1,8,[.nilf],none,false⟩ (.nd 29 ⟨.struct [(0,27)],1,24,[.nils],none,false⟩ .lf .lf) (.nd 31 ⟨.struct [(0,3),(1,3),(2,3),(3,3),(4,3),(5,3),(6,3)],7,56,[.int .i64 0,.int .i64 0,.int .i64 0,.int .i64 0,.int .i64 0,.int .i64 0,.int .i64 0],none,false⟩ .lf .lf))))) (.nd 52 ⟨.struct [(0,50),(1,4),(2,4),(3,4)],4,32,[.nils,.bool false,.bool false,.bool false],none,false⟩ (.nd 43 ⟨.fn,1,8,[.nilf],none,false⟩ (.nd 36 ⟨.fn,1,8,[.nilf],none,false⟩ (.nd 34 ⟨.struct [(0,3),(1,3),(2,3),(3,3),(4,32),(11,32),(18,3)],19,152,[.int .i64 0,.int .i64 0,.int .i64 0,.int .i64 0,.int .i64 0,.int .i64 0,.int .i64 0,.int .i64 0,.int .i64 0,.int .i64 0,.int .i64 0,.int .i64 0,.int .i64 0,.int .i64 0,.int .i64 0,.int .i64 0,.int .i64 0,.int .i64 0,.int .i64 0],some .ins,false⟩ (.nd 33 ⟨.struct [(0,3),(1,3),(2,3),(3,3),(4,32),(11,32),(18,3)],19,152,[.int .i64 0,.int .i64 0,.int .i64 0,.int .i64 0,.int .i64 0,.int .i64 0,.int .i64 0,.int .i64 0,.int .i64 0,.int .i64 0,.int .i64 0,.int .i64 0,.int .i64 0,.int .i64 0,.int .i64 0,.int .i64 0,.int .i64 0,.int .i64 0,.int .i64 0],none,false⟩ .lf .lf) (.nd 35 ⟨.fn,1,8,[.nilf],none,false⟩ .lf .lf)) (.nd 39 ⟨.slice 46,1,24,[.nils],none,false⟩ (.nd 38 ⟨.fn,1,8,[.nilf],none,false⟩ .lf .lf) (.nd 41 ⟨.fn,1,8,[.nilf],none,false⟩ .lf .lf))) (.nd 48 ⟨.fn,1,8,[.nilf],none,false⟩ (.nd 45 ⟨.struct [(0,3),(1,3),(2,3),(3,3)],4,32,[.int .i64 0,.int .i64 0,.int .i64 0,.int .i64 0],none,false⟩ (.nd 44 ⟨.fn,1,8,[.nilf],none,false⟩ .lf .lf) (.nd 46 ⟨.struct [(0,3),(1,3),(2,3),(3,3)],4,32,[.int .i64 0,.int .i64 0,.int .i64 0,.int .i64 0],some .acc,true⟩ .lf .lf)) (.nd 50 ⟨.slice 3,1,24,[.nils],none,false⟩ (.nd 49 ⟨.fn,1,8,[.nilf],none,false⟩ .lf .lf) (.nd 51 ⟨.struct [(0,50),(1,4),(2,4),(3,4)],4,32,[.nils,.bool false,.bool false,.bool false],none,false⟩ .lf .lf)))) (.nd 62 ⟨.struct [(0,61)],1,24,[.nils],none,false⟩ (.nd 58 ⟨.fn,1,8,[.nilf],none,false⟩ (.nd 55 ⟨.fn,1,8,[.nilf],none,false⟩ (.nd 54 ⟨.fn,1,8,[.nilf],none,false⟩ .lf .lf) (.nd 57 ⟨.fn,1,8,[.nilf],none,false⟩ .lf .lf)) (.nd 60 ⟨.struct [(0,23),(16,3),(17,3)],18,144,[.arr .i 16 [],.int .i64 0,.int .i64 0],none,true⟩ (.nd 59 ⟨.fn,1,8,[.nilf],none,false⟩ .lf .lf) (.nd 61 ⟨.slice 140,1,24,[.nils],none,false⟩ .lf .lf))) (.nd 66 ⟨.struct [(0,3),(1,3),(2,3),(3,3),(4,64),(11,64),(18,3)],19,152,[.int .i64 0,.int .i64 0,.int .i64 0,.int .i64 0,.int .i64 0,.int .i64 0,.int .i64 0,.int .i64 0,.int .i64 0,.int .i64 0,.int .i64 0,.int .i64 0,.int .i64 0,.int .i64 0,.int .i64 0,.int .i64 0,.int .i64 0,.int .i64 0,.int .i64 0],some .ins,false⟩ (.nd 64 ⟨.struct [(0,3),(1,3),(2,3),(3,3),(4,3),(5,3),(6,3)],7,56,[.int .i64 0,.int .i64 0,.int .i64 0,.int .i64 0,.int .i64 0,.int .i64 0,.int .i64 0],none,true⟩ (.nd 63 ⟨.struct [(0,61)],1,24,[.nils],none,false⟩ .lf .lf) (.nd 65 ⟨.struct [(0,3),(1,3),(2,3),(3,3),(4,64),(11,64),(18,3)],19,152,[.int .i64 0,.int .i64 0,.int .i64 0,.int .i64 0,.int .i64 0,.int .i64 0,.int .i64 0,.int .i64 0,.int .i64 0,.int .i64 0,.int .i64 0,.int .i64 0,.int .i64 0,.int .i64 0,.int .i64 0,.int .i64 0,.int .i64 0,.int .i64 0,.int .i64 0],none,false⟩ .lf .lf)) (.nd 68 ⟨.fn,1,8,[.nilf],none,false⟩ (.nd 67 ⟨.fn,1,8,[.nilf],none,false⟩ .lf .lf) (.nd 69 ⟨.fn,1,8,[.nilf],none,false⟩ .lf .lf)))))) (.nd 106 ⟨.fn,1,8,[.nilf],none,false⟩ (.nd 88 ⟨.fn,1,8,[.nilf],none,false⟩ (.nd 79 ⟨.fn,1,8,[.nilf],none,false⟩ (.nd 74 ⟨.fn,1,8,[.nilf],none,false⟩ (.nd 72 ⟨.fn,1,8,[.nilf],none,false⟩ (.nd 71 ⟨.fn,1,8,[.nilf],none,false⟩ .lf .lf) (.nd 73 ⟨.fn,1,8,[.nilf],none,false⟩ .lf .lf)) (.nd 77 ⟨.fn,1,8,[.nilf],none,false⟩ (.nd 75 ⟨.fn,1,8,[.nilf],none,false⟩ .lf .lf) (.nd 78 ⟨.fn,1,8,[.nilf],none,false⟩ .lf .lf))) (.nd 84 ⟨.fn,1,8,[.nilf],none,false⟩ (.nd 82 ⟨.fn,1,8,[.nilf],none,false⟩ (.nd 80 ⟨.fn,1,8,[.nilf],none,false⟩ .lf .lf) (.nd 83 ⟨.ptr 116,1,8,[.nilp],none,false⟩ .lf .lf)) (.nd 86 ⟨.fn,1,8,[.nilf],none,false⟩ (.nd 85 ⟨.fn,1,8,[.nilf],none,false⟩ .lf .lf) (.nd 87 ⟨.fn,1,8,[.nilf],none,false⟩ .lf .lf)))) (.nd 98 ⟨.fn,1,8,[.nilf],none,false⟩ (.nd 93 ⟨.fn,1,8,[.nilf],none,false⟩ (.nd 91 ⟨.fn,1,8,[.nilf],none,false⟩ (.nd 90 ⟨.fn,1,8,[.nilf],none,false⟩ .lf .lf) (.nd 92 ⟨.fn,1,8,[.nilf],none,false⟩ .lf .lf)) (.nd 95 ⟨.int .u64,1,8,[.int .u64 0],none,false⟩ (.nd 94 ⟨.fn,1,8,[.nilf],none,false⟩ .lf .lf) (.nd 96 ⟨.fn,1,8,[.nilf],none,false⟩ .lf .lf))) (.nd 102 ⟨.struct [(0,3),(1,3),(2,9)],3,32,[.int .i64 0,.int .i64 0,.str []],none,false⟩ (.nd 100 ⟨.fn,1,8,[.nilf],none,false⟩ (.nd 99 ⟨.fn,1,8,[.nilf],none,false⟩ .lf .lf) (.nd 101 ⟨.fn,1,8,[.nilf],none,false⟩ .lf .lf)) (.nd 104 ⟨.fn,1,8,[.nilf],none,false⟩ (.nd 103 ⟨.struct [(0,3),(1,3),(2,9)],3,32,[.int .i64 0,.int .i64 0,.str []],some .page,true⟩ .lf .lf) (.nd 105 ⟨.fn,1,8,[.nilf],none,false⟩ .lf .lf))))) (.nd 123 ⟨.fn,1,8,[.nilf],none,false⟩ (.nd 114 ⟨.fn,1,8,[.nilf],none,false⟩ (.nd 110 ⟨.fn,1,8,[.nilf],none,false⟩ (.nd 108 ⟨.fn,1,8,[.nilf],none,false⟩ (.nd 107 ⟨.fn,1,8,[.nilf],none,false⟩ .lf .lf) (.nd 109 ⟨.fn,1,8,[.nilf],none,false⟩ .lf .lf)) (.nd 112 ⟨.fn,1,8,[.nilf],none,false⟩ (.nd 111 ⟨.fn,1,8,[.nilf],none,false⟩ .lf .lf) (.nd 113 ⟨.fn,1,8,[.nilf],none,false⟩ .lf .lf))) (.nd 118 ⟨.fn,1,8,[.nilf],none,false⟩ (.nd 116 ⟨.struct [(0,22),(1,3),(2,3)],3,40,[.nils,.int .i64 0,.int .i64 0],none,false⟩ (.nd 115 ⟨.struct [(0,22),(1,3),(2,3)],3,40,[.nils,.int .i64 0,.int .i64 0],none,false⟩ .lf .lf) (.nd 117 ⟨.fn,1,8,[.nilf],none,false⟩ .lf .lf)) (.nd 120 ⟨.fn,1,8,[.nilf],none,false⟩ (.nd 119 ⟨.fn,1,8,[.nilf],none,false⟩ .lf .lf) (.nd 122 ⟨.fn,1,8,[.nilf],none,false⟩ .lf .lf)))) (.nd 132 ⟨.struct [(0,25),(18,29),(19,3),(20,39),(21,3)],22,208,[.arr .i 16 [],.int .i64 0,.int .i64 0,.nils,.int .i64 0,.nils,.int .i64 0],none,false⟩ (.nd 127 ⟨.fn,1,8,[.nilf],none,false⟩ (.nd 125 ⟨.fn,1,8,[.nilf],none,false⟩ (.nd 124 ⟨.fn,1,8,[.nilf],none,false⟩ .lf .lf) (.nd 126 ⟨.fn,1,8,[.nilf],none,false⟩ .lf .lf)) (.nd 130 ⟨.fn,1,8,[.nilf],none,false⟩ (.nd 128 ⟨.fn,1,8,[.nilf],none,false⟩ .lf .lf) (.nd 131 ⟨.ptr 133,1,8,[.nilp],none,false⟩ .lf .lf))) (.nd 136 ⟨.ptr 25,1,8,[.nilp],none,false⟩ (.nd 134 ⟨.fn,1,8,[.nilf],none,false⟩ (.nd 133 ⟨.struct [(0,25),(18,29),(19,3),(20,39),(21,3)],22,208,[.arr .i 16 [],.int .i64 0,.int .i64 0,.nils,.int .i64 0,.nils,.int .i64 0],none,false⟩ .lf .lf) (.nd 135 ⟨.fn,1,8,[.nilf],none,false⟩ .lf .lf)) (.nd 138 ⟨.fn,1,8,[.nilf],none,false⟩ (.nd 137 ⟨.fn,1,8,[.nilf],none,false⟩ .lf .lf) .lf)))))) (.nd 208 ⟨.fn,1,8,[.nilf],none,false⟩ (.nd 175 ⟨.fn,1,8,[.nilf],none,false⟩ (.nd 157 ⟨.fn,1,8,[.nilf],none,false⟩ (.nd 149 ⟨.fn,1,8,[.nilf],none,false⟩ (.nd 143 ⟨.struct [(0,25),(18,29),(19,3),(20,39),(21,3)],22,208,[.arr .i 16 [],.int .i64 0,.int .i64 0,.nils,.int .i64 0,.nils,.int .i64 0],none,false⟩ (.nd 141 ⟨.ptr 143,1,8,[.nilp],none,false⟩ (.nd 140 ⟨.struct [(0,3),(1,3),(2,9)],3,32,[.int .i64 0,.int .i64 0,.str []],some .page,true⟩ .lf .lf) (.nd 142 ⟨.struct [(0,25),(18,29),(19,3),(20,39),(21,3)],22,208,[.arr .i 16 [],.int .i64 0,.int .i64 0,.nils,.int .i64 0,.nils,.int .i64 0],none,false⟩ .lf .lf)) (.nd 145 ⟨.fn,1,8,[.nilf],none,false⟩ (.nd 144 ⟨.fn,1,8,[.nilf],none,false⟩ .lf .lf) (.nd 147 ⟨.fn,1,8,[.nilf],none,false⟩ .lf .lf))) (.nd 153 ⟨.struct [(0,34),(19,3),(20,4),(21,9)],22,184,[.int .i64 0,.int .i64 0,.int .i64 0,.int .i64 0,.int .i64 0,.int .i64 0,.int .i64 0,.int .i64 0,.int .i64 0,.int .i64 0,.int .i64 0,.int .i64 0,.int .i64 0,.int .i64 0,.int .i64 0,.int .i64 0,.int .i64 0,.int .i64 0,.int .i64 0,.int .i64 0,.bool false,.str []],none,false⟩ (.nd 151 ⟨.ptr 153,1,8,[.nilp],none,false⟩ (.nd 150 ⟨.fn,1,8,[.nilf],none,false⟩ .lf .lf) (.nd 152 ⟨.struct [(0,34),(19,3),(20,4),(21,9)],22,184,[.int .i64 0,.int .i64 0,.int .i64 0,.int .i64 0,.int .i64 0,.int .i64 0,.int .i64 0,.int .i64 0,.int .i64 0,.int .i64 0,.int .i64 0,.int .i64 0,.int .i64 0,.int .i64 0,.int .i64 0,.int .i64 0,.int .i64 0,.int .i64 0,.int .i64 0,.int .i64 0,.bool false,.str []],none,false⟩ .lf .lf)) (.nd 155 ⟨.fn,1,8,[.nilf],none,false⟩ (.nd 154 ⟨.int .u64,1,8,[.int .u64 0],none,false⟩ .lf .lf) (.nd 156 ⟨.fn,1,8,[.nilf],none,false⟩ .lf .lf)))) (.nd 167 ⟨.fn,1,8,[.nilf],none,false⟩ (.nd 161 ⟨.fn,1,8,[.nilf],none,false⟩ (.nd 159 ⟨.slice 9,1,24,[.nils],none,false⟩ (.nd 158 ⟨.fn,1,8,[.nilf],none,false⟩ .lf .lf) (.nd 160 ⟨.fn,1,8,[.nilf],none,false⟩ .lf .lf)) (.nd 164 ⟨.fn,1,8,[.nilf],none,false⟩ (.nd 162 ⟨.fn,1,8,[.nilf],none,false⟩ .lf .lf) (.nd 166 ⟨.fn,1,8,[.nilf],none,false⟩ .lf .lf))) (.nd 171 ⟨.fn,1,8,[.nilf],none,false⟩ (.nd 169 ⟨.fn,1,8,[.nilf],none,false⟩ (.nd 168 ⟨.ptr 3,1,8,[.nilp],none,false⟩ .lf .lf) (.nd 170 ⟨.fn,1,8,[.nilf],none,false⟩ .lf .lf)) (.nd 173 ⟨.array 16 4,16,16,[.arr .b 16 []],none,false⟩ (.nd 172 ⟨.fn,1,8,[.nilf],none,false⟩ .lf .lf) (.nd 174 ⟨.fn,1,8,[.nilf],none,false⟩ .lf .lf))))) (.nd 192 ⟨.struct [(0,9),(1,3),(2,3),(3,4),(4,3),(5,4),(6,3),(7,182),(12,3),(13,3),(14,3),(15,34)],34,280,[.str [],.int .i64 0,.int .i64 0,.bool false,.int .i64 0,.bool false,.int .i64 0,.int .i64 0,.int .i64 0,.int .i64 0,.bool false,.int .i64 0,.int .i64 0,.int .i64 0,.int .i64 0,.int .i64 0,.int .i64 0,.int .i64 0,.int .i64 0,.int .i64 0,.int .i64 0,.int .i64 0,.int .i64 0,.int .i64 0,.int .i64 0,.int .i64 0,.int .i64 0,.int .i64 0,.int .i64 0,.int .i64 0,.int .i64 0,.int .i64 0,.int .i64 0,.int .i64 0],none,false⟩ (.nd 184 ⟨.fn,1,8,[.nilf],none,false⟩ (.nd 179 ⟨.struct [(0,9),(1,3),(2,3),(3,4),(4,3)],5,48,[.str [],.int .i64 0,.int .i64 0,.bool false,.int .i64 0],none,false⟩ (.nd 177 ⟨.fn,1,8,[.nilf],none,false⟩ (.nd 176 ⟨.fn,1,8,[.nilf],none,false⟩ .lf .lf) (.nd 178 ⟨.ptr 180,1,8,[.nilp],none,false⟩ .lf .lf)) (.nd 181 ⟨.struct [(0,3),(1,3),(2,3),(3,4),(4,3)],5,40,[.int .i64 0,.int .i64 0,.int .i64 0,.bool false,.int .i64 0],none,false⟩ (.nd 180 ⟨.struct [(0,9),(1,3),(2,3),(3,4),(4,3)],5,48,[.str [],.int .i64 0,.int .i64 0,.bool false,.int .i64 0],none,true⟩ .lf .lf) (.nd 182 ⟨.struct [(0,3),(1,3),(2,3),(3,4),(4,3)],5,40,[.int .i64 0,.int .i64 0,.int .i64 0,.bool false,.int .i64 0],none,true⟩ .lf .lf))) (.nd 188 ⟨.fn,1,8,[.nilf],none,false⟩ (.nd 186 ⟨.fn,1,8,[.nilf],none,false⟩ (.nd 185 ⟨.fn,1,8,[.nilf],none,false⟩ .lf .lf) (.nd 187 ⟨.fn,1,8,[.nilf],none,false⟩ .lf .lf)) (.nd 190 ⟨.ptr 192,1,8,[.nilp],none,false⟩ (.nd 189 ⟨.fn,1,8,[.nilf],none,false⟩ .lf .lf) (.nd 191 ⟨.struct [(0,9),(1,3),(2,3),(3,4),(4,3),(5,4),(6,3),(7,182),(12,3),(13,3),(14,3),(15,34)],34,280,[.str [],.int .i64 0,.int .i64 0,.bool false,.int .i64 0,.bool false,.int .i64 0,.int .i64 0,.int .i64 0,.int .i64 0,.bool false,.int .i64 0,.int .i64 0,.int .i64 0,.int .i64 0,.int .i64 0,.int .i64 0,.int .i64 0,.int .i64 0,.int .i64 0,.int .i64 0,.int .i64 0,.int .i64 0,.int .i64 0,.int .i64 0,.int .i64 0,.int .i64 0,.int .i64 0,.int .i64 0,.int .i64 0,.int .i64 0,.int .i64 0,.int .i64 0,.int .i64 0],none,false⟩ .lf .lf)))) (.nd 200 ⟨.fn,1,8,[.nilf],none,false⟩ (.nd 196 ⟨.fn,1,8,[.nilf],none,false⟩ (.nd 194 ⟨.fn,1,8,[.nilf],none,false⟩ (.nd 193 ⟨.slice 1,1,24,[.nils],none,false⟩ .lf .lf) (.nd 195 ⟨.fn,1,8,[.nilf],none,false⟩ .lf .lf)) (.nd 198 ⟨.slice 4,1,24,[.nils],none,false⟩ (.nd 197 ⟨.fn,1,8,[.nilf],none,false⟩ .lf .lf) (.nd 199 ⟨.fn,1,8,[.nilf],none,false⟩ .lf .lf))) (.nd 205 ⟨.fn,1,8,[.nilf],none,false⟩ (.nd 203 ⟨.fn,1,8,[.nilf],none,false⟩ (.nd 201 ⟨.fn,1,8,[.nilf],none,false⟩ .lf .lf) (.nd 204 ⟨.fn,1,8,[.nilf],none,false⟩ .lf .lf)) (.nd 207 ⟨.fn,1,8,[.nilf],none,false⟩ (.nd 206 ⟨.fn,1,8,[.nilf],none,false⟩ .lf .lf) .lf))))) (.nd 242 ⟨.fn,1,8,[.nilf],none,false⟩ (.nd 225 ⟨.fn,1,8,[.nilf],none,false⟩ (.nd 217 ⟨.fn,1,8,[.nilf],none,false⟩ (.nd 213 ⟨.fn,1,8,[.nilf],none,false⟩ (.nd 211 ⟨.fn,1,8,[.nilf],none,false⟩ (.nd 210 ⟨.fn,1,8,[.nilf],none,false⟩ .lf .lf) (.nd 212 ⟨.fn,1,8,[.nilf],none,false⟩ .lf .lf)) (.nd 215 ⟨.fn,1,8,[.nilf],none,false⟩ (.nd 214 ⟨.fn,1,8,[.nilf],none,false⟩ .lf .lf) (.nd 216 ⟨.fn,1,8,[.nilf],none,false⟩ .lf .lf))) (.nd 221 ⟨.fn,1,8,[.nilf],none,false⟩ (.nd 219 ⟨.fn,1,8,[.nilf],none,false⟩ (.nd 218 ⟨.ptr 34,1,8,[.nilp],none,false⟩ .lf .lf) (.nd 220 ⟨.fn,1,8,[.nilf],none,false⟩ .lf .lf)) (.nd 223 ⟨.fn,1,8,[.nilf],none,false⟩ (.nd 222 ⟨.fn,1,8,[.nilf],none,false⟩ .lf .lf) (.nd 224 ⟨.fn,1,8,[.nilf],none,false⟩ .lf .lf)))) (.nd 234 ⟨.int .u32,1,4,[.int .u32 0],none,false⟩ (.nd 230 ⟨.fn,1,8,[.nilf],none,false⟩ (.nd 227 ⟨.int .i64,1,8,[.int .i64 0],some .i,false⟩ (.nd 226 ⟨.fn,1,8,[.nilf],none,false⟩ .lf .lf) (.nd 229 ⟨.fn,1,8,[.nilf],none,false⟩ .lf .lf)) (.nd 232 ⟨.fn,1,8,[.nilf],none,false⟩ (.nd 231 ⟨.fn,1,8,[.nilf],none,false⟩ .lf .lf) (.nd 233 ⟨.fn,1,8,[.nilf],none,false⟩ .lf .lf))) (.nd 238 ⟨.fn,1,8,[.nilf],none,false⟩ (.nd 236 ⟨.fn,1,8,[.nilf],none,false⟩ (.nd 235 ⟨.fn,1,8,[.nilf],none,false⟩ .lf .lf) (.nd 237 ⟨.fn,1,8,[.nilf],none,false⟩ .lf .lf)) (.nd 240 ⟨.fn,1,8,[.nilf],none,false⟩ (.nd 239 ⟨.fn,1,8,[.nilf],none,false⟩ .lf .lf) (.nd 241 ⟨.fn,1,8,[.nilf],none,false⟩ .lf .lf))))) (.nd 259 ⟨.struct [(0,17),(1,17),(2,17),(3,9)],4,40,[.nilp,.nilp,.nilp,.str []],none,false⟩ (.nd 251 ⟨.fn,1,8,[.nilf],none,false⟩ (.nd 247 ⟨.iface,1,16,[.err true],none,false⟩ (.nd 244 ⟨.fn,1,8,[.nilf],none,false⟩ (.nd 243 ⟨.fn,1,8,[.nilf],none,false⟩ .lf .lf) (.nd 246 ⟨.fn,1,8,[.nilf],none,false⟩ .lf .lf)) (.nd 249 ⟨.ptr 103,1,8,[.nilp],none,false⟩ (.nd 248 ⟨.iface,1,16,[.err true],none,false⟩ .lf .lf) (.nd 250 ⟨.int .u64,1,8,[.int .u64 0],none,false⟩ .lf .lf))) (.nd 255 ⟨.fn,1,8,[.nilf],none,false⟩ (.nd 253 ⟨.fn,1,8,[.nilf],none,false⟩ (.nd 252 ⟨.fn,1,8,[.nilf],none,false⟩ .lf .lf) (.nd 254 ⟨.fn,1,8,[.nilf],none,false⟩ .lf .lf)) (.nd 257 ⟨.fn,1,8,[.nilf],none,false⟩ (.nd 256 ⟨.ptr 250,1,8,[.nilp],none,false⟩ .lf .lf) (.nd 258 ⟨.ptr 273,1,8,[.nilp],none,false⟩ .lf .lf)))) (.nd 267 ⟨.ptr 5,1,8,[.nilp],none,false⟩ (.nd 263 ⟨.struct [(0,261)],0,0,[],none,false⟩ (.nd 261 ⟨.array 0 16,0,0,[],none,false⟩ (.nd 260 ⟨.struct [(0,17),(1,17),(2,17),(3,9)],4,40,[.nilp,.nilp,.nilp,.str []],none,false⟩ .lf .lf) (.nd 262 ⟨.struct [(0,261)],0,0,[],none,false⟩ .lf .lf)) (.nd 265 ⟨.int .u8,1,1,[.int .u8 0],some .u,false⟩ (.nd 264 ⟨.int .u8,1,1,[.int .u8 0],some .u,false⟩ .lf .lf) (.nd 266 ⟨.fn,1,8,[.nilf],none,false⟩ .lf .lf))) (.nd 271 ⟨.struct [(0,12),(1,12),(2,234),(3,264),(4,5),(5,5),(6,265),(7,266),(8,267),(9,268),(10,269)],11,48,[.int .u64 0,.int .u64 0,.int .u32 0,.int .u8 0,.int .u8 0,.int .u8 0,.int .u8 0,.nilf,.nilp,.int .i32 0,.int .i32 0],none,false⟩ (.nd 269 ⟨.int .i32,1,4,[.int .i32 0],none,false⟩ (.nd 268 ⟨.int .i32,1,4,[.int .i32 0],none,false⟩ .lf .lf) (.nd 270 ⟨.struct [(0,12),(1,12),(2,234),(3,264),(4,5),(5,5),(6,265),(7,266),(8,267),(9,268),(10,269)],11,48,[.int .u64 0,.int .u64 0,.int .u32 0,.int .u8 0,.int .u8 0,.int .u8 0,.int .u8 0,.nilf,.nilp,.int .i32 0,.int .i32 0],none,false⟩ .lf .lf)) (.nd 273 ⟨.struct [(0,9)],1,16,[.str []],none,false⟩ (.nd 272 ⟨.struct [(0,9)],1,16,[.str []],none,false⟩ .lf .lf) .lf)))))))
abbrev OK (n:Nat)(S:Sem1):Prop:=iO Tryz.prog Ly n S
def AN:Anns:=⟨.lf,.lf,[]⟩
theorem tok:TOK Tryz.prog TT:=by unfold TOK;kernel_rfl
theorem eqs:wZ Tryz.prog TT:=Bm (by kernel_rfl)
theorem mix:Tryz.prog.follows .mixedOrders=true:=by kernel_rfl
def g0:Sig:=⟨⟨bi 0 [.el .page,.int .i64],[],[]⟩,.one (.int .i64),[],[],false,false,[],[]⟩
theorem k0 x:g0.den Tr.lf TT AN F Tryz.f125 x=fE x:=by kernel_rfl
theorem o0:OK 125 (g0.sem fE):=ae ⟨tok,eqs,Tr.All.get (t:=Tr.lf) trivial,mix⟩ Tryz.func125 (by kernel_rfl) (by kernel_rfl) g0 rfl _ k0
def g1:Sig:=⟨⟨bi 0 [.list .page,.int .i64],[],[]⟩,.one (.int .i64),[],[],false,false,[],[]⟩
def E1:Tr Sem1:=(.nd 125 (g0.sem fE) .lf .lf)
def A1:Anns:=⟨(.nd 0 (.loop ⟨[(0,(.list .page)),(1,(.int .i64)),(5,(.int .i64))],[],[]⟩) .lf .lf),.lf,[]⟩
theorem k1 x:g1.den E1 TT A1 F Tryz.f68 x=eT x:=by kernel_rfl
theorem o1:OK 68 (g1.sem eT):=ae ⟨tok,eqs,Tr.All.get (t:=E1) ⟨o0,trivial,trivial⟩,mix⟩ Tryz.func68 (by kernel_rfl) (by kernel_rfl) g1 rfl _ k1
def g2:Sig:=⟨⟨bi 0 [.agg [.list .page],.int .i64],[],[]⟩,.one (.int .i64),[],[],false,false,[],[]⟩
def E2:Tr Sem1:=(.nd 68 (g1.sem eT) .lf .lf)
theorem k2 x:g2.den E2 TT AN F Tryz.f28 x=dY x:=by kernel_rfl
theorem o2:OK 28 (g2.sem dY):=ae ⟨tok,eqs,Tr.All.get (t:=E2) ⟨o1,trivial,trivial⟩,mix⟩ Tryz.func28 (by kernel_rfl) (by kernel_rfl) g2 rfl _ k2
def g3:Sig:=⟨⟨bi 0 [.agg [.arr .i 16]],[],[]⟩,.one (.agg [.arr .i 16]),[],[],false,false,[],[]⟩
def A3:Anns:=⟨(.nd 0 (.loop ⟨[(1,(.konst (.ptr 0 0))),(2,(.konst (.ptr 1 0))),(3,(.konst (.ptr 2 0))),(4,(.int .i64))],[(.var [(.arr .i 16)]),(.var [(.arr .i 16)]),(.var [(.arr .i 16)])],[]⟩) .lf .lf),.lf,[]⟩
theorem k3 x:g3.den Tr.lf TT A3 F Tryz.f73 x=dZ x:=by kernel_rfl
theorem o3:OK 73 (g3.sem dZ):=ae ⟨tok,eqs,Tr.All.get (t:=Tr.lf) trivial,mix⟩ Tryz.func73 (by kernel_rfl) (by kernel_rfl) g3 rfl _ k3
def g4:Sig:=⟨⟨bi 0 [.agg [.arr .i 16,.int .i64,.int .i64]],[],[]⟩,.one (.agg [.arr .i 16,.int .i64,.int .i64]),[],[],false,false,[],[]⟩
def E4:Tr Sem1:=(.nd 73 (g3.sem dZ) .lf .lf)
theorem k4 x:g4.den E4 TT AN F Tryz.f30 x=eB x:=by kernel_rfl
theorem o4:OK 30 (g4.sem eB):=ae ⟨tok,eqs,Tr.All.get (t:=E4) ⟨o3,trivial,trivial⟩,mix⟩ Tryz.func30 (by kernel_rfl) (by kernel_rfl) g4 rfl _ k4
def g5:Sig:=⟨⟨bi 0 [.el .page],[],[]⟩,.one (.el .page),[],[],false,false,[],[]⟩
theorem k5 x:g5.den Tr.lf TT AN F Tryz.f131 x=gE x:=by kernel_rfl
theorem o5:OK 131 (g5.sem gE):=ae ⟨tok,eqs,Tr.All.get (t:=Tr.lf) trivial,mix⟩ Tryz.func131 (by kernel_rfl) (by kernel_rfl) g5 rfl _ k5
def g6:Sig:=⟨⟨bi 0 [.list .page],[],[]⟩,.one (.konst (.vec 0)),[.row .page],[],false,true,[(2,0,.page)],[]⟩
def E6:Tr Sem1:=(.nd 131 (g5.sem gE) .lf .lf)
def A6:Anns:=⟨(.nd 0 (.loop ⟨[(0,(.list .page)),(3,(.konst (.vec 0))),(4,(.int .i64))],[(.row .page)],[]⟩) .lf .lf),.lf,[]⟩
theorem k6 x:g6.den E6 TT A6 F Tryz.f74 x=eU x:=by kernel_rfl
theorem o6:OK 74 (g6.sem eU):=ae ⟨tok,eqs,Tr.All.get (t:=E6) ⟨o5,trivial,trivial⟩,mix⟩ Tryz.func74 (by kernel_rfl) (by kernel_rfl) g6 rfl _ k6
def g7:Sig:=⟨⟨bi 0 [.agg [.list .page]],[],[]⟩,.one (.agg [.konst (.vec 0)]),[.row .page],[],false,true,[(2,1,.page)],[]⟩
def E7:Tr Sem1:=(.nd 74 (g6.sem eU) .lf .lf)
theorem k7 x:g7.den E7 TT AN F Tryz.f31 x=cm x:=by kernel_rfl
theorem o7:OK 31 (g7.sem cm):=ae ⟨tok,eqs,Tr.All.get (t:=E7) ⟨o6,trivial,trivial⟩,mix⟩ Tryz.func31 (by kernel_rfl) (by kernel_rfl) g7 rfl _ k7
def g8:Sig:=⟨⟨bi 0 [V10],[],[]⟩,.one (V10),[],[],false,false,[],[]⟩
theorem k8 x:g8.den Tr.lf TT AN F Tryz.f75 x=eM x:=by kernel_rfl
theorem o8:OK 75 (g8.sem eM):=ae ⟨tok,eqs,Tr.All.get (t:=Tr.lf) trivial,mix⟩ Tryz.func75 (by kernel_rfl) (by kernel_rfl) g8 rfl _ k8
def g9:Sig:=⟨⟨bi 0 [.el .ins],[],[]⟩,.one (.el .ins),[],[],false,false,[],[]⟩
def E9:Tr Sem1:=(.nd 75 (g8.sem eM) .lf .lf)
theorem k9 x:g9.den E9 TT AN F Tryz.f32 x=dH x:=by kernel_rfl
theorem o9:OK 32 (g9.sem dH):=ae ⟨tok,eqs,Tr.All.get (t:=E9) ⟨o8,trivial,trivial⟩,mix⟩ Tryz.func32 (by kernel_rfl) (by kernel_rfl) g9 rfl _ k9
def g10:Sig:=⟨⟨bi 0 [.int .i64],[],[]⟩,.one (.bool),[],[],false,false,[],[]⟩
theorem k10 x:g10.den Tr.lf TT AN F Tryz.f126 x=fj x:=by kernel_rfl
theorem o10:OK 126 (g10.sem fj):=ae ⟨tok,eqs,Tr.All.get (t:=Tr.lf) trivial,mix⟩ Tryz.func126 (by kernel_rfl) (by kernel_rfl) g10 rfl _ k10
def g11:Sig:=⟨⟨bi 0 [.agg [.arr .i 16,.int .i64,.int .i64]],[],[]⟩,.one (.bool),[],[],false,false,[],[]⟩
def E11:Tr Sem1:=(.nd 126 (g10.sem fj) .lf .lf)
theorem k11 x:g11.den E11 TT AN F Tryz.f69 x=gw x:=by kernel_rfl
theorem o11:OK 69 (g11.sem gw):=ae ⟨tok,eqs,Tr.All.get (t:=E11) ⟨o10,trivial,trivial⟩,mix⟩ Tryz.func69 (by kernel_rfl) (by kernel_rfl) g11 rfl _ k11
def g12:Sig:=⟨⟨bi 0 [.int .i64,.int .i64,.int .i64],[],[]⟩,.one (.bool),[],[],false,false,[],[]⟩
theorem k12 x:g12.den Tr.lf TT AN F Tryz.f60 x=aI x:=by kernel_rfl
theorem o12:OK 60 (g12.sem aI):=ae ⟨tok,eqs,Tr.All.get (t:=Tr.lf) trivial,mix⟩ Tryz.func60 (by kernel_rfl) (by kernel_rfl) g12 rfl _ k12
def g13:Sig:=⟨⟨bi 0 [.int .i64],[],[]⟩,.one (.bool),[],[],false,false,[],[]⟩
def E13:Tr Sem1:=(.nd 60 (g12.sem aI) .lf .lf)
theorem k13 x:g13.den E13 TT AN F Tryz.f127 x=eX x:=by kernel_rfl
theorem o13:OK 127 (g13.sem eX):=ae ⟨tok,eqs,Tr.All.get (t:=E13) ⟨o12,trivial,trivial⟩,mix⟩ Tryz.func127 (by kernel_rfl) (by kernel_rfl) g13 rfl _ k13
def g14:Sig:=⟨⟨bi 0 [.int .i64],[],[]⟩,.one (.bool),[],[],false,false,[],[]⟩
def E14:Tr Sem1:=(.nd 60 (g12.sem aI) .lf .lf)
theorem k14 x:g14.den E14 TT AN F Tryz.f128 x=eZ x:=by kernel_rfl
theorem o14:OK 128 (g14.sem eZ):=ae ⟨tok,eqs,Tr.All.get (t:=E14) ⟨o12,trivial,trivial⟩,mix⟩ Tryz.func128 (by kernel_rfl) (by kernel_rfl) g14 rfl _ k14
def g15:Sig:=⟨⟨bi 0 [.agg [.list .page]],[],[]⟩,.one (.bool),[],[],false,false,[],[]⟩
def E15:Tr Sem1:=(.nd 128 (g14.sem eZ) (.nd 127 (g13.sem eX) .lf .lf) .lf)
def A15:Anns:=⟨(.nd 0 (.loop ⟨[(1,(.konst (.ptr 0 0))),(3,(.int .i64))],[(.var [(.list .page)])],[]⟩) .lf .lf),.lf,[]⟩
theorem k15 x:g15.den E15 TT A15 F Tryz.f70 x=d8 x:=by kernel_rfl
theorem o15:OK 70 (g15.sem d8):=ae ⟨tok,eqs,Tr.All.get (t:=E15) ⟨o14,⟨o13,trivial,trivial⟩,trivial⟩,mix⟩ Tryz.func70 (by kernel_rfl) (by kernel_rfl) g15 rfl _ k15
def g16:Sig:=⟨⟨bi 0 [.int .i64],[],[]⟩,.one (.bool),[],[],false,false,[],[]⟩
def E16:Tr Sem1:=(.nd 60 (g12.sem aI) .lf .lf)
theorem k16 x:g16.den E16 TT AN F Tryz.f105 x=gx x:=by kernel_rfl
theorem o16:OK 105 (g16.sem gx):=ae ⟨tok,eqs,Tr.All.get (t:=E16) ⟨o12,trivial,trivial⟩,mix⟩ Tryz.func105 (by kernel_rfl) (by kernel_rfl) g16 rfl _ k16
def g17:Sig:=⟨⟨bi 0 [.int .i64],[],[]⟩,.one (.bool),[],[],false,false,[],[]⟩
theorem k17 x:g17.den Tr.lf TT AN F Tryz.f159 x=dI x:=by kernel_rfl
theorem o17:OK 159 (g17.sem dI):=ae ⟨tok,eqs,Tr.All.get (t:=Tr.lf) trivial,mix⟩ Tryz.func159 (by kernel_rfl) (by kernel_rfl) g17 rfl _ k17
def g18:Sig:=⟨⟨bi 0 [.str,.int .u8],[],[]⟩,.one (.bool),[],[],false,false,[],[]⟩
def A18:Anns:=⟨(.nd 0 (.loop ⟨[(0,.str),(1,(.int .u8)),(5,(.int .i64))],[],[]⟩) .lf .lf),.lf,[]⟩
theorem k18 x:g18.den Tr.lf TT A18 F Tryz.f292 x=dB x:=by kernel_rfl
theorem o18:OK 292 (g18.sem dB):=ae ⟨tok,eqs,Tr.All.get (t:=Tr.lf) trivial,mix⟩ Tryz.func292 (by kernel_rfl) (by kernel_rfl) g18 rfl _ k18
def g19:Sig:=⟨⟨bi 0 [V10,.str],[],[]⟩,.one (.bool),[],[],false,false,[],[]⟩
def E19:Tr Sem1:=(.nd 292 (g18.sem dB) .lf .lf)
theorem k19 x:g19.den E19 TT AN F Tryz.f228 x=dJ x:=by kernel_rfl
theorem o19:OK 228 (g19.sem dJ):=ae ⟨tok,eqs,Tr.All.get (t:=E19) ⟨o18,trivial,trivial⟩,mix⟩ Tryz.func228 (by kernel_rfl) (by kernel_rfl) g19 rfl _ k19
def g20:Sig:=⟨⟨bi 0 [.el .ins,.list .s],[],[]⟩,.one (.bool),[],[],false,false,[],[]⟩
def E20:Tr Sem1:=(.nd 228 (g19.sem dJ) .lf .lf)
def A20:Anns:=⟨(.nd 0 (.loop ⟨[(1,(.list .s)),(2,(.konst (.ptr 0 0))),(5,(.int .i64))],[(B0)],[]⟩) .lf .lf),.lf,[]⟩
theorem k20 x:g20.den E20 TT A20 F Tryz.f160 x=aV x:=by kernel_rfl
theorem o20:OK 160 (g20.sem aV):=ae ⟨tok,eqs,Tr.All.get (t:=E20) ⟨o19,trivial,trivial⟩,mix⟩ Tryz.func160 (by kernel_rfl) (by kernel_rfl) g20 rfl _ k20
def g21:Sig:=⟨⟨bi 0 [.int .i64,.int .i64],[],[]⟩,.one (.int .i64),[],[],false,false,[],[]⟩
theorem k21 x:g21.den Tr.lf TT AN F Tryz.f255 x=aS x:=by kernel_rfl
theorem o21:OK 255 (g21.sem aS):=ae ⟨tok,eqs,Tr.All.get (t:=Tr.lf) trivial,mix⟩ Tryz.func255 (by kernel_rfl) (by kernel_rfl) g21 rfl _ k21
def g22:Sig:=⟨⟨bi 0 [.int .i64,.int .i64],[],[]⟩,.one (.int .i64),[],[],false,false,[],[]⟩
def E22:Tr Sem1:=(.nd 255 (g21.sem aS) .lf .lf)
def A22:Anns:=⟨(.nd 0 (.loop ⟨[(0,(.int .i64)),(1,(.int .i64)),(5,(.int .u64)),(6,(.int .i64))],[],[]⟩) .lf .lf),.lf,[]⟩
theorem k22 x:g22.den E22 TT A22 F Tryz.f196 x=aP x:=by kernel_rfl
theorem o22:OK 196 (g22.sem aP):=ae ⟨tok,eqs,Tr.All.get (t:=E22) ⟨o21,trivial,trivial⟩,mix⟩ Tryz.func196 (by kernel_rfl) (by kernel_rfl) g22 rfl _ k22
def g23:Sig:=⟨⟨bi 0 [.int .i64,.int .i64],[],[]⟩,.one (.bool),[],[],false,false,[],[]⟩
def E23:Tr Sem1:=(.nd 196 (g22.sem aP) .lf .lf)
theorem k23 x:g23.den E23 TT AN F Tryz.f161 x=bu x:=by kernel_rfl
theorem o23:OK 161 (g23.sem bu):=ae ⟨tok,eqs,Tr.All.get (t:=E23) ⟨o22,trivial,trivial⟩,mix⟩ Tryz.func161 (by kernel_rfl) (by kernel_rfl) g23 rfl _ k23
def g24:Sig:=⟨⟨bi 0 [.el .ins],[],[]⟩,.one (.bool),[],[],false,false,[],[]⟩
def E24:Tr Sem1:=(.nd 160 (g20.sem aV) (.nd 159 (g17.sem dI) (.nd 60 (g12.sem aI) .lf .lf) .lf) (.nd 161 (g23.sem bu) .lf .lf))
def A24:Anns:=⟨.lf,(.nd 416 ⟨[(1,(.konst (.ptr 0 0))),(4,.bool),(5,(.int .i64)),(208,.bool)],[(B0)],[]⟩ (.nd 236 ⟨[(1,(.konst (.ptr 0 0))),(3,.bool),(4,.bool),(5,(.int .i64)),(118,.bool)],[(B0)],[]⟩ (.nd 178 ⟨[(1,(.konst (.ptr 0 0))),(3,.bool),(4,.bool),(5,(.int .i64)),(89,.bool)],[(B0)],[]⟩ .lf .lf) (.nd 330 ⟨[(1,(.konst (.ptr 0 0))),(4,.bool),(5,(.int .i64)),(165,.bool)],[(B0)],[]⟩ .lf .lf)) (.nd 566 ⟨[(1,(.konst (.ptr 0 0))),(5,(.int .i64)),(283,.bool)],[(B0)],[]⟩ (.nd 540 ⟨[(1,(.konst (.ptr 0 0))),(4,.bool),(5,(.int .i64)),(270,.bool)],[(B0)],[]⟩ .lf .lf) .lf)),[]⟩
theorem k24 x:g24.den E24 TT A24 F Tryz.f106 x=ec x:=by kernel_rfl
theorem o24:OK 106 (g24.sem ec):=ae ⟨tok,eqs,Tr.All.get (t:=E24) ⟨o20,⟨o17,⟨o12,trivial,trivial⟩,trivial⟩,⟨o23,trivial,trivial⟩⟩,mix⟩ Tryz.func106 (by kernel_rfl) (by kernel_rfl) g24 rfl _ k24
def g25:Sig:=⟨⟨bi 0 [.el .ins],[],[]⟩,.one (.int .i64),[],[],false,false,[],[]⟩
theorem k25 x:g25.den Tr.lf TT AN F Tryz.f162 x=fU x:=by kernel_rfl
theorem o25:OK 162 (g25.sem fU):=ae ⟨tok,eqs,Tr.All.get (t:=Tr.lf) trivial,mix⟩ Tryz.func162 (by kernel_rfl) (by kernel_rfl) g25 rfl _ k25
def g26:Sig:=⟨⟨bi 0 [.el .ins],[],[]⟩,.tup [.int .i64,.int .i64],[],[],false,false,[],[]⟩
def E26:Tr Sem1:=(.nd 162 (g25.sem fU) (.nd 60 (g12.sem aI) .lf .lf) .lf)
def A26:Anns:=⟨.lf,(.nd 24 ⟨[(4,(.int .i64)),(5,(.int .i64))],[],[]⟩ .lf .lf),[]⟩
theorem k26 x:g26.den E26 TT A26 F Tryz.f107 x=ed x:=by kernel_rfl
theorem o26:OK 107 (g26.sem ed):=ae ⟨tok,eqs,Tr.All.get (t:=E26) ⟨o25,⟨o12,trivial,trivial⟩,trivial⟩,mix⟩ Tryz.func107 (by kernel_rfl) (by kernel_rfl) g26 rfl _ k26
def g27:Sig:=⟨⟨bi 0 [V10,.int .i64],[],[]⟩,.one (.bool),[],[],false,false,[],[]⟩
def E27:Tr Sem1:=(.nd 159 (g17.sem dI) (.nd 60 (g12.sem aI) .lf .lf) .lf)
def A27:Anns:=⟨.lf,(.nd 22 ⟨[(2,(.konst (.ptr 0 0))),(5,(.int .i64))],[(B5)],[]⟩ .lf .lf),[]⟩
theorem k27 x:g27.den E27 TT A27 F Tryz.f108 x=cF x:=by kernel_rfl
theorem o27:OK 108 (g27.sem cF):=ae ⟨tok,eqs,Tr.All.get (t:=E27) ⟨o17,⟨o12,trivial,trivial⟩,trivial⟩,mix⟩ Tryz.func108 (by kernel_rfl) (by kernel_rfl) g27 rfl _ k27
def g28:Sig:=⟨⟨bi 0 [V10,.int .i64],[],[]⟩,.tup [.bool,.bool],[],[],false,false,[],[]⟩
def E28:Tr Sem1:=(.nd 60 (g12.sem aI) .lf .lf)
theorem k28 x:g28.den E28 TT AN F Tryz.f109 x=eF x:=by kernel_rfl
theorem o28:OK 109 (g28.sem eF):=ae ⟨tok,eqs,Tr.All.get (t:=E28) ⟨o12,trivial,trivial⟩,mix⟩ Tryz.func109 (by kernel_rfl) (by kernel_rfl) g28 rfl _ k28
def g29:Sig:=⟨⟨bi 0 [.int .i64],[],[]⟩,.one (.bool),[],[],false,false,[],[]⟩
theorem k29 x:g29.den Tr.lf TT AN F Tryz.f110 x=fV x:=by kernel_rfl
theorem o29:OK 110 (g29.sem fV):=ae ⟨tok,eqs,Tr.All.get (t:=Tr.lf) trivial,mix⟩ Tryz.func110 (by kernel_rfl) (by kernel_rfl) g29 rfl _ k29
def g30:Sig:=⟨⟨bi 0 [.el .ins],[],[]⟩,.one (.bool),[],[],false,false,[],[]⟩
def E30:Tr Sem1:=(.nd 107 (g26.sem ed) (.nd 105 (g16.sem gx) (.nd 60 (g12.sem aI) .lf .lf) (.nd 106 (g24.sem ec) .lf .lf)) (.nd 109 (g28.sem eF) (.nd 108 (g27.sem cF) .lf .lf) (.nd 110 (g29.sem fV) .lf .lf)))
theorem k30 x:g30.den E30 TT AN F Tryz.f51 x=eD x:=by kernel_rfl
theorem o30:OK 51 (g30.sem eD):=ae ⟨tok,eqs,Tr.All.get (t:=E30) ⟨o26,⟨o16,⟨o12,trivial,trivial⟩,⟨o24,trivial,trivial⟩⟩,⟨o28,⟨o27,trivial,trivial⟩,⟨o29,trivial,trivial⟩⟩⟩,mix⟩ Tryz.func51 (by kernel_rfl) (by kernel_rfl) g30 rfl _ k30
def g31:Sig:=⟨⟨bi 0 [.int .i64,.int .i64],[],[]⟩,.one (.int .i64),[],[],false,false,[],[]⟩
theorem k31 x:g31.den Tr.lf TT AN F Tryz.f129 x=aU x:=by kernel_rfl
theorem o31:OK 129 (g31.sem aU):=ae ⟨tok,eqs,Tr.All.get (t:=Tr.lf) trivial,mix⟩ Tryz.func129 (by kernel_rfl) (by kernel_rfl) g31 rfl _ k31
def g32:Sig:=⟨⟨bi 0 [.int .i64,.int .i64],[],[]⟩,.one (.int .i64),[],[],false,false,[],[]⟩
def E32:Tr Sem1:=(.nd 255 (g21.sem aS) .lf .lf)
def A32:Anns:=⟨(.nd 0 (.loop ⟨[(0,(.int .i64)),(5,(.int .u64)),(6,(.int .i64))],[],[]⟩) .lf .lf),.lf,[]⟩
theorem k32 x:g32.den E32 TT A32 F Tryz.f247 x=aq x:=by kernel_rfl
theorem o32:OK 247 (g32.sem aq):=ae ⟨tok,eqs,Tr.All.get (t:=E32) ⟨o21,trivial,trivial⟩,mix⟩ Tryz.func247 (by kernel_rfl) (by kernel_rfl) g32 rfl _ k32
def g33:Sig:=⟨⟨bi 0 [.agg [.arr .i 16,.int .i64,.int .i64],.int .i64,.int .i64],[],[]⟩,.one (.int .i64),[],[],false,false,[],[]⟩
def E33:Tr Sem1:=(.nd 247 (g32.sem aq) .lf .lf)
theorem k33 x:g33.den E33 TT AN F Tryz.f244 x=cY x:=by kernel_rfl
theorem o33:OK 244 (g33.sem cY):=ae ⟨tok,eqs,Tr.All.get (t:=E33) ⟨o32,trivial,trivial⟩,mix⟩ Tryz.func244 (by kernel_rfl) (by kernel_rfl) g33 rfl _ k33
def g34:Sig:=⟨⟨bi 0 [.agg [.arr .i 16,.int .i64,.int .i64],V10,.int .i64],[],[]⟩,.one (.int .i64),[],[],false,false,[],[]⟩
def E34:Tr Sem1:=(.nd 129 (g31.sem aU) .lf .lf)
def A34:Anns:=⟨.lf,(.nd 36 ⟨[(3,(.konst (.ptr 0 0))),(4,(.konst (.ptr 1 0))),(7,(.int .i64))],[(B11),(B5)],[]⟩ (.nd 25 ⟨[(3,(.konst (.ptr 0 0))),(4,(.konst (.ptr 1 0))),(7,(.int .i64))],[(B11),(B5)],[]⟩ .lf .lf) .lf),[]⟩
theorem k34 x:g34.den E34 TT A34 F Tryz.f195 x=bE x:=by kernel_rfl
theorem o34:OK 195 (g34.sem bE):=ae ⟨tok,eqs,Tr.All.get (t:=E34) ⟨o31,trivial,trivial⟩,mix⟩ Tryz.func195 (by kernel_rfl) (by kernel_rfl) g34 rfl _ k34
def g35:Sig:=⟨⟨bi 0 [.agg [.list .page],.int .i64],[],[]⟩,.one (.int .i64),[],[],false,false,[],[]⟩
def A35:Anns:=⟨(.nd 0 (.loop ⟨[(1,(.int .i64)),(2,(.konst (.ptr 0 0))),(5,(.int .i64))],[(.var [(.list .page)])],[]⟩) .lf .lf),.lf,[]⟩
theorem k35 x:g35.den Tr.lf TT A35 F Tryz.f141 x=cj x:=by kernel_rfl
theorem o35:OK 141 (g35.sem cj):=ae ⟨tok,eqs,Tr.All.get (t:=Tr.lf) trivial,mix⟩ Tryz.func141 (by kernel_rfl) (by kernel_rfl) g35 rfl _ k35
def g36:Sig:=⟨⟨bi 0 [.agg [.list .page],.int .i64,.int .i64,.int .i64],[],[]⟩,.one (.int .i64),[],[],false,false,[],[]⟩
def E36:Tr Sem1:=(.nd 141 (g35.sem cj) (.nd 60 (g12.sem aI) .lf .lf) .lf)
def A36:Anns:=⟨(.nd 0 (.loop ⟨[(1,(.int .i64)),(2,(.int .i64)),(3,(.int .i64)),(4,(.konst (.ptr 0 0))),(9,(.int .i64))],[(.var [(.list .page)])],[]⟩) .lf .lf),.lf,[]⟩
theorem k36 x:g36.den E36 TT A36 F Tryz.f199 x=cN x:=by kernel_rfl
theorem o36:OK 199 (g36.sem cN):=ae ⟨tok,eqs,Tr.All.get (t:=E36) ⟨o35,⟨o12,trivial,trivial⟩,trivial⟩,mix⟩ Tryz.func199 (by kernel_rfl) (by kernel_rfl) g36 rfl _ k36
def g37:Sig:=⟨⟨bi 0 [.agg [.list .page],.int .i64,.int .i64],[],[]⟩,.one (.str),[],[],false,false,[],[]⟩
def E37:Tr Sem1:=(.nd 141 (g35.sem cj) .lf .lf)
def A37:Anns:=⟨(.nd 0 (.loop ⟨[(1,(.int .i64)),(2,(.int .i64)),(3,(.konst (.ptr 0 0))),(7,(.konst (.vec 1))),(8,(.int .i64))],[(.var [(.list .page)]),(.row .u)],[]⟩) .lf .lf),.lf,[]⟩
theorem k37 x:g37.den E37 TT A37 F Tryz.f200 x=fF x:=by kernel_rfl
theorem o37:OK 200 (g37.sem fF):=ae ⟨tok,eqs,Tr.All.get (t:=E37) ⟨o35,trivial,trivial⟩,mix⟩ Tryz.func200 (by kernel_rfl) (by kernel_rfl) g37 rfl _ k37
def g38:Sig:=⟨⟨bi 0 [.str,.int .i64,.int .i64],[],[]⟩,.one (.int .i64),[],[],false,false,[],[]⟩
def A38:Anns:=⟨(.nd 0 (.loop ⟨[(0,.str),(1,(.int .i64)),(7,(.int .u64)),(8,(.int .i64))],[],[]⟩) .lf .lf),.lf,[]⟩
theorem k38 x:g38.den Tr.lf TT A38 F Tryz.f322 x=eW x:=by kernel_rfl
theorem o38:OK 322 (g38.sem eW):=ae ⟨tok,eqs,Tr.All.get (t:=Tr.lf) trivial,mix⟩ Tryz.func322 (by kernel_rfl) (by kernel_rfl) g38 rfl _ k38
def g39:Sig:=⟨⟨bi 0 [.agg [.list .page],.int .i64,.int .i64],[],[]⟩,.tup [.int .i64,.int .i64],[],[],false,false,[],[]⟩
def E39:Tr Sem1:=(.nd 200 (g37.sem fF) (.nd 199 (g36.sem cN) .lf .lf) (.nd 322 (g38.sem eW) .lf .lf))
theorem k39 x:g39.den E39 TT AN F Tryz.f313 x=eY x:=by kernel_rfl
theorem o39:OK 313 (g39.sem eY):=ae ⟨tok,eqs,Tr.All.get (t:=E39) ⟨o37,⟨o36,trivial,trivial⟩,⟨o38,trivial,trivial⟩⟩,mix⟩ Tryz.func313 (by kernel_rfl) (by kernel_rfl) g39 rfl _ k39
def g40:Sig:=⟨⟨bi 0 [.konst (.ptr 0 0),.int .i64,.int .i64],[B8,.row .acc],[]⟩,.one (.int .i64),[B9,.konst .gone,.row .acc],[(1,0,big),(0,5,7)],false,false,[(0,6,.acc)],[1]⟩
def E40:Tr Sem1:=(.nd 313 (g39.sem eY) .lf .lf)
def A40:Anns:=⟨.lf,.lf,[(0,6,.acc)]⟩
theorem k40 x:g40.den E40 TT A40 F Tryz.f245 x=ba x:=by kernel_rfl
theorem o40:OK 245 (g40.sem ba):=ae ⟨tok,eqs,Tr.All.get (t:=E40) ⟨o39,trivial,trivial⟩,mix⟩ Tryz.func245 (by kernel_rfl) (by kernel_rfl) g40 rfl _ k40
def g41:Sig:=⟨⟨bi 0 [.konst (.ptr 0 0),V10,.int .i64],[B8,.row .acc],[]⟩,.one (.int .i64),[B9,.konst .gone,.row .acc],[(1,0,big),(0,5,7)],false,false,[(0,6,.acc)],[1]⟩
def E41:Tr Sem1:=(.nd 244 (g33.sem cY) (.nd 195 (g34.sem bE) .lf .lf) (.nd 245 (g40.sem ba) .lf .lf))
def A41:Anns:=⟨.lf,.lf,[(0,6,.acc)]⟩
theorem k41 x:g41.den E41 TT A41 F Tryz.f189 x=az x:=by kernel_rfl
theorem o41:OK 189 (g41.sem az):=ae ⟨tok,eqs,Tr.All.get (t:=E41) ⟨o33,⟨o34,trivial,trivial⟩,⟨o40,trivial,trivial⟩⟩,mix⟩ Tryz.func189 (by kernel_rfl) (by kernel_rfl) g41 rfl _ k41
def g42:Sig:=⟨⟨bi 0 [.bool],[],[]⟩,.one (.int .i64),[],[],false,false,[],[]⟩
theorem k42 x:g42.den Tr.lf TT AN F Tryz.f258 x=dC x:=by kernel_rfl
theorem o42:OK 258 (g42.sem dC):=ae ⟨tok,eqs,Tr.All.get (t:=Tr.lf) trivial,mix⟩ Tryz.func258 (by kernel_rfl) (by kernel_rfl) g42 rfl _ k42
def g43:Sig:=⟨⟨bi 0 [.bool,.int .i64],[],[]⟩,.one (.int .i64),[],[],false,false,[],[]⟩
theorem k43 x:g43.den Tr.lf TT AN F Tryz.f254 x=bF x:=by kernel_rfl
theorem o43:OK 254 (g43.sem bF):=ae ⟨tok,eqs,Tr.All.get (t:=Tr.lf) trivial,mix⟩ Tryz.func254 (by kernel_rfl) (by kernel_rfl) g43 rfl _ k43
def g44:Sig:=⟨⟨bi 0 [.int .i64,.int .i64],[],[]⟩,.one (.int .i64),[],[],false,false,[],[]⟩
def E44:Tr Sem1:=(.nd 254 (g43.sem bF) (.nd 247 (g32.sem aq) .lf .lf) (.nd 255 (g21.sem aS) .lf .lf))
def A44:Anns:=⟨(.nd 0 (.loop ⟨[(0,(.int .i64)),(1,(.int .i64)),(5,(.int .i64)),(6,(.int .i64))],[],[]⟩) .lf .lf),.lf,[]⟩
theorem k44 x:g44.den E44 TT A44 F Tryz.f248 x=cq x:=by kernel_rfl
theorem o44:OK 248 (g44.sem cq):=ae ⟨tok,eqs,Tr.All.get (t:=E44) ⟨o43,⟨o32,trivial,trivial⟩,⟨o21,trivial,trivial⟩⟩,mix⟩ Tryz.func248 (by kernel_rfl) (by kernel_rfl) g44 rfl _ k44
def g45:Sig:=⟨⟨bi 0 [.int .i64,.int .i64,.int .i64,.int .i64,.bool],[],[]⟩,.tup [.int .i64,.int .i64],[],[],false,false,[],[]⟩
def E45:Tr Sem1:=(.nd 255 (g21.sem aS) (.nd 254 (g43.sem bF) (.nd 248 (g44.sem cq) .lf .lf) .lf) (.nd 258 (g42.sem dC) .lf .lf))
def A45:Anns:=⟨(.nd 0 (.loop ⟨[(0,(.int .i64)),(1,(.int .i64)),(2,(.int .i64)),(4,.bool),(12,(.int .u64)),(13,(.int .i64)),(14,(.int .i64)),(15,(.int .i64))],[],[]⟩) .lf .lf),(.nd 79 ⟨[(0,(.int .i64)),(1,(.int .i64)),(2,(.int .i64)),(4,.bool),(12,(.int .u64)),(13,(.int .i64)),(14,(.int .i64)),(15,(.int .i64)),(18,(.int .i64))],[],[]⟩ .lf .lf),[]⟩
theorem k45 x:g45.den E45 TT A45 F Tryz.f246 x=bH x:=by kernel_rfl
theorem o45:OK 246 (g45.sem bH):=ae ⟨tok,eqs,Tr.All.get (t:=E45) ⟨o21,⟨o43,⟨o44,trivial,trivial⟩,trivial⟩,⟨o42,trivial,trivial⟩⟩,mix⟩ Tryz.func246 (by kernel_rfl) (by kernel_rfl) g45 rfl _ k45
def g46:Sig:=⟨⟨bi 0 [.int .i64,.int .i64,.int .i64],[],[]⟩,.one (.int .i64),[],[],false,false,[],[]⟩
theorem k46 x:g46.den Tr.lf TT AN F Tryz.f249 x=fb x:=by kernel_rfl
theorem o46:OK 249 (g46.sem fb):=ae ⟨tok,eqs,Tr.All.get (t:=Tr.lf) trivial,mix⟩ Tryz.func249 (by kernel_rfl) (by kernel_rfl) g46 rfl _ k46
def g47:Sig:=⟨⟨bi 0 [.int .i64,.int .i64,.int .i64,.int .i64,.int .i64],[],[]⟩,.tup [.int .i64,.int .i64],[],[],false,false,[],[]⟩
def E47:Tr Sem1:=(.nd 248 (g44.sem cq) (.nd 247 (g32.sem aq) (.nd 246 (g45.sem bH) .lf .lf) .lf) (.nd 249 (g46.sem fb) .lf .lf))
theorem k47 x:g47.den E47 TT AN F Tryz.f190 x=fH x:=by kernel_rfl
theorem o47:OK 190 (g47.sem fH):=ae ⟨tok,eqs,Tr.All.get (t:=E47) ⟨o44,⟨o32,⟨o45,trivial,trivial⟩,trivial⟩,⟨o46,trivial,trivial⟩⟩,mix⟩ Tryz.func190 (by kernel_rfl) (by kernel_rfl) g47 rfl _ k47
def g48:Sig:=⟨⟨bi 0 [.agg [.arr .i 16,.int .i64,.int .i64],.int .i64,.int .i64,.int .i64],[],[]⟩,.one (.agg [.arr .i 16,.int .i64,.int .i64]),[],[],false,false,[],[]⟩
def E48:Tr Sem1:=(.nd 247 (g32.sem aq) .lf .lf)
def A48:Anns:=⟨.lf,(.nd 30 ⟨[(1,(.int .i64)),(2,(.int .i64)),(3,(.int .i64)),(4,(.konst (.ptr 0 0))),(8,(.konst (.ptr 1 0))),(9,(.int .i64))],[(B11),(B11)],[]⟩ .lf .lf),[]⟩
theorem k48 x:g48.den E48 TT A48 F Tryz.f250 x=cd x:=by kernel_rfl
theorem o48:OK 250 (g48.sem cd):=ae ⟨tok,eqs,Tr.All.get (t:=E48) ⟨o32,trivial,trivial⟩,mix⟩ Tryz.func250 (by kernel_rfl) (by kernel_rfl) g48 rfl _ k48
def g49:Sig:=⟨⟨bi 0 [.int .i64,.int .i64],[],[]⟩,.one (.str),[],[],false,false,[],[]⟩
def A49:Anns:=⟨(.nd 0 (.loop ⟨[(0,(.int .i64)),(1,(.int .i64)),(5,(.konst (.vec 0))),(6,(.int .i64))],[(.row .u)],[]⟩) .lf .lf),.lf,[]⟩
theorem k49 x:g49.den Tr.lf TT A49 F Tryz.f218 x=dz x:=by kernel_rfl
theorem o49:OK 218 (g49.sem dz):=ae ⟨tok,eqs,Tr.All.get (t:=Tr.lf) trivial,mix⟩ Tryz.func218 (by kernel_rfl) (by kernel_rfl) g49 rfl _ k49
def g50:Sig:=⟨⟨bi 0 [.agg [.list .page]],[],[]⟩,.one (.agg [.konst (.vec 0)]),[.row .page],[],false,true,[(2,1,.page)],[]⟩
theorem k50 x:g50.den Tr.lf TT AN F Tryz.f72 x=dA x:=by kernel_rfl
theorem o50:OK 72 (g50.sem dA):=ae ⟨tok,eqs,Tr.All.get (t:=Tr.lf) trivial,mix⟩ Tryz.func72 (by kernel_rfl) (by kernel_rfl) g50 rfl _ k50
def g51:Sig:=⟨⟨bi 0 [.agg [.list .page],.int .i64,.str],[],[]⟩,.one (.agg [.list .page]),[],[],false,false,[],[]⟩
def E51:Tr Sem1:=(.nd 141 (g35.sem cj) (.nd 72 (g50.sem dA) .lf .lf) .lf)
def A51:Anns:=⟨(.nd 0 (.loop ⟨[(1,(.int .i64)),(2,.str),(3,(.konst (.ptr 0 0))),(6,(.konst (.ptr 2 0)))],[(.var [(.konst (.vec 1))]),(.row .page),(.var [(.konst .nils)])],[]⟩) .lf .lf),.lf,[]⟩
theorem k51 x:g51.den E51 TT A51 F Tryz.f86 x=fG x:=by kernel_rfl
theorem o51:OK 86 (g51.sem fG):=ae ⟨tok,eqs,Tr.All.get (t:=E51) ⟨o35,⟨o50,trivial,trivial⟩,trivial⟩,mix⟩ Tryz.func86 (by kernel_rfl) (by kernel_rfl) g51 rfl _ k51
def g52:Sig:=⟨⟨bi 0 [.agg [.list .page],.int .i64,.int .i64,.int .i64],[],[]⟩,.tup [.agg [.list .page],.int .i64],[],[],false,false,[],[]⟩
def E52:Tr Sem1:=(.nd 199 (g36.sem cN) (.nd 86 (g51.sem fG) .lf .lf) (.nd 218 (g49.sem dz) .lf .lf))
theorem k52 x:g52.den E52 TT AN F Tryz.f314 x=d9 x:=by kernel_rfl
theorem o52:OK 314 (g52.sem d9):=ae ⟨tok,eqs,Tr.All.get (t:=E52) ⟨o36,⟨o51,trivial,trivial⟩,⟨o49,trivial,trivial⟩⟩,mix⟩ Tryz.func314 (by kernel_rfl) (by kernel_rfl) g52 rfl _ k52
def g53:Sig:=⟨⟨bi 0 [.konst (.ptr 0 0),.int .i64,.int .i64,.int .i64],[B8,.row .acc],[]⟩,.tup [],[B9,.konst .gone,.row .acc],[(1,0,big),(0,3,4),(0,5,7)],false,false,[(0,6,.acc)],[1]⟩
def E53:Tr Sem1:=(.nd 314 (g52.sem d9) (.nd 247 (g32.sem aq) .lf .lf) .lf)
def A53:Anns:=⟨.lf,.lf,[(0,6,.acc)]⟩
theorem k53 x:g53.den E53 TT A53 F Tryz.f251 x=aT x:=by kernel_rfl
theorem o53:OK 251 (g53.sem aT):=ae ⟨tok,eqs,Tr.All.get (t:=E53) ⟨o52,⟨o32,trivial,trivial⟩,trivial⟩,mix⟩ Tryz.func251 (by kernel_rfl) (by kernel_rfl) g53 rfl _ k53
def g54:Sig:=⟨⟨bi 0 [.konst (.ptr 0 0),V10,.int .i64,.int .i64],[B8,.row .acc],[]⟩,.tup [],[B9,.konst .gone,.row .acc],[(1,0,big),(0,0,4),(0,5,7)],false,false,[(0,6,.acc)],[1]⟩
def E54:Tr Sem1:=(.nd 250 (g48.sem cd) (.nd 195 (g34.sem bE) .lf .lf) (.nd 251 (g53.sem aT) .lf .lf))
def A54:Anns:=⟨.lf,.lf,[(0,6,.acc)]⟩
theorem k54 x:g54.den E54 TT A54 F Tryz.f191 x=aK x:=by kernel_rfl
theorem o54:OK 191 (g54.sem aK):=ae ⟨tok,eqs,Tr.All.get (t:=E54) ⟨o48,⟨o34,trivial,trivial⟩,⟨o53,trivial,trivial⟩⟩,mix⟩ Tryz.func191 (by kernel_rfl) (by kernel_rfl) g54 rfl _ k54
def g55:Sig:=⟨⟨bi 0 [.int .i64,.int .i64,.int .i64,.int .i64],[],[]⟩,.tup [.int .i64,.int .i64],[],[],false,false,[],[]⟩
def E55:Tr Sem1:=(.nd 247 (g32.sem aq) (.nd 246 (g45.sem bH) .lf .lf) .lf)
theorem k55 x:g55.den E55 TT AN F Tryz.f192 x=fJ x:=by kernel_rfl
theorem o55:OK 192 (g55.sem fJ):=ae ⟨tok,eqs,Tr.All.get (t:=E55) ⟨o32,⟨o45,trivial,trivial⟩,trivial⟩,mix⟩ Tryz.func192 (by kernel_rfl) (by kernel_rfl) g55 rfl _ k55
def g56:Sig:=⟨⟨bi 0 [.int .i64,.int .i64,.int .i64,.int .i64],[],[]⟩,.tup [.int .i64,.int .i64],[],[],false,false,[],[]⟩
def E56:Tr Sem1:=(.nd 254 (g43.sem bF) (.nd 248 (g44.sem cq) (.nd 247 (g32.sem aq) .lf .lf) .lf) (.nd 255 (g21.sem aS) .lf .lf))
def A56:Anns:=⟨.lf,(.nd 137 ⟨[(0,(.int .i64)),(1,(.int .i64)),(3,(.int .i64)),(13,(.int .i64)),(14,(.int .i64)),(15,(.int .i64))],[],[]⟩ (.nd 111 ⟨[(0,(.int .i64)),(1,(.int .i64)),(3,(.int .i64)),(13,(.int .i64)),(14,(.int .i64)),(15,(.int .i64))],[],[]⟩ (.nd 81 ⟨[(0,(.int .i64)),(1,(.int .i64)),(3,(.int .i64)),(13,(.int .i64)),(14,(.int .i64)),(15,(.int .i64))],[],[]⟩ .lf .lf) .lf) (.nd 216 ⟨[(13,(.int .i64)),(14,(.int .i64)),(15,(.int .i64)),(16,(.int .i64))],[],[]⟩ (.nd 183 ⟨[(0,(.int .i64)),(1,(.int .i64)),(3,(.int .i64)),(13,(.int .i64)),(14,(.int .i64)),(15,(.int .i64))],[],[]⟩ .lf .lf) .lf)),[]⟩
theorem k56 x:g56.den E56 TT A56 F Tryz.f252 x=fa x:=by kernel_rfl
theorem o56:OK 252 (g56.sem fa):=ae ⟨tok,eqs,Tr.All.get (t:=E56) ⟨o43,⟨o44,⟨o32,trivial,trivial⟩,trivial⟩,⟨o21,trivial,trivial⟩⟩,mix⟩ Tryz.func252 (by kernel_rfl) (by kernel_rfl) g56 rfl _ k56
def g57:Sig:=⟨⟨bi 0 [.int .i64,.int .i64,.int .i64,.int .i64,.int .i64],[],[]⟩,.tup [.int .i64,.int .i64],[],[],false,false,[],[]⟩
def E57:Tr Sem1:=(.nd 252 (g56.sem fa) (.nd 247 (g32.sem aq) .lf .lf) .lf)
def A57:Anns:=⟨(.nd 0 (.loop ⟨[(0,(.int .i64)),(1,(.int .i64)),(4,(.int .i64)),(12,(.int .i64)),(13,(.int .i64)),(14,(.int .i64))],[],[]⟩) .lf .lf),(.nd 44 ⟨[(0,(.int .i64)),(1,(.int .i64)),(2,(.int .i64)),(4,(.int .i64)),(12,(.int .i64))],[],[]⟩ .lf .lf),[]⟩
theorem k57 x:g57.den E57 TT A57 F Tryz.f193 x=ee x:=by kernel_rfl
theorem o57:OK 193 (g57.sem ee):=ae ⟨tok,eqs,Tr.All.get (t:=E57) ⟨o56,⟨o32,trivial,trivial⟩,trivial⟩,mix⟩ Tryz.func193 (by kernel_rfl) (by kernel_rfl) g57 rfl _ k57
def g58:Sig:=⟨⟨bi 0 [.int .u64,.int .u64],[],[]⟩,.tup [.int .u64,.int .u64],[],[],false,false,[],[]⟩
def A58:Anns:=⟨(.nd 0 (.loop ⟨[(0,(.int .u64)),(1,(.int .u64)),(6,(.int .u64)),(7,(.int .u64)),(8,(.int .i64))],[],[]⟩) .lf .lf),(.nd 66 ⟨[(0,(.int .u64)),(1,(.int .u64)),(6,(.int .u64)),(7,(.int .u64)),(8,(.int .i64))],[],[]⟩ (.nd 52 ⟨[(0,(.int .u64)),(1,(.int .u64)),(6,(.int .u64)),(7,(.int .u64)),(8,(.int .i64))],[],[]⟩ .lf .lf) .lf),[]⟩
theorem k58 x:g58.den Tr.lf TT A58 F Tryz.f315 x=c9 x:=by kernel_rfl
theorem o58:OK 315 (g58.sem c9):=ae ⟨tok,eqs,Tr.All.get (t:=Tr.lf) trivial,mix⟩ Tryz.func315 (by kernel_rfl) (by kernel_rfl) g58 rfl _ k58
def g59:Sig:=⟨⟨bi 0 [.int .i64],[],[]⟩,.one (.int .u64),[],[],false,false,[],[]⟩
theorem k59 x:g59.den Tr.lf TT AN F Tryz.f316 x=cK x:=by kernel_rfl
theorem o59:OK 316 (g59.sem cK):=ae ⟨tok,eqs,Tr.All.get (t:=Tr.lf) trivial,mix⟩ Tryz.func316 (by kernel_rfl) (by kernel_rfl) g59 rfl _ k59
def g60:Sig:=⟨⟨bi 0 [.int .i64,.int .i64,.bool],[],[]⟩,.tup [.int .u64,.int .u64],[],[],false,false,[],[]⟩
def E60:Tr Sem1:=(.nd 316 (g59.sem cK) (.nd 315 (g58.sem c9) .lf .lf) .lf)
def A60:Anns:=⟨.lf,(.nd 74 ⟨[(8,(.int .u64)),(9,(.int .u64))],[],[]⟩ (.nd 62 ⟨[(8,(.int .u64)),(9,(.int .u64))],[],[]⟩ .lf .lf) .lf),[]⟩
theorem k60 x:g60.den E60 TT A60 F Tryz.f253 x=dh x:=by kernel_rfl
theorem o60:OK 253 (g60.sem dh):=ae ⟨tok,eqs,Tr.All.get (t:=E60) ⟨o59,⟨o58,trivial,trivial⟩,trivial⟩,mix⟩ Tryz.func253 (by kernel_rfl) (by kernel_rfl) g60 rfl _ k60
def g61:Sig:=⟨⟨bi 0 [.int .i64,.int .i64,.int .i64,.int .i64,.int .i64],[],[]⟩,.tup [.int .i64,.int .i64,.int .i64],[],[],false,false,[],[]⟩
def E61:Tr Sem1:=(.nd 253 (g60.sem dh) (.nd 247 (g32.sem aq) (.nd 196 (g22.sem aP) .lf .lf) .lf) (.nd 254 (g43.sem bF) .lf .lf))
def A61:Anns:=⟨.lf,(.nd 102 ⟨[(1,(.int .i64)),(4,(.int .i64)),(13,.bool),(18,(.int .i64)),(19,(.int .i64))],[],[]⟩ (.nd 60 ⟨[(1,(.int .i64)),(4,(.int .i64)),(13,.bool),(14,(.int .i64)),(15,(.int .i64))],[],[]⟩ .lf .lf) (.nd 124 ⟨[(4,(.int .i64)),(18,(.int .i64)),(19,(.int .i64)),(20,.bool)],[],[]⟩ .lf .lf)),[]⟩
theorem k61 x:g61.den E61 TT A61 F Tryz.f194 x=bZ x:=by kernel_rfl
theorem o61:OK 194 (g61.sem bZ):=ae ⟨tok,eqs,Tr.All.get (t:=E61) ⟨o60,⟨o32,⟨o22,trivial,trivial⟩,trivial⟩,⟨o43,trivial,trivial⟩⟩,mix⟩ Tryz.func194 (by kernel_rfl) (by kernel_rfl) g61 rfl _ k61
def g62:Sig:=⟨⟨bi 0 [.int .i64],[],[]⟩,.one (.int .i64),[],[],false,false,[],[]⟩
theorem k62 x:g62.den Tr.lf TT AN F Tryz.f256 x=ef x:=by kernel_rfl
theorem o62:OK 256 (g62.sem ef):=ae ⟨tok,eqs,Tr.All.get (t:=Tr.lf) trivial,mix⟩ Tryz.func256 (by kernel_rfl) (by kernel_rfl) g62 rfl _ k62
def g63:Sig:=⟨⟨bi 0 [.int .i64,.int .i64,.int .i64,.bool],[],[]⟩,.tup [.int .u64,.int .u64],[],[],false,false,[],[]⟩
def E63:Tr Sem1:=(.nd 255 (g21.sem aS) (.nd 247 (g32.sem aq) .lf .lf) .lf)
def A63:Anns:=⟨.lf,(.nd 80 ⟨[(10,(.int .u64))],[],[]⟩ .lf .lf),[]⟩
theorem k63 x:g63.den E63 TT A63 F Tryz.f317 x=e9 x:=by kernel_rfl
theorem o63:OK 317 (g63.sem e9):=ae ⟨tok,eqs,Tr.All.get (t:=E63) ⟨o21,⟨o32,trivial,trivial⟩,trivial⟩,mix⟩ Tryz.func317 (by kernel_rfl) (by kernel_rfl) g63 rfl _ k63
def g64:Sig:=⟨⟨bi 0 [.int .u64,.int .u64,.int .u64],[],[]⟩,.tup [.int .u64,.int .u64],[],[],false,false,[],[]⟩
def A64:Anns:=⟨(.nd 0 (.loop ⟨[(1,(.int .u64)),(2,(.int .u64)),(8,(.int .u64)),(9,(.int .u64)),(10,(.int .i64))],[],[]⟩) .lf .lf),(.nd 70 ⟨[(1,(.int .u64)),(2,(.int .u64)),(8,(.int .u64)),(9,(.int .u64)),(10,(.int .i64))],[],[]⟩ .lf .lf),[]⟩
theorem k64 x:g64.den Tr.lf TT A64 F Tryz.f318 x=dy x:=by kernel_rfl
theorem o64:OK 318 (g64.sem dy):=ae ⟨tok,eqs,Tr.All.get (t:=Tr.lf) trivial,mix⟩ Tryz.func318 (by kernel_rfl) (by kernel_rfl) g64 rfl _ k64
def g65:Sig:=⟨⟨bi 0 [.int .i64,.int .i64,.int .i64,.int .i64,.int .i64],[],[]⟩,.tup [.int .i64,.int .i64,.bool],[],[],false,false,[],[]⟩
def E65:Tr Sem1:=(.nd 316 (g59.sem cK) (.nd 247 (g32.sem aq) (.nd 196 (g22.sem aP) .lf .lf) .lf) (.nd 318 (g64.sem dy) (.nd 317 (g63.sem e9) .lf .lf) .lf))
def A65:Anns:=⟨.lf,(.nd 112 ⟨[(1,(.int .i64)),(13,.bool),(14,(.int .u64)),(15,(.int .u64)),(16,(.int .u64)),(17,.bool),(18,.bool)],[],[]⟩ (.nd 100 ⟨[(1,(.int .i64)),(13,.bool),(14,(.int .u64)),(15,(.int .u64)),(16,(.int .u64)),(17,.bool),(18,.bool)],[],[]⟩ (.nd 72 ⟨[(1,(.int .i64)),(13,.bool),(14,(.int .u64)),(15,(.int .u64)),(16,(.int .u64)),(17,.bool),(18,.bool)],[],[]⟩ .lf .lf) .lf) (.nd 210 ⟨[(1,(.int .i64)),(19,(.int .u64)),(20,(.int .u64))],[],[]⟩ (.nd 204 ⟨[(1,(.int .i64)),(17,.bool),(19,(.int .u64)),(20,(.int .u64))],[],[]⟩ .lf .lf) .lf)),[]⟩
theorem k65 x:g65.den E65 TT A65 F Tryz.f257 x=cV x:=by kernel_rfl
theorem o65:OK 257 (g65.sem cV):=ae ⟨tok,eqs,Tr.All.get (t:=E65) ⟨o59,⟨o32,⟨o22,trivial,trivial⟩,trivial⟩,⟨o64,⟨o63,trivial,trivial⟩,trivial⟩⟩,mix⟩ Tryz.func257 (by kernel_rfl) (by kernel_rfl) g65 rfl _ k65
def g66:Sig:=⟨⟨bi 0 [.konst (.ptr 0 0),.el .ins],[B8,.row .acc],[]⟩,.tup [],[B9,.konst .gone,.row .acc],[(1,0,big),(0,0,3),(0,5,7)],false,false,[(0,6,.acc)],[1]⟩
def E66:Tr Sem1:=(.nd 250 (g48.sem cd) (.nd 194 (g61.sem bZ) (.nd 189 (g41.sem az) .lf .lf) (.nd 244 (g33.sem cY) .lf .lf)) (.nd 257 (g65.sem cV) (.nd 256 (g62.sem ef) .lf .lf) .lf))
def A66:Anns:=⟨.lf,(.nd 87 ⟨[(0,(.konst (.ptr 0 0))),(3,(.konst (.ptr 3 0))),(6,(.int .i64)),(7,(.int .i64)),(8,(.int .i64))],[(B4),(.konst .gone),(.row .acc),(B0)],[]⟩ .lf .lf),[(0,6,.acc)]⟩
theorem k66 x:g66.den E66 TT A66 F Tryz.f197 x=cR x:=by kernel_rfl
theorem o66:OK 197 (g66.sem cR):=ae ⟨tok,eqs,Tr.All.get (t:=E66) ⟨o48,⟨o61,⟨o41,trivial,trivial⟩,⟨o33,trivial,trivial⟩⟩,⟨o65,⟨o62,trivial,trivial⟩,trivial⟩⟩,mix⟩ Tryz.func197 (by kernel_rfl) (by kernel_rfl) g66 rfl _ k66
def g67:Sig:=⟨⟨bi 0 [.int .i64,.int .i64],[],[]⟩,.one (.bool),[],[],false,false,[],[]⟩
theorem k67 x:g67.den Tr.lf TT AN F Tryz.f259 x=co x:=by kernel_rfl
theorem o67:OK 259 (g67.sem co):=ae ⟨tok,eqs,Tr.All.get (t:=Tr.lf) trivial,mix⟩ Tryz.func259 (by kernel_rfl) (by kernel_rfl) g67 rfl _ k67
def g68:Sig:=⟨⟨bi 0 [.konst (.ptr 0 0),.int .i64],[B8,.row .acc],[]⟩,.tup [],[B9,.konst .gone,.row .acc],[(1,0,big),(0,0,1),(0,3,4),(0,5,7)],false,false,[(0,6,.acc)],[1]⟩
def E68:Tr Sem1:=(.nd 251 (g53.sem aT) (.nd 129 (g31.sem aU) .lf .lf) .lf)
def A68:Anns:=⟨.lf,.lf,[(0,6,.acc)]⟩
theorem k68 x:g68.den E68 TT A68 F Tryz.f260 x=bJ x:=by kernel_rfl
theorem o68:OK 260 (g68.sem bJ):=ae ⟨tok,eqs,Tr.All.get (t:=E68) ⟨o53,⟨o31,trivial,trivial⟩,trivial⟩,mix⟩ Tryz.func260 (by kernel_rfl) (by kernel_rfl) g68 rfl _ k68
def g69:Sig:=⟨⟨bi 0 [.konst (.ptr 0 0)],[B8,.row .acc],[]⟩,.one (.int .i64),[B9,.konst .gone,.row .acc],[(1,0,big),(0,0,1),(0,5,7)],false,false,[(0,6,.acc)],[1]⟩
def E69:Tr Sem1:=(.nd 245 (g40.sem ba) (.nd 129 (g31.sem aU) .lf .lf) .lf)
def A69:Anns:=⟨.lf,.lf,[(0,6,.acc)]⟩
theorem k69 x:g69.den E69 TT A69 F Tryz.f261 x=bW x:=by kernel_rfl
theorem o69:OK 261 (g69.sem bW):=ae ⟨tok,eqs,Tr.All.get (t:=E69) ⟨o40,⟨o31,trivial,trivial⟩,trivial⟩,mix⟩ Tryz.func261 (by kernel_rfl) (by kernel_rfl) g69 rfl _ k69
def g70:Sig:=⟨⟨bi 0 [.konst (.ptr 0 0),.el .ins],[B8,.row .acc],[]⟩,.one (.int .i64),[B9,.konst .gone,.row .acc],[(1,0,big),(0,5,7)],false,false,[(0,6,.acc)],[1]⟩
def E70:Tr Sem1:=(.nd 189 (g41.sem az) (.nd 129 (g31.sem aU) .lf .lf) .lf)
def A70:Anns:=⟨.lf,.lf,[(0,6,.acc)]⟩
theorem k70 x:g70.den E70 TT A70 F Tryz.f319 x=bm x:=by kernel_rfl
theorem o70:OK 319 (g70.sem bm):=ae ⟨tok,eqs,Tr.All.get (t:=E70) ⟨o41,⟨o31,trivial,trivial⟩,trivial⟩,mix⟩ Tryz.func319 (by kernel_rfl) (by kernel_rfl) g70 rfl _ k70
def g71:Sig:=⟨⟨bi 0 [.konst (.ptr 0 0),.el .ins],[B8,.row .acc],[]⟩,.tup [],[B9,.konst .gone,.row .acc],[(1,0,big),(0,0,1),(0,3,7)],false,false,[(0,6,.acc)],[1]⟩
def E71:Tr Sem1:=(.nd 261 (g69.sem bW) (.nd 260 (g68.sem bJ) (.nd 259 (g67.sem co) .lf .lf) .lf) (.nd 319 (g70.sem bm) .lf .lf))
def A71:Anns:=⟨.lf,.lf,[(0,6,.acc)]⟩
theorem k71 x:g71.den E71 TT A71 F Tryz.f262 x=bI x:=by kernel_rfl
theorem o71:OK 262 (g71.sem bI):=ae ⟨tok,eqs,Tr.All.get (t:=E71) ⟨o69,⟨o68,⟨o67,trivial,trivial⟩,trivial⟩,⟨o70,trivial,trivial⟩⟩,mix⟩ Tryz.func262 (by kernel_rfl) (by kernel_rfl) g71 rfl _ k71
def g72:Sig:=⟨⟨bi 0 [.konst (.ptr 0 0),.el .ins],[B8,.row .acc],[]⟩,.tup [],[B9,.konst .gone,.row .acc],[(1,0,big),(0,0,big)],false,false,[(0,6,.acc)],[1]⟩
def E72:Tr Sem1:=(.nd 251 (g53.sem aT) (.nd 196 (g22.sem aP) (.nd 189 (g41.sem az) (.nd 129 (g31.sem aU) .lf .lf) (.nd 191 (g54.sem aK) .lf .lf)) (.nd 250 (g48.sem cd) (.nd 245 (g40.sem ba) .lf .lf) .lf)) (.nd 260 (g68.sem bJ) (.nd 259 (g67.sem co) (.nd 258 (g42.sem dC) .lf .lf) .lf) (.nd 262 (g71.sem bI) (.nd 261 (g69.sem bW) .lf .lf) .lf)))
def A72:Anns:=⟨.lf,(.nd 384 ⟨[(0,(.konst (.ptr 0 0))),(3,(.konst (.ptr 3 0))),(192,.bool)],[(B4),(.konst .gone),(.row .acc),(B0)],[]⟩ (.nd 84 ⟨[(0,(.konst (.ptr 0 0))),(3,(.konst (.ptr 3 0))),(4,(.int .i64))],[(B4),(.konst .gone),(.row .acc),(B0)],[]⟩ .lf .lf) .lf),[(0,6,.acc)]⟩
theorem k72 x:g72.den E72 TT A72 F Tryz.f198 x=aH x:=by kernel_rfl
theorem o72:OK 198 (g72.sem aH):=ae ⟨tok,eqs,Tr.All.get (t:=E72) ⟨o53,⟨o22,⟨o41,⟨o31,trivial,trivial⟩,⟨o54,trivial,trivial⟩⟩,⟨o48,⟨o40,trivial,trivial⟩,trivial⟩⟩,⟨o68,⟨o67,⟨o42,trivial,trivial⟩,trivial⟩,⟨o71,⟨o69,trivial,trivial⟩,trivial⟩⟩⟩,mix⟩ Tryz.func198 (by kernel_rfl) (by kernel_rfl) g72 rfl _ k72
def g73:Sig:=⟨⟨bi 0 [.konst (.ptr 0 0),.el .ins],[B8,.row .acc],[]⟩,.tup [],[B9,.konst .gone,.row .acc],[(1,0,big),(0,0,big)],false,false,[(0,6,.acc)],[1]⟩
def E73:Tr Sem1:=(.nd 193 (g57.sem ee) (.nd 190 (g47.sem fH) (.nd 189 (g41.sem az) (.nd 60 (g12.sem aI) .lf .lf) .lf) (.nd 192 (g55.sem fJ) (.nd 191 (g54.sem aK) .lf .lf) .lf)) (.nd 196 (g22.sem aP) (.nd 195 (g34.sem bE) (.nd 194 (g61.sem bZ) .lf .lf) .lf) (.nd 198 (g72.sem aH) (.nd 197 (g66.sem cR) .lf .lf) .lf)))
def A73:Anns:=⟨.lf,(.nd 150 ⟨[(0,(.konst (.ptr 0 0))),(3,(.konst (.ptr 3 0))),(75,.bool)],[(B4),(.konst .gone),(.row .acc),(B0)],[]⟩ (.nd 42 ⟨[(0,(.konst (.ptr 0 0))),(3,(.konst (.ptr 3 0))),(21,.bool)],[(B4),(.konst .gone),(.row .acc),(B0)],[]⟩ .lf .lf) .lf),[(0,6,.acc)]⟩
theorem k73 x:g73.den E73 TT A73 F Tryz.f130 x=aO x:=by kernel_rfl
theorem o73:OK 130 (g73.sem aO):=ae ⟨tok,eqs,Tr.All.get (t:=E73) ⟨o57,⟨o47,⟨o41,⟨o12,trivial,trivial⟩,trivial⟩,⟨o55,⟨o54,trivial,trivial⟩,trivial⟩⟩,⟨o22,⟨o34,⟨o61,trivial,trivial⟩,trivial⟩,⟨o72,⟨o66,trivial,trivial⟩,trivial⟩⟩⟩,mix⟩ Tryz.func130 (by kernel_rfl) (by kernel_rfl) g73 rfl _ k73
def g74:Sig:=⟨⟨bi 0 [.agg [.arr .i 16,.int .i64,.int .i64],.agg [.list .page],.el .ins],[],[]⟩,.tup [.agg [.arr .i 16,.int .i64,.int .i64],.agg [.list .page],.list .acc,.int .i64],[],[],false,false,[],[]⟩
def E74:Tr Sem1:=(.nd 130 (g73.sem aO) (.nd 129 (g31.sem aU) .lf .lf) .lf)
def A74:Anns:=⟨.lf,.lf,[(20,6,.acc)]⟩
theorem k74 x:g74.den E74 TT A74 F Tryz.f71 x=fc x:=by kernel_rfl
theorem o74:OK 71 (g74.sem fc):=ae ⟨tok,eqs,Tr.All.get (t:=E74) ⟨o73,⟨o31,trivial,trivial⟩,trivial⟩,mix⟩ Tryz.func71 (by kernel_rfl) (by kernel_rfl) g74 rfl _ k74
def g75:Sig:=⟨⟨bi 0 [.agg [.arr .i 16,.int .i64,.int .i64],.agg [.list .page],.el .ins],[],[]⟩,.tup [.agg [.arr .i 16,.int .i64,.int .i64],.agg [.list .page],.list .acc,.int .i64],[],[],false,false,[],[]⟩
def E75:Tr Sem1:=(.nd 70 (g15.sem d8) (.nd 69 (g11.sem gw) (.nd 51 (g30.sem eD) .lf .lf) .lf) (.nd 72 (g50.sem dA) (.nd 71 (g74.sem fc) .lf .lf) .lf))
theorem k75 x:g75.den E75 TT AN F Tryz.f29 x=dx x:=by kernel_rfl
theorem o75:OK 29 (g75.sem dx):=ae ⟨tok,eqs,Tr.All.get (t:=E75) ⟨o15,⟨o11,⟨o30,trivial,trivial⟩,trivial⟩,⟨o50,⟨o74,trivial,trivial⟩,trivial⟩⟩,mix⟩ Tryz.func29 (by kernel_rfl) (by kernel_rfl) g75 rfl _ k75
def g76:Sig:=⟨⟨bi 0 [.int .i64],[],[]⟩,.one (.bool),[],[],false,false,[],[]⟩
theorem k76 x:g76.den Tr.lf TT AN F Tryz.f111 x=fi x:=by kernel_rfl
theorem o76:OK 111 (g76.sem fi):=ae ⟨tok,eqs,Tr.All.get (t:=Tr.lf) trivial,mix⟩ Tryz.func111 (by kernel_rfl) (by kernel_rfl) g76 rfl _ k76
def g77:Sig:=⟨⟨bi 0 [.agg [.arr .i 16,.int .i64,.int .i64]],[],[]⟩,.one (.bool),[],[],false,false,[],[]⟩
def E77:Tr Sem1:=(.nd 111 (g76.sem fi) .lf .lf)
theorem k77 x:g77.den E77 TT AN F Tryz.f53 x=gk x:=by kernel_rfl
theorem o77:OK 53 (g77.sem gk):=ae ⟨tok,eqs,Tr.All.get (t:=E77) ⟨o76,trivial,trivial⟩,mix⟩ Tryz.func53 (by kernel_rfl) (by kernel_rfl) g77 rfl _ k77
def g78:Sig:=⟨⟨bi 0 [.int .i64,.int .i64,.int .i64],[],[]⟩,.one (.bool),[],[],false,false,[],[]⟩
theorem k78 x:g78.den Tr.lf TT AN F Tryz.f58 x=aF x:=by kernel_rfl
theorem o78:OK 58 (g78.sem aF):=ae ⟨tok,eqs,Tr.All.get (t:=Tr.lf) trivial,mix⟩ Tryz.func58 (by kernel_rfl) (by kernel_rfl) g78 rfl _ k78
def g79:Sig:=⟨⟨bi 0 [.int .i64],[],[]⟩,.one (.bool),[],[],false,false,[],[]⟩
def E79:Tr Sem1:=(.nd 58 (g78.sem aF) .lf .lf)
theorem k79 x:g79.den E79 TT AN F Tryz.f112 x=gB x:=by kernel_rfl
theorem o79:OK 112 (g79.sem gB):=ae ⟨tok,eqs,Tr.All.get (t:=E79) ⟨o78,trivial,trivial⟩,mix⟩ Tryz.func112 (by kernel_rfl) (by kernel_rfl) g79 rfl _ k79
def g80:Sig:=⟨⟨bi 0 [.int .i64],[],[]⟩,.one (.bool),[],[],false,false,[],[]⟩
def E80:Tr Sem1:=(.nd 58 (g78.sem aF) .lf .lf)
theorem k80 x:g80.den E80 TT AN F Tryz.f113 x=gD x:=by kernel_rfl
theorem o80:OK 113 (g80.sem gD):=ae ⟨tok,eqs,Tr.All.get (t:=E80) ⟨o78,trivial,trivial⟩,mix⟩ Tryz.func113 (by kernel_rfl) (by kernel_rfl) g80 rfl _ k80
def g81:Sig:=⟨⟨bi 0 [.agg [.list .page]],[],[]⟩,.one (.bool),[],[],false,false,[],[]⟩
def E81:Tr Sem1:=(.nd 113 (g80.sem gD) (.nd 112 (g79.sem gB) .lf .lf) .lf)
def A81:Anns:=⟨(.nd 0 (.loop ⟨[(1,(.konst (.ptr 0 0))),(6,(.list .page)),(7,(.int .i64)),(8,(.int .i64))],[(.var [(.list .page)])],[]⟩) .lf .lf),.lf,[]⟩
theorem k81 x:g81.den E81 TT A81 F Tryz.f54 x=dS x:=by kernel_rfl
theorem o81:OK 54 (g81.sem dS):=ae ⟨tok,eqs,Tr.All.get (t:=E81) ⟨o80,⟨o79,trivial,trivial⟩,trivial⟩,mix⟩ Tryz.func54 (by kernel_rfl) (by kernel_rfl) g81 rfl _ k81
def g82:Sig:=⟨⟨bi 0 [.int .i64],[],[]⟩,.one (.bool),[],[],false,false,[],[]⟩
def E82:Tr Sem1:=(.nd 58 (g78.sem aF) .lf .lf)
theorem k82 x:g82.den E82 TT AN F Tryz.f93 x=gT x:=by kernel_rfl
theorem o82:OK 93 (g82.sem gT):=ae ⟨tok,eqs,Tr.All.get (t:=E82) ⟨o78,trivial,trivial⟩,mix⟩ Tryz.func93 (by kernel_rfl) (by kernel_rfl) g82 rfl _ k82
def g83:Sig:=⟨⟨bi 0 [.int .i64],[],[]⟩,.one (.bool),[],[],false,false,[],[]⟩
theorem k83 x:g83.den Tr.lf TT AN F Tryz.f94 x=eQ x:=by kernel_rfl
theorem o83:OK 94 (g83.sem eQ):=ae ⟨tok,eqs,Tr.All.get (t:=Tr.lf) trivial,mix⟩ Tryz.func94 (by kernel_rfl) (by kernel_rfl) g83 rfl _ k83
def g84:Sig:=⟨⟨bi 0 [.int .i64],[],[]⟩,.one (.bool),[],[],false,false,[],[]⟩
def E84:Tr Sem1:=(.nd 58 (g78.sem aF) .lf .lf)
theorem k84 x:g84.den E84 TT AN F Tryz.f102 x=be x:=by kernel_rfl
theorem o84:OK 102 (g84.sem be):=ae ⟨tok,eqs,Tr.All.get (t:=E84) ⟨o78,trivial,trivial⟩,mix⟩ Tryz.func102 (by kernel_rfl) (by kernel_rfl) g84 rfl _ k84
def g85:Sig:=⟨⟨bi 0 [.int .i64],[],[]⟩,.tup [.list .i,.str],[],[],false,false,[],[]⟩
def E85:Tr Sem1:=(.nd 102 (g84.sem be) (.nd 58 (g78.sem aF) .lf .lf) .lf)
def A85:Anns:=⟨.lf,(.nd 98 ⟨[(5,(.konst (.vec 0))),(6,(.konst (.vec 1))),(7,(.konst (.vec 2))),(24,(.int .i64)),(49,.bool)],[(.row .i),(.row .i),(.row .i)],[]⟩ (.nd 68 ⟨[(4,(.konst (.vec 0))),(5,(.konst (.vec 1))),(6,(.konst (.vec 2))),(7,(.konst (.vec 3))),(24,(.int .i64)),(34,.bool)],[(.row .i),(.row .i),(.row .i),(.row .i)],[]⟩ (.nd 56 ⟨[(4,(.konst (.vec 0))),(5,(.konst (.vec 1))),(6,(.konst (.vec 2))),(7,(.konst (.vec 3))),(24,(.int .i64)),(28,.bool)],[(.row .i),(.row .i),(.row .i),(.row .i)],[]⟩ .lf .lf) (.nd 80 ⟨[(5,(.konst (.vec 0))),(6,(.konst (.vec 1))),(7,(.konst (.vec 2))),(24,(.int .i64)),(40,.bool)],[(.row .i),(.row .i),(.row .i)],[]⟩ .lf .lf)) (.nd 128 ⟨[(5,(.konst (.vec 0))),(7,(.konst (.vec 1))),(24,(.int .i64)),(64,.bool)],[(.row .i),(.row .i)],[]⟩ (.nd 114 ⟨[(5,(.konst (.vec 0))),(7,(.konst (.vec 1))),(24,(.int .i64)),(57,.bool)],[(.row .i),(.row .i)],[]⟩ .lf .lf) (.nd 136 ⟨[(7,(.konst (.vec 0))),(68,.bool)],[(.row .i)],[]⟩ .lf .lf))),[]⟩
theorem k85 x:g85.den E85 TT A85 F Tryz.f95 x=c8 x:=by kernel_rfl
theorem o85:OK 95 (g85.sem c8):=ae ⟨tok,eqs,Tr.All.get (t:=E85) ⟨o84,⟨o78,trivial,trivial⟩,trivial⟩,mix⟩ Tryz.func95 (by kernel_rfl) (by kernel_rfl) g85 rfl _ k85
def g86:Sig:=⟨⟨bi 0 [V10],[],[]⟩,.one (.str),[],[],false,false,[],[]⟩
theorem k86 x:g86.den Tr.lf TT AN F Tryz.f96 x=bP x:=by kernel_rfl
theorem o86:OK 96 (g86.sem bP):=ae ⟨tok,eqs,Tr.All.get (t:=Tr.lf) trivial,mix⟩ Tryz.func96 (by kernel_rfl) (by kernel_rfl) g86 rfl _ k86
def g87:Sig:=⟨⟨bi 0 [.el .ins],[],[]⟩,.one (.bool),[],[],false,false,[],[]⟩
theorem k87 x:g87.den Tr.lf TT AN F Tryz.f97 x=fy x:=by kernel_rfl
theorem o87:OK 97 (g87.sem fy):=ae ⟨tok,eqs,Tr.All.get (t:=Tr.lf) trivial,mix⟩ Tryz.func97 (by kernel_rfl) (by kernel_rfl) g87 rfl _ k87
theorem o88:OK 98 wm:=has_ok Tryz.func98 (by kernel_rfl) (by kernel_rfl) (gm:=0) (by simp[Ly]) (fun s p m w h1 h2=>Tryz.strings_Contains s p m w h1 h2)
def g89:Sig:=⟨⟨bi 0 [.int .i64],[],[]⟩,.one (.bool),[],[],false,false,[],[]⟩
theorem k89 x:g89.den Tr.lf TT AN F Tryz.f151 x=cX x:=by kernel_rfl
theorem o89:OK 151 (g89.sem cX):=ae ⟨tok,eqs,Tr.All.get (t:=Tr.lf) trivial,mix⟩ Tryz.func151 (by kernel_rfl) (by kernel_rfl) g89 rfl _ k89
def g90:Sig:=⟨⟨bi 0 [.int .i64],[],[]⟩,.one (V10),[],[],false,false,[],[]⟩
theorem k90 x:g90.den Tr.lf TT AN F Tryz.f152 x=ic x:=by kernel_rfl
theorem o90:OK 152 (g90.sem ic):=ae ⟨tok,eqs,Tr.All.get (t:=Tr.lf) trivial,mix⟩ Tryz.func152 (by kernel_rfl) (by kernel_rfl) g90 rfl _ k90
def g91:Sig:=⟨⟨bi 0 [.int .i64],[],[]⟩,.one (.bool),[],[],false,false,[],[]⟩
def E91:Tr Sem1:=(.nd 58 (g78.sem aF) .lf .lf)
theorem k91 x:g91.den E91 TT AN F Tryz.f156 x=aB x:=by kernel_rfl
theorem o91:OK 156 (g91.sem aB):=ae ⟨tok,eqs,Tr.All.get (t:=E91) ⟨o78,trivial,trivial⟩,mix⟩ Tryz.func156 (by kernel_rfl) (by kernel_rfl) g91 rfl _ k91
def g92:Sig:=⟨⟨bi 0 [.int .i64,.int .i64],[],[]⟩,.one (.bool),[],[],false,false,[],[]⟩
def E92:Tr Sem1:=(.nd 151 (g89.sem cX) (.nd 58 (g78.sem aF) .lf .lf) (.nd 156 (g91.sem aB) .lf .lf))
theorem k92 x:g92.den E92 TT AN F Tryz.f153 x=gp x:=by kernel_rfl
theorem o92:OK 153 (g92.sem gp):=ae ⟨tok,eqs,Tr.All.get (t:=E92) ⟨o89,⟨o78,trivial,trivial⟩,⟨o91,trivial,trivial⟩⟩,mix⟩ Tryz.func153 (by kernel_rfl) (by kernel_rfl) g92 rfl _ k92
def g93:Sig:=⟨⟨bi 0 [.int .i64,.int .i64],[],[]⟩,.one (.int .i64),[],[],false,false,[],[]⟩
theorem k93 x:g93.den Tr.lf TT AN F Tryz.f165 x=bo x:=by kernel_rfl
theorem o93:OK 165 (g93.sem bo):=ae ⟨tok,eqs,Tr.All.get (t:=Tr.lf) trivial,mix⟩ Tryz.func165 (by kernel_rfl) (by kernel_rfl) g93 rfl _ k93
def g94:Sig:=⟨⟨bi 0 [.int .i64,.int .i64],[],[]⟩,.one (.bool),[],[],false,false,[],[]⟩
def E94:Tr Sem1:=(.nd 165 (g93.sem bo) .lf .lf)
theorem k94 x:g94.den E94 TT AN F Tryz.f118 x=cU x:=by kernel_rfl
theorem o94:OK 118 (g94.sem cU):=ae ⟨tok,eqs,Tr.All.get (t:=E94) ⟨o93,trivial,trivial⟩,mix⟩ Tryz.func118 (by kernel_rfl) (by kernel_rfl) g94 rfl _ k94
def g95:Sig:=⟨⟨bi 0 [V10],[],[]⟩,.one (.bool),[],[],false,false,[],[]⟩
def E95:Tr Sem1:=(.nd 118 (g94.sem cU) (.nd 58 (g78.sem aF) .lf .lf) .lf)
theorem k95 x:g95.den E95 TT AN F Tryz.f56 x=ct x:=by kernel_rfl
theorem o95:OK 56 (g95.sem ct):=ae ⟨tok,eqs,Tr.All.get (t:=E95) ⟨o94,⟨o78,trivial,trivial⟩,trivial⟩,mix⟩ Tryz.func56 (by kernel_rfl) (by kernel_rfl) g95 rfl _ k95
def g96:Sig:=⟨⟨bi 0 [.int .i64],[],[]⟩,.one (V10),[],[],false,false,[],[]⟩
theorem k96 x:g96.den Tr.lf TT AN F Tryz.f154 x=ib x:=by kernel_rfl
theorem o96:OK 154 (g96.sem ib):=ae ⟨tok,eqs,Tr.All.get (t:=Tr.lf) trivial,mix⟩ Tryz.func154 (by kernel_rfl) (by kernel_rfl) g96 rfl _ k96
def g97:Sig:=⟨⟨bi 0 [V10,.int .i64],[],[]⟩,.one (.bool),[],[],false,false,[],[]⟩
def E97:Tr Sem1:=(.nd 152 (g90.sem ic) (.nd 151 (g89.sem cX) (.nd 56 (g95.sem ct) .lf .lf) .lf) (.nd 154 (g96.sem ib) (.nd 153 (g92.sem gp) .lf .lf) .lf))
theorem k97 x:g97.den E97 TT AN F Tryz.f99 x=cx x:=by kernel_rfl
theorem o97:OK 99 (g97.sem cx):=ae ⟨tok,eqs,Tr.All.get (t:=E97) ⟨o90,⟨o89,⟨o95,trivial,trivial⟩,trivial⟩,⟨o96,⟨o92,trivial,trivial⟩,trivial⟩⟩,mix⟩ Tryz.func99 (by kernel_rfl) (by kernel_rfl) g97 rfl _ k97
def g98:Sig:=⟨⟨bi 0 [.el .ins],[],[]⟩,.one (.int .i64),[],[],false,false,[],[]⟩
def E98:Tr Sem1:=(.nd 102 (g84.sem be) .lf .lf)
theorem k98 x:g98.den E98 TT AN F Tryz.f100 x=bU x:=by kernel_rfl
theorem o98:OK 100 (g98.sem bU):=ae ⟨tok,eqs,Tr.All.get (t:=E98) ⟨o84,trivial,trivial⟩,mix⟩ Tryz.func100 (by kernel_rfl) (by kernel_rfl) g98 rfl _ k98
def g99:Sig:=⟨⟨bi 0 [.int .i64],[],[]⟩,.one (.bool),[],[],false,false,[],[]⟩
def E99:Tr Sem1:=(.nd 58 (g78.sem aF) .lf .lf)
theorem k99 x:g99.den E99 TT AN F Tryz.f155 x=gC x:=by kernel_rfl
theorem o99:OK 155 (g99.sem gC):=ae ⟨tok,eqs,Tr.All.get (t:=E99) ⟨o78,trivial,trivial⟩,mix⟩ Tryz.func155 (by kernel_rfl) (by kernel_rfl) g99 rfl _ k99
def g100:Sig:=⟨⟨bi 0 [.el .ins],[],[]⟩,.one (.bool),[],[],false,false,[],[]⟩
def E100:Tr Sem1:=(.nd 118 (g94.sem cU) (.nd 102 (g84.sem be) .lf .lf) (.nd 155 (g99.sem gC) .lf .lf))
theorem k100 x:g100.den E100 TT AN F Tryz.f101 x=dT x:=by kernel_rfl
theorem o100:OK 101 (g100.sem dT):=ae ⟨tok,eqs,Tr.All.get (t:=E100) ⟨o94,⟨o84,trivial,trivial⟩,⟨o99,trivial,trivial⟩⟩,mix⟩ Tryz.func101 (by kernel_rfl) (by kernel_rfl) g100 rfl _ k100
def g101:Sig:=⟨⟨bi 0 [V10],[],[]⟩,.one (.bool),[],[],false,false,[],[]⟩
def E101:Tr Sem1:=(.nd 156 (g91.sem aB) .lf .lf)
theorem k101 x:g101.den E101 TT AN F Tryz.f103 x=dG x:=by kernel_rfl
theorem o101:OK 103 (g101.sem dG):=ae ⟨tok,eqs,Tr.All.get (t:=E101) ⟨o91,trivial,trivial⟩,mix⟩ Tryz.func103 (by kernel_rfl) (by kernel_rfl) g101 rfl _ k101
def g102:Sig:=⟨⟨bi 0 [.int .i64],[],[]⟩,.tup [.int .i64,.bool],[],[],false,false,[],[]⟩
def A102:Anns:=⟨.lf,(.nd 20 ⟨[(10,.bool)],[],[]⟩ (.nd 10 ⟨[(4,(.int .i64)),(5,.bool)],[],[]⟩ .lf .lf) .lf),[]⟩
theorem k102 x:g102.den Tr.lf TT A102 F Tryz.f225 x=dq x:=by kernel_rfl
theorem o102:OK 225 (g102.sem dq):=ae ⟨tok,eqs,Tr.All.get (t:=Tr.lf) trivial,mix⟩ Tryz.func225 (by kernel_rfl) (by kernel_rfl) g102 rfl _ k102
def g103:Sig:=⟨⟨bi 0 [.el .ins],[],[]⟩,.one (.bool),[],[],false,false,[],[]⟩
def E103:Tr Sem1:=(.nd 225 (g102.sem dq) .lf .lf)
theorem k103 x:g103.den E103 TT AN F Tryz.f157 x=fA x:=by kernel_rfl
theorem o103:OK 157 (g103.sem fA):=ae ⟨tok,eqs,Tr.All.get (t:=E103) ⟨o102,trivial,trivial⟩,mix⟩ Tryz.func157 (by kernel_rfl) (by kernel_rfl) g103 rfl _ k103
def g104:Sig:=⟨⟨bi 0 [.int .i64],[],[]⟩,.one (.bool),[],[],false,false,[],[]⟩
def E104:Tr Sem1:=(.nd 58 (g78.sem aF) .lf .lf)
theorem k104 x:g104.den E104 TT AN F Tryz.f226 x=cT x:=by kernel_rfl
theorem o104:OK 226 (g104.sem cT):=ae ⟨tok,eqs,Tr.All.get (t:=E104) ⟨o78,trivial,trivial⟩,mix⟩ Tryz.func226 (by kernel_rfl) (by kernel_rfl) g104 rfl _ k104
def g105:Sig:=⟨⟨bi 0 [V10,.int .i64],[],[]⟩,.one (.bool),[],[],false,false,[],[]⟩
def E105:Tr Sem1:=(.nd 58 (g78.sem aF) .lf .lf)
theorem k105 x:g105.den E105 TT AN F Tryz.f227 x=eL x:=by kernel_rfl
theorem o105:OK 227 (g105.sem eL):=ae ⟨tok,eqs,Tr.All.get (t:=E105) ⟨o78,trivial,trivial⟩,mix⟩ Tryz.func227 (by kernel_rfl) (by kernel_rfl) g105 rfl _ k105
def g106:Sig:=⟨⟨bi 0 [V10,.int .i64],[],[]⟩,.one (.bool),[],[],false,false,[],[]⟩
def E106:Tr Sem1:=(.nd 227 (g105.sem eL) (.nd 226 (g104.sem cT) .lf .lf) .lf)
theorem k106 x:g106.den E106 TT AN F Tryz.f158 x=dF x:=by kernel_rfl
theorem o106:OK 158 (g106.sem dF):=ae ⟨tok,eqs,Tr.All.get (t:=E106) ⟨o105,⟨o104,trivial,trivial⟩,trivial⟩,mix⟩ Tryz.func158 (by kernel_rfl) (by kernel_rfl) g106 rfl _ k106
def g107:Sig:=⟨⟨bi 0 [.el .ins],[],[]⟩,.one (.bool),[],[],false,false,[],[]⟩
def E107:Tr Sem1:=(.nd 157 (g103.sem fA) (.nd 100 (g98.sem bU) .lf .lf) (.nd 158 (g106.sem dF) .lf .lf))
theorem k107 x:g107.den E107 TT AN F Tryz.f104 x=dU x:=by kernel_rfl
theorem o107:OK 104 (g107.sem dU):=ae ⟨tok,eqs,Tr.All.get (t:=E107) ⟨o103,⟨o98,trivial,trivial⟩,⟨o106,trivial,trivial⟩⟩,mix⟩ Tryz.func104 (by kernel_rfl) (by kernel_rfl) g107 rfl _ k107
def g108:Sig:=⟨⟨bi 0 [.el .ins],[],[]⟩,.one (.bool),[],[],false,false,[],[]⟩
def E108:Tr Sem1:=(.nd 98 wm (.nd 95 (g85.sem c8) (.nd 93 (g82.sem gT) (.nd 58 (g78.sem aF) .lf .lf) (.nd 94 (g83.sem eQ) .lf .lf)) (.nd 97 (g87.sem fy) (.nd 96 (g86.sem bP) .lf .lf) .lf)) (.nd 102 (g84.sem be) (.nd 100 (g98.sem bU) (.nd 99 (g97.sem cx) .lf .lf) (.nd 101 (g100.sem dT) .lf .lf)) (.nd 104 (g107.sem dU) (.nd 103 (g101.sem dG) .lf .lf) .lf)))
def A108:Anns:=⟨(.nd 0 (.loop ⟨[(1,(.konst (.ptr 0 0))),(4,.str),(5,.bool),(42,(.list .i)),(43,(.int .i64)),(44,(.int .i64))],[(B0)],[]⟩) .lf .lf),.lf,[]⟩
theorem k108 x:g108.den E108 TT A108 F Tryz.f49 x=cJ x:=by kernel_rfl
theorem o108:OK 49 (g108.sem cJ):=ae ⟨tok,eqs,Tr.All.get (t:=E108) ⟨o88,⟨o85,⟨o82,⟨o78,trivial,trivial⟩,⟨o83,trivial,trivial⟩⟩,⟨o87,⟨o86,trivial,trivial⟩,trivial⟩⟩,⟨o84,⟨o98,⟨o97,trivial,trivial⟩,⟨o100,trivial,trivial⟩⟩,⟨o107,⟨o101,trivial,trivial⟩,trivial⟩⟩⟩,mix⟩ Tryz.func49 (by kernel_rfl) (by kernel_rfl) g108 rfl _ k108
def g109:Sig:=⟨⟨bi 0 [.list .page],[],[]⟩,.one (.konst (.vec 0)),[.row .page],[],false,true,[(2,0,.page)],[]⟩
theorem k109 x:g109.den Tr.lf TT AN F Tryz.f136 x=cn x:=by kernel_rfl
theorem o109:OK 136 (g109.sem cn):=ae ⟨tok,eqs,Tr.All.get (t:=Tr.lf) trivial,mix⟩ Tryz.func136 (by kernel_rfl) (by kernel_rfl) g109 rfl _ k109
def g110:Sig:=⟨⟨bi 0 [.agg [.list .page]],[],[]⟩,.one (.agg [.konst (.vec 0)]),[.row .page],[],false,true,[(2,1,.page)],[]⟩
def E110:Tr Sem1:=(.nd 136 (g109.sem cn) .lf .lf)
theorem k110 x:g110.den E110 TT AN F Tryz.f82 x=bp x:=by kernel_rfl
theorem o110:OK 82 (g110.sem bp):=ae ⟨tok,eqs,Tr.All.get (t:=E110) ⟨o109,trivial,trivial⟩,mix⟩ Tryz.func82 (by kernel_rfl) (by kernel_rfl) g110 rfl _ k110
def qi:Sig:=⟨⟨bi 0 [.int .i64,.int .i64],[],[]⟩,.one (.int .i64),[],[],false,false,[],[]⟩
theorem k111 x:qi.den Tr.lf TT AN F Tryz.f183 x=af x:=by kernel_rfl
theorem sB:OK 183 (qi.sem af):=ae ⟨tok,eqs,Tr.All.get (t:=Tr.lf) trivial,mix⟩ Tryz.func183 (by kernel_rfl) (by kernel_rfl) qi rfl _ k111
def E112:Tr Sem1:=(.nd 183 (qi.sem af) (.nd 156 (g91.sem aB) .lf .lf) .lf)
def I112:Sem1:=ze E112 TT AN 1000000 Tryz.f169 false []
theorem o112:OK 169 I112:=in_ok ⟨tok,eqs,Tr.All.get (t:=E112) ⟨sB,⟨o91,trivial,trivial⟩,trivial⟩,mix⟩ Tryz.func169 (by kernel_rfl) (by kernel_rfl) false []
def I113:Sem1:=ze Tr.lf TT AN 1000000 Tryz.f57 false []
theorem o113:OK 57 I113:=in_ok ⟨tok,eqs,Tr.All.get (t:=Tr.lf) trivial,mix⟩ Tryz.func57 (by kernel_rfl) (by kernel_rfl) false []
def g114:Sig:=⟨⟨bi 0 [.el .page,.konst (.ptr 0 0)],[.var [.int .i64]],[]⟩,.one (.bool),[.var [.int .i64]],[],false,false,[],[]⟩
theorem k114 x:g114.den Tr.lf TT AN F Tryz.f324 x=cA x:=by kernel_rfl
theorem o114:OK 324 (g114.sem cA):=ae ⟨tok,eqs,Tr.All.get (t:=Tr.lf) trivial,mix⟩ Tryz.func324 (by kernel_rfl) (by kernel_rfl) g114 rfl _ k114
def g115:Sig:=⟨⟨bi 0 [.list .page,.konst (.func (.func 324) [] [.ptr 0 0])],[.var [.int .i64]],[]⟩,.one (.int .i64),[.var [.int .i64]],[],false,false,[],[]⟩
def E115:Tr Sem1:=(.nd 324 (g114.sem cA) .lf .lf)
def A115:Anns:=⟨(.nd 0 (.loop ⟨[(0,(.list .page)),(1,(.konst (.func (.func 324) [] [(.ptr 0 0)]))),(7,(.int .i64)),(8,(.int .i64))],[(.var [(.int .i64)])],[]⟩) .lf .lf),.lf,[]⟩
theorem k115 x:g115.den E115 TT A115 F Tryz.f323 x=aJ x:=by kernel_rfl
theorem o115:OK 323 (g115.sem aJ):=ae ⟨tok,eqs,Tr.All.get (t:=E115) ⟨o114,trivial,trivial⟩,mix⟩ Tryz.func323 (by kernel_rfl) (by kernel_rfl) g115 rfl _ k115
def g116:Sig:=⟨⟨bi 0 [.agg [.list .page],.int .i64],[],[]⟩,.one (.int .i64),[],[],false,false,[],[]⟩
def E116:Tr Sem1:=(.nd 323 (g115.sem aJ) (.nd 58 (g78.sem aF) .lf .lf) .lf)
theorem k116 x:g116.den E116 TT AN F Tryz.f272 x=bh x:=by kernel_rfl
theorem o116:OK 272 (g116.sem bh):=ae ⟨tok,eqs,Tr.All.get (t:=E116) ⟨o115,⟨o78,trivial,trivial⟩,trivial⟩,mix⟩ Tryz.func272 (by kernel_rfl) (by kernel_rfl) g116 rfl _ k116
def g117:Sig:=⟨⟨bi 0 [.agg [.list .page],.int .i64,.int .i64,.int .i64],[],[]⟩,.one (.int .i64),[],[],false,false,[],[]⟩
def E117:Tr Sem1:=(.nd 272 (g116.sem bh) .lf .lf)
def A117:Anns:=⟨(.nd 0 (.loop ⟨[(1,(.int .i64)),(3,(.int .i64)),(4,(.konst (.ptr 0 0))),(11,(.int .i64)),(12,(.int .i64))],[(.var [(.list .page)])],[]⟩) .lf .lf),.lf,[]⟩
theorem k117 x:g117.den E117 TT A117 F Tryz.f210 x=bN x:=by kernel_rfl
theorem o117:OK 210 (g117.sem bN):=ae ⟨tok,eqs,Tr.All.get (t:=E117) ⟨o116,trivial,trivial⟩,mix⟩ Tryz.func210 (by kernel_rfl) (by kernel_rfl) g117 rfl _ k117
def g118:Sig:=⟨⟨bi 0 [.agg [.list .page],.int .i64,.int .i64],[],[]⟩,.one (.str),[],[],false,false,[],[]⟩
def E118:Tr Sem1:=(.nd 272 (g116.sem bh) .lf .lf)
def A118:Anns:=⟨(.nd 0 (.loop ⟨[(1,(.int .i64)),(3,(.konst (.ptr 0 0))),(7,(.konst (.vec 1))),(12,(.int .i64)),(13,(.int .i64))],[(.var [(.list .page)]),(.row .u)],[]⟩) .lf .lf),.lf,[]⟩
theorem k118 x:g118.den E118 TT A118 F Tryz.f211 x=cC x:=by kernel_rfl
theorem o118:OK 211 (g118.sem cC):=ae ⟨tok,eqs,Tr.All.get (t:=E118) ⟨o116,trivial,trivial⟩,mix⟩ Tryz.func211 (by kernel_rfl) (by kernel_rfl) g118 rfl _ k118
def g119:Sig:=⟨⟨bi 0 [.str],[],[]⟩,.one (.int .i64),[],[],false,false,[],[]⟩
def A119:Anns:=⟨(.nd 0 (.loop ⟨[(0,.str),(3,(.int .i64)),(6,(.int .i64)),(7,(.int .i64))],[],[]⟩) .lf .lf),.lf,[]⟩
theorem k119 x:g119.den Tr.lf TT A119 F Tryz.f298 x=gU x:=by kernel_rfl
theorem o119:OK 298 (g119.sem gU):=ae ⟨tok,eqs,Tr.All.get (t:=Tr.lf) trivial,mix⟩ Tryz.func298 (by kernel_rfl) (by kernel_rfl) g119 rfl _ k119
def g120:Sig:=⟨⟨bi 0 [.agg [.list .page],.int .i64,.int .i64],[],[]⟩,.tup [.int .i64,.int .i64],[],[],false,false,[],[]⟩
def E120:Tr Sem1:=(.nd 211 (g118.sem cC) (.nd 210 (g117.sem bN) .lf .lf) (.nd 298 (g119.sem gU) .lf .lf))
theorem k120 x:g120.den E120 TT AN F Tryz.f237 x=cO x:=by kernel_rfl
theorem o120:OK 237 (g120.sem cO):=ae ⟨tok,eqs,Tr.All.get (t:=E120) ⟨o118,⟨o117,trivial,trivial⟩,⟨o119,trivial,trivial⟩⟩,mix⟩ Tryz.func237 (by kernel_rfl) (by kernel_rfl) g120 rfl _ k120
def g121:Sig:=⟨⟨bi 0 [.konst (.ptr 0 0),.int .i64,.int .i64],[B6,.row .page,.row .acc],[]⟩,.one (.int .i64),[B7,.konst .gone,.konst .gone,.row .page,.row .acc],[(1,0,big),(2,0,big),(0,3,4),(0,5,7)],false,false,[(0,4,.page),(0,6,.acc)],[1,2]⟩
def E121:Tr Sem1:=(.nd 237 (g120.sem cO) .lf .lf)
def A121:Anns:=⟨.lf,.lf,[(0,4,.page),(0,6,.acc)]⟩
theorem k121 x:g121.den E121 TT A121 F Tryz.f177 x=aL x:=by kernel_rfl
theorem o121:OK 177 (g121.sem aL):=ae ⟨tok,eqs,Tr.All.get (t:=E121) ⟨o120,trivial,trivial⟩,mix⟩ Tryz.func177 (by kernel_rfl) (by kernel_rfl) g121 rfl _ k121
def Dt:Sig:=⟨⟨bi 0 [.konst (.ptr 0 0),V10,.int .i64],[B6,.row .page,.row .acc],[]⟩,.one (.int .i64),[B7,.konst .gone,.konst .gone,.row .page,.row .acc],[(1,0,big),(2,0,big),(0,3,4),(0,5,7)],false,false,[(0,4,.page),(0,6,.acc)],[1,2]⟩
def E122:Tr Sem1:=(.nd 169 I112 (.nd 156 (g91.sem aB) (.nd 57 I113 .lf .lf) .lf) (.nd 183 (qi.sem af) (.nd 177 (g121.sem aL) .lf .lf) .lf))
def A122:Anns:=⟨.lf,.lf,[(0,4,.page),(0,6,.acc)]⟩
theorem k122 x:Dt.den E122 TT A122 F Tryz.f164 x=au x:=by kernel_rfl
theorem o122:OK 164 (Dt.sem au):=ae ⟨tok,eqs,Tr.All.get (t:=E122) ⟨o112,⟨o91,⟨o113,trivial,trivial⟩,trivial⟩,⟨sB,⟨o121,trivial,trivial⟩,trivial⟩⟩,mix⟩ Tryz.func164 (by kernel_rfl) (by kernel_rfl) Dt rfl _ k122
def g123:Sig:=⟨⟨bi 0 [.int .i64,.int .i64],[],[]⟩,.one (.str),[],[],false,false,[],[]⟩
def A123:Anns:=⟨(.nd 0 (.loop ⟨[(0,(.int .i64)),(5,(.konst (.vec 0))),(10,(.int .i64)),(11,(.int .i64))],[(.row .u)],[]⟩) .lf .lf),.lf,[]⟩
theorem k123 x:g123.den Tr.lf TT A123 F Tryz.f297 x=fB x:=by kernel_rfl
theorem o123:OK 297 (g123.sem fB):=ae ⟨tok,eqs,Tr.All.get (t:=Tr.lf) trivial,mix⟩ Tryz.func297 (by kernel_rfl) (by kernel_rfl) g123 rfl _ k123
def g124:Sig:=⟨⟨bi 0 [.agg [.list .page],.int .i64,.str],[],[]⟩,.one (.agg [.konst (.vec 0)]),[.row .page],[],false,true,[(6,1,.page)],[]⟩
def E124:Tr Sem1:=(.nd 272 (g116.sem bh) (.nd 82 (g110.sem bp) .lf .lf) .lf)
def A124:Anns:=⟨(.nd 0 (.loop ⟨[(1,(.int .i64)),(2,.str),(3,(.konst (.ptr 0 0))),(6,(.konst (.ptr 1 0))),(7,(.konst (.ptr 2 0)))],[(.var [(.list .page)]),(.var [(.konst .nils)]),(.var [(.konst (.vec 3))]),(.row .page)],[]⟩) .lf .lf),.lf,[]⟩
theorem k124 x:g124.den E124 TT A124 F Tryz.f296 x=db x:=by kernel_rfl
theorem o124:OK 296 (g124.sem db):=ae ⟨tok,eqs,Tr.All.get (t:=E124) ⟨o116,⟨o110,trivial,trivial⟩,trivial⟩,mix⟩ Tryz.func296 (by kernel_rfl) (by kernel_rfl) g124 rfl _ k124
def g125:Sig:=⟨⟨bi 0 [.agg [.list .page],.int .i64,.int .i64,.int .i64],[],[]⟩,.tup [.agg [.konst (.vec 0)],.int .i64],[.row .page],[],false,true,[(8,1,.page)],[]⟩
def E125:Tr Sem1:=(.nd 296 (g124.sem db) (.nd 210 (g117.sem bN) (.nd 82 (g110.sem bp) .lf .lf) .lf) (.nd 297 (g123.sem fB) .lf .lf))
theorem k125 x:g125.den E125 TT AN F Tryz.f236 x=bO x:=by kernel_rfl
theorem o125:OK 236 (g125.sem bO):=ae ⟨tok,eqs,Tr.All.get (t:=E125) ⟨o124,⟨o117,⟨o110,trivial,trivial⟩,trivial⟩,⟨o123,trivial,trivial⟩⟩,mix⟩ Tryz.func236 (by kernel_rfl) (by kernel_rfl) g125 rfl _ k125
def g126:Sig:=⟨⟨bi 0 [.konst (.ptr 0 0),.int .i64,.int .i64,.int .i64],[B6,.row .page,.row .acc],[]⟩,.tup [],[B7,.konst .gone,.konst .gone,.row .page,.row .acc],[(1,0,big),(2,0,big),(0,3,4),(0,5,7)],false,false,[(0,4,.page),(0,6,.acc)],[1,2]⟩
def E126:Tr Sem1:=(.nd 236 (g125.sem bO) (.nd 183 (qi.sem af) .lf .lf) .lf)
def A126:Anns:=⟨.lf,.lf,[(0,4,.page),(0,6,.acc)]⟩
theorem k126 x:g126.den E126 TT A126 F Tryz.f176 x=aE x:=by kernel_rfl
theorem o126:OK 176 (g126.sem aE):=ae ⟨tok,eqs,Tr.All.get (t:=E126) ⟨o125,⟨sB,trivial,trivial⟩,trivial⟩,mix⟩ Tryz.func176 (by kernel_rfl) (by kernel_rfl) g126 rfl _ k126
def E127:Tr Sem1:=(.nd 183 (qi.sem af) (.nd 156 (g91.sem aB) .lf .lf) .lf)
def I127:Sem1:=ze E127 TT AN 1000000 Tryz.f168 false [(0,0,1)]
theorem o127:OK 168 I127:=in_ok ⟨tok,eqs,Tr.All.get (t:=E127) ⟨sB,⟨o91,trivial,trivial⟩,trivial⟩,mix⟩ Tryz.func168 (by kernel_rfl) (by kernel_rfl) false [(0,0,1)]
def g128:Sig:=⟨⟨bi 0 [.konst (.ptr 0 0),V10,.int .i64,.int .i64],[B6,.row .page,.row .acc],[]⟩,.tup [],[B7,.konst .gone,.konst .gone,.row .page,.row .acc],[(1,0,big),(2,0,big),(0,0,1),(0,3,4),(0,5,7)],false,false,[(0,4,.page),(0,6,.acc)],[1,2]⟩
def E128:Tr Sem1:=(.nd 168 I127 (.nd 156 (g91.sem aB) (.nd 57 I113 .lf .lf) .lf) (.nd 183 (qi.sem af) (.nd 176 (g126.sem aE) .lf .lf) .lf))
def A128:Anns:=⟨.lf,.lf,[(0,4,.page),(0,6,.acc)]⟩
theorem k128 x:g128.den E128 TT A128 F Tryz.f163 x=an x:=by kernel_rfl
theorem o128:OK 163 (g128.sem an):=ae ⟨tok,eqs,Tr.All.get (t:=E128) ⟨o127,⟨o91,⟨o113,trivial,trivial⟩,trivial⟩,⟨sB,⟨o126,trivial,trivial⟩,trivial⟩⟩,mix⟩ Tryz.func163 (by kernel_rfl) (by kernel_rfl) g128 rfl _ k128
def g129:Sig:=⟨⟨bi 0 [.int .i64,.konst (.ptr 0 0)],[.var [.int .i64]],[]⟩,.one (.bool),[.var [.int .i64]],[],false,false,[],[]⟩
theorem k129 x:g129.den Tr.lf TT AN F Tryz.f229 x=bt x:=by kernel_rfl
theorem o129:OK 229 (g129.sem bt):=ae ⟨tok,eqs,Tr.All.get (t:=Tr.lf) trivial,mix⟩ Tryz.func229 (by kernel_rfl) (by kernel_rfl) g129 rfl _ k129
def g130:Sig:=⟨⟨bi 0 [.int .i64,.int .i64],[],[]⟩,.one (.bool),[],[],false,false,[],[]⟩
def E130:Tr Sem1:=(.nd 229 (g129.sem bt) .lf .lf)
theorem k130 x:g130.den E130 TT AN F Tryz.f167 x=S_impl_holds x:=by kernel_rfl
theorem o130:OK 167 (g130.sem S_impl_holds):=ae ⟨tok,eqs,Tr.All.get (t:=E130) ⟨o129,trivial,trivial⟩,mix⟩ Tryz.func167 (by kernel_rfl) (by kernel_rfl) g130 rfl _ k130
def AR:Sig:=⟨⟨bi 0 [.bool,.int .i64],[],[]⟩,.one (.int .i64),[],[],false,false,[],[]⟩
theorem k131 x:AR.den Tr.lf TT AN F Tryz.f166 x=aZ x:=by kernel_rfl
theorem o131:OK 166 (AR.sem aZ):=ae ⟨tok,eqs,Tr.All.get (t:=Tr.lf) trivial,mix⟩ Tryz.func166 (by kernel_rfl) (by kernel_rfl) AR rfl _ k131
def g132:Sig:=⟨⟨bi 0 [.konst (.ptr 0 0),.el .ins],[B6,.row .page,.row .acc],[]⟩,.tup [],[B7,.konst .gone,.konst .gone,.row .page,.row .acc],[(1,0,big),(2,0,big),(0,0,1),(0,3,4),(0,5,7)],false,false,[(0,4,.page),(0,6,.acc)],[1,2]⟩
def E132:Tr Sem1:=(.nd 166 (AR.sem aZ) (.nd 163 (g128.sem an) (.nd 156 (g91.sem aB) (.nd 57 I113 .lf .lf) .lf) (.nd 165 (g93.sem bo) (.nd 164 (Dt.sem au) .lf .lf) .lf)) (.nd 169 I112 (.nd 168 I127 (.nd 167 (g130.sem S_impl_holds) .lf .lf) .lf) (.nd 183 (qi.sem af) .lf .lf)))
def A132:Anns:=⟨.lf,(.nd 262 ⟨[(0,(.konst (.ptr 0 0))),(3,(.konst (.ptr 5 0))),(6,(.int .i64))],[(B1),(.konst .gone),(.konst .gone),(.row .page),(.row .acc),(B0)],[]⟩ .lf .lf),[(0,4,.page),(0,6,.acc)]⟩
theorem k132 x:g132.den E132 TT A132 F Tryz.f114 x=aC x:=by kernel_rfl
theorem o132:OK 114 (g132.sem aC):=ae ⟨tok,eqs,Tr.All.get (t:=E132) ⟨o131,⟨o128,⟨o91,⟨o113,trivial,trivial⟩,trivial⟩,⟨o93,⟨o122,trivial,trivial⟩,trivial⟩⟩,⟨o112,⟨o127,⟨o130,trivial,trivial⟩,trivial⟩,⟨sB,trivial,trivial⟩⟩⟩,mix⟩ Tryz.func114 (by kernel_rfl) (by kernel_rfl) g132 rfl _ k132
def g133:Sig:=⟨⟨bi 0 [.int .i64],[],[]⟩,.one (.int .i64),[],[],false,false,[],[]⟩
theorem k133 x:g133.den Tr.lf TT AN F Tryz.f170 x=gu x:=by kernel_rfl
theorem o133:OK 170 (g133.sem gu):=ae ⟨tok,eqs,Tr.All.get (t:=Tr.lf) trivial,mix⟩ Tryz.func170 (by kernel_rfl) (by kernel_rfl) g133 rfl _ k133
def g134:Sig:=⟨⟨bi 0 [.int .u64,.int .u64],[],[]⟩,.tup [.int .u64,.int .u64],[],[],false,false,[],[]⟩
theorem k134 x:g134.den Tr.lf TT AN F Tryz.f293 x=dg x:=by kernel_rfl
theorem o134:OK 293 (g134.sem dg):=ae ⟨tok,eqs,Tr.All.get (t:=Tr.lf) trivial,mix⟩ Tryz.func293 (by kernel_rfl) (by kernel_rfl) g134 rfl _ k134
def g135:Sig:=⟨⟨bi 0 [.int .i64,.int .i64],[],[]⟩,.tup [.int .i64,.int .i64],[],[],false,false,[],[]⟩
def E135:Tr Sem1:=(.nd 293 (g134.sem dg) .lf .lf)
theorem k135 x:g135.den E135 TT AN F Tryz.f230 x=c7 x:=by kernel_rfl
theorem o135:OK 230 (g135.sem c7):=ae ⟨tok,eqs,Tr.All.get (t:=E135) ⟨o134,trivial,trivial⟩,mix⟩ Tryz.func230 (by kernel_rfl) (by kernel_rfl) g135 rfl _ k135
def g136:Sig:=⟨⟨bi 0 [.int .i64,.int .i64],[],[]⟩,.one (.int .i64),[],[],false,false,[],[]⟩
def E136:Tr Sem1:=(.nd 230 (g135.sem c7) .lf .lf)
def A136:Anns:=⟨.lf,(.nd 28 ⟨[(0,(.int .i64)),(1,(.int .i64)),(5,(.int .i64))],[],[]⟩ .lf .lf),[]⟩
theorem k136 x:g136.den E136 TT A136 F Tryz.f231 x=dc x:=by kernel_rfl
theorem o136:OK 231 (g136.sem dc):=ae ⟨tok,eqs,Tr.All.get (t:=E136) ⟨o135,trivial,trivial⟩,mix⟩ Tryz.func231 (by kernel_rfl) (by kernel_rfl) g136 rfl _ k136
def g137:Sig:=⟨⟨bi 0 [.int .i64,.int .i64,.int .i64,.int .i64,.int .i64],[],[]⟩,.tup [.int .i64,.int .i64,.int .i64],[],[],false,false,[],[]⟩
def E137:Tr Sem1:=(.nd 183 (qi.sem af) (.nd 166 (AR.sem aZ) (.nd 165 (g93.sem bo) .lf .lf) .lf) (.nd 231 (g136.sem dc) (.nd 230 (g135.sem c7) .lf .lf) .lf))
def A137:Anns:=⟨.lf,(.nd 111 ⟨[(1,(.int .i64)),(4,(.int .i64)),(13,.bool),(16,(.int .i64)),(17,(.int .i64))],[],[]⟩ (.nd 85 ⟨[(1,(.int .i64)),(4,(.int .i64)),(13,.bool),(16,(.int .i64)),(17,(.int .i64))],[],[]⟩ (.nd 54 ⟨[(1,(.int .i64)),(4,(.int .i64)),(13,.bool),(14,(.int .i64)),(15,(.int .i64))],[],[]⟩ .lf .lf) .lf) (.nd 132 ⟨[(4,(.int .i64)),(16,(.int .i64)),(17,(.int .i64)),(18,.bool)],[],[]⟩ .lf .lf)),[]⟩
theorem k137 x:g137.den E137 TT A137 F Tryz.f171 x=cM x:=by kernel_rfl
theorem o137:OK 171 (g137.sem cM):=ae ⟨tok,eqs,Tr.All.get (t:=E137) ⟨sB,⟨o131,⟨o93,trivial,trivial⟩,trivial⟩,⟨o136,⟨o135,trivial,trivial⟩,trivial⟩⟩,mix⟩ Tryz.func171 (by kernel_rfl) (by kernel_rfl) g137 rfl _ k137
def g138:Sig:=⟨⟨bi 0 [.int .i64,.int .i64,.int .i64,.bool],[],[]⟩,.tup [.int .i64,.int .i64],[],[],false,false,[],[]⟩
def E138:Tr Sem1:=(.nd 183 (qi.sem af) (.nd 165 (g93.sem bo) .lf .lf) .lf)
theorem k138 x:g138.den E138 TT AN F Tryz.f232 x=fx x:=by kernel_rfl
theorem o138:OK 232 (g138.sem fx):=ae ⟨tok,eqs,Tr.All.get (t:=E138) ⟨sB,⟨o93,trivial,trivial⟩,trivial⟩,mix⟩ Tryz.func232 (by kernel_rfl) (by kernel_rfl) g138 rfl _ k138
theorem o139:OK 294 uv:=C9 Tryz.func294 (by kernel_rfl) (by kernel_rfl) (by kernel_rfl) (by kernel_rfl)
def g140:Sig:=⟨⟨bi 0 [.int .i64,.int .i64],[],[]⟩,.tup [.int .i64,.int .i64],[],[],false,false,[],[]⟩
def E140:Tr Sem1:=(.nd 294 uv .lf .lf)
theorem k140 x:g140.den E140 TT AN F Tryz.f233 x=dV x:=by kernel_rfl
theorem o140:OK 233 (g140.sem dV):=ae ⟨tok,eqs,Tr.All.get (t:=E140) ⟨o139,trivial,trivial⟩,mix⟩ Tryz.func233 (by kernel_rfl) (by kernel_rfl) g140 rfl _ k140
def g141:Sig:=⟨⟨bi 0 [.int .i64,.int .i64],[],[]⟩,.one (.bool),[],[],false,false,[],[]⟩
theorem k141 x:g141.den Tr.lf TT AN F Tryz.f235 x=cI x:=by kernel_rfl
theorem o141:OK 235 (g141.sem cI):=ae ⟨tok,eqs,Tr.All.get (t:=Tr.lf) trivial,mix⟩ Tryz.func235 (by kernel_rfl) (by kernel_rfl) g141 rfl _ k141
def g142:Sig:=⟨⟨bi 0 [.int .u64],[],[]⟩,.one (.int .i64),[],[],false,false,[],[]⟩
def A142:Anns:=⟨.lf,(.nd 16 ⟨[(0,(.int .u64)),(2,(.int .i64))],[],[]⟩ (.nd 8 ⟨[(0,(.int .u64)),(2,(.int .i64))],[],[]⟩ .lf .lf) (.nd 28 ⟨[(0,(.int .u64)),(2,(.int .i64))],[],[]⟩ .lf .lf)),[]⟩
theorem k142 x:g142.den Tr.lf TT A142 F Tryz.f312 x=bD x:=by kernel_rfl
theorem o142:OK 312 (g142.sem bD):=ae ⟨tok,eqs,Tr.All.get (t:=Tr.lf) trivial,mix⟩ Tryz.func312 (by kernel_rfl) (by kernel_rfl) g142 rfl _ k142
def g143:Sig:=⟨⟨bi 0 [.int .u64],[],[]⟩,.one (.int .i64),[],[],false,false,[],[]⟩
def E143:Tr Sem1:=(.nd 312 (g142.sem bD) .lf .lf)
theorem k143 x:g143.den E143 TT AN F Tryz.f330 x=bz x:=by kernel_rfl
theorem o143:OK 330 (g143.sem bz):=ae ⟨tok,eqs,Tr.All.get (t:=E143) ⟨o142,trivial,trivial⟩,mix⟩ Tryz.func330 (by kernel_rfl) (by kernel_rfl) g143 rfl _ k143
def g144:Sig:=⟨⟨bi 0 [.int .u64,.int .u64,.int .u64],[],[]⟩,.tup [.int .u64,.int .u64],[],[],false,false,[],[]⟩
def E144:Tr Sem1:=(.nd 330 (g143.sem bz) .lf .lf)
def A144:Anns:=⟨(.nd 2 (.loop ⟨[(2,(.int .u64)),(8,(.int .u64)),(9,(.int .u64)),(10,(.int .u64)),(14,(.int .u64)),(15,(.int .u64)),(16,(.int .u64)),(17,(.int .u64)),(18,(.int .u64))],[],[]⟩) (.nd 0 (.loop ⟨[(2,(.int .u64)),(8,(.int .u64)),(9,(.int .u64)),(10,(.int .u64)),(11,(.int .u64)),(13,(.int .u64)),(14,(.int .u64)),(15,(.int .u64)),(16,(.int .u64))],[],[]⟩) .lf .lf) .lf),(.nd 48 ⟨[(0,(.int .u64)),(1,(.int .u64)),(2,(.int .u64))],[],[]⟩ (.nd 40 ⟨[(0,(.int .u64)),(1,(.int .u64)),(2,(.int .u64))],[],[]⟩ .lf .lf) .lf),[]⟩
theorem k144 x:g144.den E144 TT A144 F Tryz.f295 x=df x:=by kernel_rfl
theorem o144:OK 295 (g144.sem df):=ae ⟨tok,eqs,Tr.All.get (t:=E144) ⟨o143,trivial,trivial⟩,mix⟩ Tryz.func295 (by kernel_rfl) (by kernel_rfl) g144 rfl _ k144
def g145:Sig:=⟨⟨bi 0 [.int .i64,.int .i64,.int .i64],[],[]⟩,.tup [.int .i64,.int .i64,.int .i64],[],[],false,false,[],[]⟩
def E145:Tr Sem1:=(.nd 295 (g144.sem df) (.nd 235 (g141.sem cI) .lf .lf) .lf)
theorem k145 x:g145.den E145 TT AN F Tryz.f234 x=da x:=by kernel_rfl
theorem o145:OK 234 (g145.sem da):=ae ⟨tok,eqs,Tr.All.get (t:=E145) ⟨o144,⟨o141,trivial,trivial⟩,trivial⟩,mix⟩ Tryz.func234 (by kernel_rfl) (by kernel_rfl) g145 rfl _ k145
def g146:Sig:=⟨⟨bi 0 [.int .i64,.int .i64,.int .i64,.int .i64,.int .i64],[],[]⟩,.tup [.int .i64,.int .i64,.bool],[],[],false,false,[],[]⟩
def E146:Tr Sem1:=(.nd 233 (g140.sem dV) (.nd 183 (qi.sem af) (.nd 165 (g93.sem bo) .lf .lf) (.nd 232 (g138.sem fx) .lf .lf)) (.nd 235 (g141.sem cI) (.nd 234 (g145.sem da) .lf .lf) .lf))
def A146:Anns:=⟨.lf,(.nd 106 ⟨[(1,(.int .i64)),(2,(.int .i64)),(3,(.int .i64)),(4,(.int .i64)),(13,.bool),(14,.bool),(15,.bool)],[],[]⟩ (.nd 84 ⟨[(1,(.int .i64)),(2,(.int .i64)),(3,(.int .i64)),(4,(.int .i64)),(13,.bool),(14,.bool),(15,.bool)],[],[]⟩ (.nd 66 ⟨[(1,(.int .i64)),(2,(.int .i64)),(3,(.int .i64)),(4,(.int .i64)),(13,.bool)],[],[]⟩ .lf .lf) .lf) (.nd 190 ⟨[(1,(.int .i64)),(16,(.int .i64)),(17,(.int .i64))],[],[]⟩ (.nd 171 ⟨[(1,(.int .i64)),(14,.bool),(16,(.int .i64)),(17,(.int .i64))],[],[]⟩ .lf .lf) .lf)),[]⟩
theorem k146 x:g146.den E146 TT A146 F Tryz.f172 x=eE x:=by kernel_rfl
theorem o146:OK 172 (g146.sem eE):=ae ⟨tok,eqs,Tr.All.get (t:=E146) ⟨o140,⟨sB,⟨o93,trivial,trivial⟩,⟨o138,trivial,trivial⟩⟩,⟨o141,⟨o145,trivial,trivial⟩,trivial⟩⟩,mix⟩ Tryz.func172 (by kernel_rfl) (by kernel_rfl) g146 rfl _ k146
def g147:Sig:=⟨⟨bi 0 [.konst (.ptr 0 0),.el .ins],[B6,.row .page,.row .acc],[]⟩,.tup [],[B7,.konst .gone,.konst .gone,.row .page,.row .acc],[(1,0,big),(2,0,big),(0,0,1),(0,2,3),(0,3,4),(0,5,7)],false,false,[(0,4,.page),(0,6,.acc)],[1,2]⟩
def E147:Tr Sem1:=(.nd 170 (g133.sem gu) (.nd 168 I127 (.nd 164 (Dt.sem au) (.nd 156 (g91.sem aB) .lf .lf) .lf) (.nd 169 I112 .lf .lf)) (.nd 172 (g146.sem eE) (.nd 171 (g137.sem cM) .lf .lf) (.nd 183 (qi.sem af) .lf .lf)))
def A147:Anns:=⟨.lf,(.nd 186 ⟨[(3,(.konst (.ptr 5 0))),(5,(.konst (.ptr 0 0))),(6,(.int .i64)),(10,(.int .i64)),(11,(.int .i64))],[(B1),(.konst .gone),(.konst .gone),(.row .page),(.row .acc),(B0)],[]⟩ .lf .lf),[(0,4,.page),(0,6,.acc)]⟩
theorem k147 x:g147.den E147 TT A147 F Tryz.f115 x=cg x:=by kernel_rfl
theorem o147:OK 115 (g147.sem cg):=ae ⟨tok,eqs,Tr.All.get (t:=E147) ⟨o133,⟨o127,⟨o122,⟨o91,trivial,trivial⟩,trivial⟩,⟨o112,trivial,trivial⟩⟩,⟨o146,⟨o137,trivial,trivial⟩,⟨sB,trivial,trivial⟩⟩⟩,mix⟩ Tryz.func115 (by kernel_rfl) (by kernel_rfl) g147 rfl _ k147
def g148:Sig:=⟨⟨bi 0 [.konst (.ptr 0 0),.int .i64],[B6,.row .page,.row .acc],[]⟩,.tup [],[B7,.konst .gone,.konst .gone,.row .page,.row .acc],[(1,0,big),(2,0,big),(0,0,1),(0,3,4),(0,5,7)],false,false,[(0,4,.page),(0,6,.acc)],[1,2]⟩
def E148:Tr Sem1:=(.nd 176 (g126.sem aE) .lf .lf)
def A148:Anns:=⟨.lf,.lf,[(0,4,.page),(0,6,.acc)]⟩
theorem k148 x:g148.den E148 TT A148 F Tryz.f173 x=bQ x:=by kernel_rfl
theorem o148:OK 173 (g148.sem bQ):=ae ⟨tok,eqs,Tr.All.get (t:=E148) ⟨o126,trivial,trivial⟩,mix⟩ Tryz.func173 (by kernel_rfl) (by kernel_rfl) g148 rfl _ k148
def g149:Sig:=⟨⟨bi 0 [.konst (.ptr 0 0)],[B6,.row .page,.row .acc],[]⟩,.one (.int .i64),[B7,.konst .gone,.konst .gone,.row .page,.row .acc],[(1,0,big),(2,0,big),(0,0,1),(0,3,4),(0,5,7)],false,false,[(0,4,.page),(0,6,.acc)],[1,2]⟩
def E149:Tr Sem1:=(.nd 177 (g121.sem aL) .lf .lf)
def A149:Anns:=⟨.lf,.lf,[(0,4,.page),(0,6,.acc)]⟩
theorem k149 x:g149.den E149 TT A149 F Tryz.f174 x=bY x:=by kernel_rfl
theorem o149:OK 174 (g149.sem bY):=ae ⟨tok,eqs,Tr.All.get (t:=E149) ⟨o121,trivial,trivial⟩,mix⟩ Tryz.func174 (by kernel_rfl) (by kernel_rfl) g149 rfl _ k149
def g150:Sig:=⟨⟨bi 0 [.konst (.ptr 0 0),.el .ins],[B6,.row .page,.row .acc],[]⟩,.one (.int .i64),[B7,.konst .gone,.konst .gone,.row .page,.row .acc],[(1,0,big),(2,0,big),(0,3,4),(0,5,7)],false,false,[(0,4,.page),(0,6,.acc)],[1,2]⟩
def E150:Tr Sem1:=(.nd 164 (Dt.sem au) .lf .lf)
def A150:Anns:=⟨.lf,.lf,[(0,4,.page),(0,6,.acc)]⟩
theorem k150 x:g150.den E150 TT A150 F Tryz.f175 x=bg x:=by kernel_rfl
theorem o150:OK 175 (g150.sem bg):=ae ⟨tok,eqs,Tr.All.get (t:=E150) ⟨o122,trivial,trivial⟩,mix⟩ Tryz.func175 (by kernel_rfl) (by kernel_rfl) g150 rfl _ k150
def g151:Sig:=⟨⟨bi 0 [.konst (.ptr 0 0),.el .ins],[B6,.row .page,.row .acc],[]⟩,.tup [],[B7,.konst .gone,.konst .gone,.row .page,.row .acc],[(1,0,big),(2,0,big),(0,0,2),(0,3,4),(0,5,7)],false,false,[(0,4,.page),(0,6,.acc)],[1,2]⟩
def E151:Tr Sem1:=(.nd 174 (g149.sem bY) (.nd 167 (g130.sem S_impl_holds) (.nd 164 (Dt.sem au) (.nd 163 (g128.sem an) .lf .lf) .lf) (.nd 173 (g148.sem bQ) .lf .lf)) (.nd 176 (g126.sem aE) (.nd 175 (g150.sem bg) .lf .lf) (.nd 177 (g121.sem aL) .lf .lf)))
def A151:Anns:=⟨.lf,(.nd 276 ⟨[(0,(.konst (.ptr 0 0))),(138,.bool)],[(B1),(.konst .gone),(.konst .gone),(.row .page),(.row .acc)],[]⟩ .lf .lf),[(0,4,.page),(0,6,.acc)]⟩
theorem k151 x:g151.den E151 TT A151 F Tryz.f116 x=am x:=by kernel_rfl
theorem o151:OK 116 (g151.sem am):=ae ⟨tok,eqs,Tr.All.get (t:=E151) ⟨o149,⟨o130,⟨o122,⟨o128,trivial,trivial⟩,trivial⟩,⟨o148,trivial,trivial⟩⟩,⟨o126,⟨o150,trivial,trivial⟩,⟨o121,trivial,trivial⟩⟩⟩,mix⟩ Tryz.func116 (by kernel_rfl) (by kernel_rfl) g151 rfl _ k151
def g152:Sig:=⟨⟨bi 0 [.int .i64],[],[]⟩,.one (.bool),[],[],false,false,[],[]⟩
def E152:Tr Sem1:=(.nd 58 (g78.sem aF) .lf .lf)
theorem k152 x:g152.den E152 TT AN F Tryz.f178 x=gl x:=by kernel_rfl
theorem o152:OK 178 (g152.sem gl):=ae ⟨tok,eqs,Tr.All.get (t:=E152) ⟨o78,trivial,trivial⟩,mix⟩ Tryz.func178 (by kernel_rfl) (by kernel_rfl) g152 rfl _ k152
theorem o153:OK 299 vY:=A9 Tryz.func299 (by kernel_rfl) (by kernel_rfl) (by kernel_rfl) (by kernel_rfl)
def g154:Sig:=⟨⟨bi 0 [.int .i64,.int .i64],[],[]⟩,.one (.bool),[],[],false,false,[],[]⟩
theorem k154 x:g154.den Tr.lf TT AN F Tryz.f300 x=cP x:=by kernel_rfl
theorem o154:OK 300 (g154.sem cP):=ae ⟨tok,eqs,Tr.All.get (t:=Tr.lf) trivial,mix⟩ Tryz.func300 (by kernel_rfl) (by kernel_rfl) g154 rfl _ k154
def g155:Sig:=⟨⟨bi 0 [.int .u8],[],[]⟩,.one (.int .i64),[],[],false,false,[],[]⟩
theorem k155 x:g155.den Tr.lf TT AN F Tryz.f301 x=b9 x:=by kernel_rfl
theorem o155:OK 301 (g155.sem b9):=ae ⟨tok,eqs,Tr.All.get (t:=Tr.lf) trivial,mix⟩ Tryz.func301 (by kernel_rfl) (by kernel_rfl) g155 rfl _ k155
def g156:Sig:=⟨⟨bi 0 [.int .i64,.int .i64],[],[]⟩,.one (.int .i64),[],[],false,false,[],[]⟩
def E156:Tr Sem1:=(.nd 300 (g154.sem cP) (.nd 183 (qi.sem af) (.nd 166 (AR.sem aZ) .lf .lf) .lf) (.nd 301 (g155.sem b9) .lf .lf))
theorem k156 x:g156.den E156 TT AN F Tryz.f240 x=bC x:=by kernel_rfl
theorem o156:OK 240 (g156.sem bC):=ae ⟨tok,eqs,Tr.All.get (t:=E156) ⟨o154,⟨sB,⟨o131,trivial,trivial⟩,trivial⟩,⟨o155,trivial,trivial⟩⟩,mix⟩ Tryz.func240 (by kernel_rfl) (by kernel_rfl) g156 rfl _ k156
def g157:Sig:=⟨⟨bi 0 [.int .i64,.int .i64,.int .i64,.int .i64],[],[]⟩,.tup [.int .i64,.int .i64],[],[],false,false,[],[]⟩
def E157:Tr Sem1:=(.nd 240 (g156.sem bC) (.nd 183 (qi.sem af) (.nd 166 (AR.sem aZ) .lf .lf) .lf) (.nd 300 (g154.sem cP) (.nd 299 vY .lf .lf) .lf))
def A157:Anns:=⟨.lf,(.nd 54 ⟨[(0,(.int .i64)),(1,(.int .i64)),(2,(.int .i64)),(10,(.int .u64)),(12,.bool)],[],[]⟩ .lf .lf),[]⟩
theorem k157 x:g157.den E157 TT A157 F Tryz.f238 x=fC x:=by kernel_rfl
theorem o157:OK 238 (g157.sem fC):=ae ⟨tok,eqs,Tr.All.get (t:=E157) ⟨o156,⟨sB,⟨o131,trivial,trivial⟩,trivial⟩,⟨o154,⟨o153,trivial,trivial⟩,trivial⟩⟩,mix⟩ Tryz.func238 (by kernel_rfl) (by kernel_rfl) g157 rfl _ k157
def g158:Sig:=⟨⟨bi 0 [.int .i64,.int .i64,.int .i64,.int .i64],[],[]⟩,.tup [.int .i64,.int .i64],[],[],false,false,[],[]⟩
def E158:Tr Sem1:=(.nd 240 (g156.sem bC) (.nd 183 (qi.sem af) (.nd 166 (AR.sem aZ) .lf .lf) .lf) (.nd 300 (g154.sem cP) (.nd 294 uv .lf .lf) .lf))
theorem k158 x:g158.den E158 TT AN F Tryz.f239 x=bq x:=by kernel_rfl
theorem o158:OK 239 (g158.sem bq):=ae ⟨tok,eqs,Tr.All.get (t:=E158) ⟨o156,⟨sB,⟨o131,trivial,trivial⟩,trivial⟩,⟨o154,⟨o139,trivial,trivial⟩,trivial⟩⟩,mix⟩ Tryz.func239 (by kernel_rfl) (by kernel_rfl) g158 rfl _ k158
def g159:Sig:=⟨⟨bi 0 [.int .i64,.int .i64,.int .i64,.int .i64,.int .i64],[],[]⟩,.tup [.int .i64,.int .i64],[],[],false,false,[],[]⟩
def E159:Tr Sem1:=(.nd 239 (g158.sem bq) (.nd 238 (g157.sem fC) (.nd 183 (qi.sem af) .lf .lf) .lf) (.nd 240 (g156.sem bC) .lf .lf))
def A159:Anns:=⟨.lf,(.nd 157 ⟨[(1,(.int .i64)),(13,(.int .i64))],[],[]⟩ (.nd 147 ⟨[(1,(.int .i64)),(13,(.int .i64))],[],[]⟩ .lf .lf) .lf),[]⟩
theorem k159 x:g159.den E159 TT A159 F Tryz.f179 x=iI x:=by kernel_rfl
theorem o159:OK 179 (g159.sem iI):=ae ⟨tok,eqs,Tr.All.get (t:=E159) ⟨o158,⟨o157,⟨sB,trivial,trivial⟩,trivial⟩,⟨o156,trivial,trivial⟩⟩,mix⟩ Tryz.func179 (by kernel_rfl) (by kernel_rfl) g159 rfl _ k159
def g160:Sig:=⟨⟨bi 0 [.int .i64],[],[]⟩,.one (.bool),[],[],false,false,[],[]⟩
theorem k160 x:g160.den Tr.lf TT AN F Tryz.f180 x=gn x:=by kernel_rfl
theorem o160:OK 180 (g160.sem gn):=ae ⟨tok,eqs,Tr.All.get (t:=Tr.lf) trivial,mix⟩ Tryz.func180 (by kernel_rfl) (by kernel_rfl) g160 rfl _ k160
def g161:Sig:=⟨⟨bi 0 [.int .i64,.int .i64,.int .i64,.int .i64],[],[]⟩,.tup [.int .i64,.int .i64],[],[],false,false,[],[]⟩
def E161:Tr Sem1:=(.nd 238 (g157.sem fC) (.nd 183 (qi.sem af) .lf .lf) (.nd 239 (g158.sem bq) .lf .lf))
def A161:Anns:=⟨.lf,(.nd 74 ⟨[(3,(.int .i64)),(10,(.int .i64)),(11,(.int .i64))],[],[]⟩ .lf .lf),[]⟩
theorem k161 x:g161.den E161 TT A161 F Tryz.f181 x=iJ x:=by kernel_rfl
theorem o161:OK 181 (g161.sem iJ):=ae ⟨tok,eqs,Tr.All.get (t:=E161) ⟨o157,⟨sB,trivial,trivial⟩,⟨o158,trivial,trivial⟩⟩,mix⟩ Tryz.func181 (by kernel_rfl) (by kernel_rfl) g161 rfl _ k161
def g162:Sig:=⟨⟨bi 0 [.int .i64,.int .i64,.int .i64,.int .i64],[],[]⟩,.tup [.int .i64,.int .i64],[],[],false,false,[],[]⟩
def E162:Tr Sem1:=(.nd 240 (g156.sem bC) (.nd 183 (qi.sem af) (.nd 166 (AR.sem aZ) .lf .lf) .lf) (.nd 300 (g154.sem cP) .lf .lf))
def A162:Anns:=⟨.lf,(.nd 135 ⟨[(0,(.int .i64)),(1,(.int .i64)),(3,(.int .i64)),(13,(.int .i64)),(14,.bool),(15,.bool)],[],[]⟩ (.nd 97 ⟨[(0,(.int .i64)),(1,(.int .i64)),(3,(.int .i64)),(13,(.int .i64)),(14,.bool),(15,.bool)],[],[]⟩ (.nd 96 ⟨[(0,(.int .i64)),(1,(.int .i64)),(2,(.int .i64)),(3,(.int .i64)),(10,.bool),(11,.bool),(12,(.int .i64)),(14,.bool),(15,.bool),(28,(.int .i64)),(48,.bool)],[],[]⟩ .lf .lf) (.nd 112 ⟨[(0,(.int .i64)),(1,(.int .i64)),(3,(.int .i64)),(10,.bool),(13,(.int .i64))],[],[]⟩ .lf .lf)) (.nd 188 ⟨[(13,(.int .i64)),(14,.bool),(15,.bool),(16,(.int .i64))],[],[]⟩ (.nd 149 ⟨[(0,(.int .i64)),(1,(.int .i64)),(3,(.int .i64)),(13,(.int .i64)),(14,.bool),(15,.bool)],[],[]⟩ .lf .lf) .lf)),[]⟩
theorem k162 x:g162.den E162 TT A162 F Tryz.f241 x=dr x:=by kernel_rfl
theorem o162:OK 241 (g162.sem dr):=ae ⟨tok,eqs,Tr.All.get (t:=E162) ⟨o156,⟨sB,⟨o131,trivial,trivial⟩,trivial⟩,⟨o154,trivial,trivial⟩⟩,mix⟩ Tryz.func241 (by kernel_rfl) (by kernel_rfl) g162 rfl _ k162
def g163:Sig:=⟨⟨bi 0 [.int .i64,.int .i64,.int .i64,.int .i64,.int .i64],[],[]⟩,.tup [.int .i64,.int .i64],[],[],false,false,[],[]⟩
def E163:Tr Sem1:=(.nd 183 (qi.sem af) (.nd 166 (AR.sem aZ) .lf .lf) (.nd 241 (g162.sem dr) .lf .lf))
def A163:Anns:=⟨(.nd 0 (.loop ⟨[(0,(.int .i64)),(1,(.int .i64)),(2,(.int .i64)),(4,(.int .i64)),(21,(.int .i64)),(22,(.int .i64))],[],[]⟩) .lf .lf),.lf,[]⟩
theorem k163 x:g163.den E163 TT A163 F Tryz.f182 x=gt x:=by kernel_rfl
theorem o163:OK 182 (g163.sem gt):=ae ⟨tok,eqs,Tr.All.get (t:=E163) ⟨sB,⟨o131,trivial,trivial⟩,⟨o162,trivial,trivial⟩⟩,mix⟩ Tryz.func182 (by kernel_rfl) (by kernel_rfl) g163 rfl _ k163
def g164:Sig:=⟨⟨bi 0 [.konst (.ptr 0 0),.el .ins],[B6,.row .page,.row .acc],[]⟩,.tup [],[B7,.konst .gone,.konst .gone,.row .page,.row .acc],[(1,0,big),(2,0,big),(0,0,1),(0,2,4),(0,5,7)],false,false,[(0,4,.page),(0,6,.acc)],[1,2]⟩
def E164:Tr Sem1:=(.nd 178 (g152.sem gl) (.nd 163 (g128.sem an) (.nd 102 (g84.sem be) (.nd 100 (g98.sem bU) .lf .lf) .lf) (.nd 171 (g137.sem cM) (.nd 164 (Dt.sem au) .lf .lf) .lf)) (.nd 181 (g161.sem iJ) (.nd 180 (g160.sem gn) (.nd 179 (g159.sem iI) .lf .lf) .lf) (.nd 183 (qi.sem af) (.nd 182 (g163.sem gt) .lf .lf) .lf)))
def A164:Anns:=⟨.lf,(.nd 127 ⟨[(0,(.konst (.ptr 0 0))),(3,(.konst (.ptr 5 0))),(7,(.int .i64))],[(B1),(.konst .gone),(.konst .gone),(.row .page),(.row .acc),(B0)],[]⟩ (.nd 89 ⟨[(0,(.konst (.ptr 0 0))),(3,(.konst (.ptr 5 0))),(7,(.int .i64))],[(B1),(.konst .gone),(.konst .gone),(.row .page),(.row .acc),(B0)],[]⟩ (.nd 42 ⟨[(0,(.konst (.ptr 0 0))),(3,(.konst (.ptr 5 0))),(4,(.konst (.ptr 0 17))),(5,(.int .i64)),(6,(.int .i64))],[(B1),(.konst .gone),(.konst .gone),(.row .page),(.row .acc),(B0)],[]⟩ .lf .lf) .lf) (.nd 163 ⟨[(0,(.konst (.ptr 0 0))),(3,(.konst (.ptr 5 0))),(7,(.int .i64))],[(B1),(.konst .gone),(.konst .gone),(.row .page),(.row .acc),(B0)],[]⟩ .lf .lf)),[(0,4,.page),(0,6,.acc)]⟩
theorem k164 x:g164.den E164 TT A164 F Tryz.f117 x=bR x:=by kernel_rfl
theorem o164:OK 117 (g164.sem bR):=ae ⟨tok,eqs,Tr.All.get (t:=E164) ⟨o152,⟨o128,⟨o84,⟨o98,trivial,trivial⟩,trivial⟩,⟨o137,⟨o122,trivial,trivial⟩,trivial⟩⟩,⟨o161,⟨o160,⟨o159,trivial,trivial⟩,trivial⟩,⟨sB,⟨o163,trivial,trivial⟩,trivial⟩⟩⟩,mix⟩ Tryz.func117 (by kernel_rfl) (by kernel_rfl) g164 rfl _ k164
def g165:Sig:=⟨⟨bi 0 [.agg [.arr .i 16,.int .i64,.int .i64],.agg [.list .page],.el .ins],[],[]⟩,.tup [.agg [.arr .i 16,.int .i64,.int .i64],.agg [.konst (.vec 0)],.konst (.vec 1),.int .i64],[.row .page,.row .acc],[],false,true,[(7,1,.page),(8,0,.acc)],[]⟩
def E165:Tr Sem1:=(.nd 115 (g147.sem cg) (.nd 114 (g132.sem aC) (.nd 82 (g110.sem bp) .lf .lf) .lf) (.nd 117 (g164.sem bR) (.nd 116 (g151.sem am) .lf .lf) .lf))
def A165:Anns:=⟨.lf,(.nd 95 ⟨[(3,(.konst (.ptr 0 0))),(4,(.konst (.ptr 1 0))),(6,(.konst (.ptr 2 0))),(7,(.konst (.ptr 3 0))),(10,(.konst (.ptr 4 0)))],[(B11),(.var [(.list .page)]),(B11),(.var [(.konst .nils)]),(B2),(.row .page),(.row .acc)],[]⟩ (.nd 69 ⟨[(3,(.konst (.ptr 0 0))),(4,(.konst (.ptr 1 0))),(6,(.konst (.ptr 2 0))),(7,(.konst (.ptr 3 0))),(10,(.konst (.ptr 4 0)))],[(B11),(.var [(.list .page)]),(B11),(.var [(.konst .nils)]),(B2),(.row .page),(.row .acc)],[]⟩ (.nd 68 ⟨[(3,(.konst (.ptr 0 0))),(4,(.konst (.ptr 1 0))),(5,(.konst (.ptr 2 0))),(6,(.konst (.ptr 3 0))),(7,(.konst (.ptr 4 0))),(10,(.konst (.ptr 5 0))),(30,(.int .i64)),(34,.bool)],[(B11),(.var [(.list .page)]),(B0),(B11),(.var [(.konst .nils)]),(B3),(.row .page),(.row .acc)],[]⟩ .lf .lf) (.nd 94 ⟨[(3,(.konst (.ptr 0 0))),(4,(.konst (.ptr 1 0))),(5,(.konst (.ptr 2 0))),(6,(.konst (.ptr 3 0))),(7,(.konst (.ptr 4 0))),(10,(.konst (.ptr 5 0))),(30,(.int .i64)),(47,.bool)],[(B11),(.var [(.list .page)]),(B0),(B11),(.var [(.konst .nils)]),(B3),(.row .page),(.row .acc)],[]⟩ .lf .lf)) (.nd 111 ⟨[(3,(.konst (.ptr 0 0))),(4,(.konst (.ptr 1 0))),(6,(.konst (.ptr 2 0))),(7,(.konst (.ptr 3 0))),(10,(.konst (.ptr 4 0)))],[(B11),(.var [(.list .page)]),(B11),(.var [(.konst .nils)]),(B2),(.row .page),(.row .acc)],[]⟩ (.nd 110 ⟨[(3,(.konst (.ptr 0 0))),(4,(.konst (.ptr 1 0))),(5,(.konst (.ptr 2 0))),(6,(.konst (.ptr 3 0))),(7,(.konst (.ptr 4 0))),(10,(.konst (.ptr 5 0))),(55,.bool)],[(B11),(.var [(.list .page)]),(B0),(B11),(.var [(.konst .nils)]),(B3),(.row .page),(.row .acc)],[]⟩ .lf .lf) .lf)),[(20,4,.page),(20,6,.acc)]⟩
theorem k165 x:g165.den E165 TT A165 F Tryz.f55 x=gS x:=by kernel_rfl
theorem o165:OK 55 (g165.sem gS):=ae ⟨tok,eqs,Tr.All.get (t:=E165) ⟨o147,⟨o132,⟨o110,trivial,trivial⟩,trivial⟩,⟨o164,⟨o151,trivial,trivial⟩,trivial⟩⟩,mix⟩ Tryz.func55 (by kernel_rfl) (by kernel_rfl) g165 rfl _ k165
def g166:Sig:=⟨⟨bi 0 [.agg [.arr .i 16,.int .i64,.int .i64],.agg [.list .page],.el .ins],[],[]⟩,.tup [.agg [.arr .i 16,.int .i64,.int .i64],.agg [.konst (.vec 0)],.konst (.vec 1),.int .i64],[.row .page,.row .acc],[],false,true,[(7,1,.page),(8,0,.acc)],[]⟩
def E166:Tr Sem1:=(.nd 54 (g81.sem dS) (.nd 53 (g77.sem gk) (.nd 49 (g108.sem cJ) .lf .lf) .lf) (.nd 55 (g165.sem gS) .lf .lf))
theorem k166 x:g166.den E166 TT AN F Tryz.f15 x=cS x:=by kernel_rfl
theorem o166:OK 15 (g166.sem cS):=ae ⟨tok,eqs,Tr.All.get (t:=E166) ⟨o81,⟨o77,⟨o108,trivial,trivial⟩,trivial⟩,⟨o165,trivial,trivial⟩⟩,mix⟩ Tryz.func15 (by kernel_rfl) (by kernel_rfl) g166 rfl _ k166
def g167:Sig:=⟨⟨bi 0 [.agg [.arr .i 16],.agg [.arr .i 16]],[],[]⟩,.one (.bool),[],[],false,false,[],[]⟩
def A167:Anns:=⟨(.nd 0 (.loop ⟨[(2,(.konst (.ptr 0 0))),(3,(.konst (.ptr 1 0))),(5,(.int .i64))],[(.var [(.arr .i 16)]),(.var [(.arr .i 16)])],[]⟩) .lf .lf),.lf,[]⟩
theorem k167 x:g167.den Tr.lf TT A167 F Tryz.f76 x=dX x:=by kernel_rfl
theorem o167:OK 76 (g167.sem dX):=ae ⟨tok,eqs,Tr.All.get (t:=Tr.lf) trivial,mix⟩ Tryz.func76 (by kernel_rfl) (by kernel_rfl) g167 rfl _ k167
def g168:Sig:=⟨⟨bi 0 [.agg [.arr .i 16,.int .i64,.int .i64],.agg [.arr .i 16,.int .i64,.int .i64]],[],[]⟩,.one (.bool),[],[],false,false,[],[]⟩
def E168:Tr Sem1:=(.nd 76 (g167.sem dX) .lf .lf)
theorem k168 x:g168.den E168 TT AN F Tryz.f33 x=eA x:=by kernel_rfl
theorem o168:OK 33 (g168.sem eA):=ae ⟨tok,eqs,Tr.All.get (t:=E168) ⟨o167,trivial,trivial⟩,mix⟩ Tryz.func33 (by kernel_rfl) (by kernel_rfl) g168 rfl _ k168
def g169:Sig:=⟨⟨bi 0 [.el .page,.el .page],[],[]⟩,.one (.bool),[],[],false,false,[],[]⟩
theorem k169 x:g169.den Tr.lf TT AN F Tryz.f132 x=fD x:=by kernel_rfl
theorem o169:OK 132 (g169.sem fD):=ae ⟨tok,eqs,Tr.All.get (t:=Tr.lf) trivial,mix⟩ Tryz.func132 (by kernel_rfl) (by kernel_rfl) g169 rfl _ k169
def g170:Sig:=⟨⟨bi 0 [.list .page,.list .page],[],[]⟩,.one (.bool),[],[],false,false,[],[]⟩
def E170:Tr Sem1:=(.nd 132 (g169.sem fD) .lf .lf)
def A170:Anns:=⟨(.nd 0 (.loop ⟨[(0,(.list .page)),(1,(.list .page)),(5,(.int .i64))],[],[]⟩) .lf .lf),.lf,[]⟩
theorem k170 x:g170.den E170 TT A170 F Tryz.f77 x=eR x:=by kernel_rfl
theorem o170:OK 77 (g170.sem eR):=ae ⟨tok,eqs,Tr.All.get (t:=E170) ⟨o169,trivial,trivial⟩,mix⟩ Tryz.func77 (by kernel_rfl) (by kernel_rfl) g170 rfl _ k170
def g171:Sig:=⟨⟨bi 0 [.agg [.list .page],.agg [.list .page]],[],[]⟩,.one (.bool),[],[],false,false,[],[]⟩
def E171:Tr Sem1:=(.nd 77 (g170.sem eR) .lf .lf)
theorem k171 x:g171.den E171 TT AN F Tryz.f34 x=ck x:=by kernel_rfl
theorem o171:OK 34 (g171.sem ck):=ae ⟨tok,eqs,Tr.All.get (t:=E171) ⟨o170,trivial,trivial⟩,mix⟩ Tryz.func34 (by kernel_rfl) (by kernel_rfl) g171 rfl _ k171
def g172:Sig:=⟨⟨bi 0 [.el .acc,.el .acc],[],[]⟩,.one (.bool),[],[],false,false,[],[]⟩
theorem k172 x:g172.den Tr.lf TT AN F Tryz.f78 x=dW x:=by kernel_rfl
theorem o172:OK 78 (g172.sem dW):=ae ⟨tok,eqs,Tr.All.get (t:=Tr.lf) trivial,mix⟩ Tryz.func78 (by kernel_rfl) (by kernel_rfl) g172 rfl _ k172
def g173:Sig:=⟨⟨bi 0 [.list .acc,.list .acc],[],[]⟩,.one (.bool),[],[],false,false,[],[]⟩
def E173:Tr Sem1:=(.nd 78 (g172.sem dW) .lf .lf)
def A173:Anns:=⟨(.nd 0 (.loop ⟨[(0,(.list .acc)),(1,(.list .acc)),(5,(.int .i64))],[],[]⟩) .lf .lf),.lf,[]⟩
theorem k173 x:g173.den E173 TT A173 F Tryz.f35 x=cy x:=by kernel_rfl
theorem o173:OK 35 (g173.sem cy):=ae ⟨tok,eqs,Tr.All.get (t:=E173) ⟨o172,trivial,trivial⟩,mix⟩ Tryz.func35 (by kernel_rfl) (by kernel_rfl) g173 rfl _ k173
def g174:Sig:=⟨⟨bi 0 [.int .i64],[],[]⟩,.one (.str),[],[],true,false,[],[]⟩
def A174:Anns:=⟨(.nd 0 (.loop ⟨[(0,(.int .i64)),(3,.str)],[],[]⟩) .lf .lf),.lf,[]⟩
theorem k174 x:g174.den Tr.lf TT A174 F Tryz.f133 x=cb x:=by kernel_rfl
theorem o174:OK 133 (g174.sem cb):=ae ⟨tok,eqs,Tr.All.get (t:=Tr.lf) trivial,mix⟩ Tryz.func133 (by kernel_rfl) (by kernel_rfl) g174 rfl _ k174
def g175:Sig:=⟨⟨bi 0 [.konst (.vec 0),.int .i64],[.row .page],[]⟩,.one (.int .i64),[.row .page],[(0,0,big)],true,false,[],[]⟩
def E175:Tr Sem1:=(.nd 133 (g174.sem cb) .lf .lf)
def A175:Anns:=⟨(.nd 0 (.loop ⟨[(0,(.konst (.vec 0))),(1,(.int .i64)),(5,(.int .i64))],[(.row .page)],[]⟩) .lf .lf),.lf,[]⟩
theorem k175 x:g175.den E175 TT A175 F Tryz.f79 x=dw x:=by kernel_rfl
theorem o175:OK 79 (g175.sem dw):=ae ⟨tok,eqs,Tr.All.get (t:=E175) ⟨o174,trivial,trivial⟩,mix⟩ Tryz.func79 (by kernel_rfl) (by kernel_rfl) g175 rfl _ k175
def g176:Sig:=⟨⟨bi 0 [.agg [.konst (.vec 0)],.int .i64],[.row .page],[]⟩,.one (.int .i64),[.row .page],[(0,0,big)],true,false,[],[]⟩
def E176:Tr Sem1:=(.nd 79 (g175.sem dw) .lf .lf)
theorem k176 x:g176.den E176 TT AN F Tryz.f36 x=cE x:=by kernel_rfl
theorem o176:OK 36 (g176.sem cE):=ae ⟨tok,eqs,Tr.All.get (t:=E176) ⟨o175,trivial,trivial⟩,mix⟩ Tryz.func36 (by kernel_rfl) (by kernel_rfl) g176 rfl _ k176
def g177:Sig:=⟨⟨bi 0 [.konst (.vec 0),.int .i64],[.row .acc],[]⟩,.one (.int .i64),[.row .acc],[(0,0,big)],true,false,[],[]⟩
def A177:Anns:=⟨(.nd 0 (.loop ⟨[(0,(.konst (.vec 0))),(1,(.int .i64)),(5,(.int .i64))],[(.row .acc)],[]⟩) .lf .lf),.lf,[]⟩
theorem k177 x:g177.den Tr.lf TT A177 F Tryz.f37 x=cQ x:=by kernel_rfl
theorem o177:OK 37 (g177.sem cQ):=ae ⟨tok,eqs,Tr.All.get (t:=Tr.lf) trivial,mix⟩ Tryz.func37 (by kernel_rfl) (by kernel_rfl) g177 rfl _ k177
def g178:Sig:=⟨⟨bi 0 [.list .page,.int .i64],[],[]⟩,.one (.int .i64),[],[],false,false,[],[]⟩
def E178:Tr Sem1:=(.nd 133 (g174.sem cb) .lf .lf)
def A178:Anns:=⟨(.nd 0 (.loop ⟨[(0,(.list .page)),(1,(.int .i64)),(5,(.int .i64))],[],[]⟩) .lf .lf),.lf,[]⟩
theorem k178 x:g178.den E178 TT A178 F Tryz.f80 x=du x:=by kernel_rfl
theorem o178:OK 80 (g178.sem du):=ae ⟨tok,eqs,Tr.All.get (t:=E178) ⟨o174,trivial,trivial⟩,mix⟩ Tryz.func80 (by kernel_rfl) (by kernel_rfl) g178 rfl _ k178
def g179:Sig:=⟨⟨bi 0 [.agg [.list .page],.int .i64],[],[]⟩,.one (.int .i64),[],[],false,false,[],[]⟩
def E179:Tr Sem1:=(.nd 80 (g178.sem du) .lf .lf)
theorem k179 x:g179.den E179 TT AN F Tryz.f38 x=cD x:=by kernel_rfl
theorem o179:OK 38 (g179.sem cD):=ae ⟨tok,eqs,Tr.All.get (t:=E179) ⟨o178,trivial,trivial⟩,mix⟩ Tryz.func38 (by kernel_rfl) (by kernel_rfl) g179 rfl _ k179
def g180:Sig:=⟨⟨bi 0 [.list .acc,.int .i64],[],[]⟩,.one (.int .i64),[],[],false,false,[],[]⟩
def A180:Anns:=⟨(.nd 0 (.loop ⟨[(0,(.list .acc)),(1,(.int .i64)),(5,(.int .i64))],[],[]⟩) .lf .lf),.lf,[]⟩
theorem k180 x:g180.den Tr.lf TT A180 F Tryz.f39 x=cl x:=by kernel_rfl
theorem o180:OK 39 (g180.sem cl):=ae ⟨tok,eqs,Tr.All.get (t:=Tr.lf) trivial,mix⟩ Tryz.func39 (by kernel_rfl) (by kernel_rfl) g180 rfl _ k180
def g181:Sig:=⟨⟨bi 0 [.agg [.arr .i 16,.int .i64,.int .i64],.agg [.list .page],.el .ins],[],[]⟩,.one (.bool),[],[],false,false,[],[]⟩
def E181:Tr Sem1:=(.nd 33 (g168.sem eA) (.nd 30 (g4.sem eB) (.nd 28 (g2.sem dY) (.nd 15 (g166.sem cS) .lf .lf) (.nd 29 (g75.sem dx) .lf .lf)) (.nd 32 (g9.sem dH) (.nd 31 (g7.sem cm) .lf .lf) .lf)) (.nd 37 (g177.sem cQ) (.nd 35 (g173.sem cy) (.nd 34 (g171.sem ck) .lf .lf) (.nd 36 (g176.sem cE) .lf .lf)) (.nd 39 (g180.sem cl) (.nd 38 (g179.sem cD) .lf .lf) .lf)))
theorem k181 x:g181.den E181 TT AN F Tryz.f5 x=bA x:=by kernel_rfl
theorem o181:OK 5 (g181.sem bA):=ae ⟨tok,eqs,Tr.All.get (t:=E181) ⟨o168,⟨o4,⟨o2,⟨o166,trivial,trivial⟩,⟨o75,trivial,trivial⟩⟩,⟨o9,⟨o7,trivial,trivial⟩,trivial⟩⟩,⟨o177,⟨o173,⟨o171,trivial,trivial⟩,⟨o176,trivial,trivial⟩⟩,⟨o180,⟨o179,trivial,trivial⟩,trivial⟩⟩⟩,mix⟩ Tryz.func5 (by kernel_rfl) (by kernel_rfl) g181 rfl _ k181
end Go.Proofs.YtmpliclmlpjopaaGreat.ExecInstr
