/- Theory for the proofs of this claim: see its last text. -/
import Derived.Test.YtmpliclmlpjopaaGreatFnOperands
import Derived.Test.YtmpliclmlpjopaaGreatDenF
import Derived.Test.YtmpliclmlpjopaaGreatShl
import Derived.Test.YtmpliclmlpjopaaGreatProg
import Derived.KernelRfl
set_option maxRecDepth 100000
set_option maxHeartbeats 4000000
set_option linter.unusedVariables false
noncomputable section
namespace Go.Proofs.YtmpliclmlpjopaaGreat.Operands
open Go Go.Den Go.Den.G Go.Proofs Go.Proofs.YtmpliclmlpjopaaGreat
abbrev B9:BT:= .var [(.list .u),(.int .i64),(.int .i64)]
abbrev B8:BT:= .var [(.arr .i 16),(.int .i64),(.int .i64)]
abbrev V7:VT:= .agg [.int .i64,.int .i64,.int .i64,.int .i64,.int .i64,.int .i64,.int .i64]
abbrev B6:BT:= .var [.arr .i 16,.int .i64,.int .i64,.konst (.vec 3),.int .i64,.konst (.vec 4),.int .i64]
abbrev B5:BT:= .var [.arr .i 16,.int .i64,.int .i64,.konst (.vec 1),.int .i64,.konst (.vec 2),.int .i64]
abbrev B4:BT:= .var [(.int .i64),(.int .i64),(.int .i64),(.int .i64),(.int .i64),(.int .i64),(.int .i64)]
abbrev B3:BT:= .var [(.arr .i 16),(.int .i64),(.int .i64),(.konst (.vec 6)),(.int .i64),(.konst (.vec 7)),(.int .i64)]
abbrev B2:BT:= .var [(.arr .i 16),(.int .i64),(.int .i64),(.konst (.vec 5)),(.int .i64),(.konst (.vec 6)),(.int .i64)]
abbrev B1:BT:= .var [(.arr .i 16),(.int .i64),(.int .i64),(.konst (.vec 3)),(.int .i64),(.konst (.vec 4)),(.int .i64)]
abbrev B0:BT:= .var [(.int .i64),(.int .i64),(.int .i64),(.int .i64),(.int .i64),(.int .i64),(.int .i64),(.int .i64),(.int .i64),(.int .i64),(.int .i64),(.int .i64),(.int .i64),(.int .i64),(.int .i64),(.int .i64),(.int .i64),(.int .i64),(.int .i64)]
def Ly:Lay:=[(0,fun cs=>∃m,cs= #[.int .i64 m])]
def TT:Tr TI:=(.nd 139 ⟨.fn,1,8,[.nilf],none,false⟩ (.nd 70 ⟨.fn,1,8,[.nilf],none,false⟩ (.nd 32 ⟨.struct [(0,3),(1,3),(2,3),(3,3),(4,3),(5,3),(6,3)],7,56,[.int .i64 0,.int .i64 0,.int .i64 0,.int .i64 0,.int .i64 0,.int .i64 0,.int .i64 0],none,true⟩ (.nd 16 ⟨.ptr 263,1,8,[.nilp],none,false⟩ (.nd 8 ⟨.struct [(0,2),(1,3),(2,4),(3,6)],4,24,[.int .i64 0,.int .i64 0,.bool false,.int .u8 0],none,false⟩ (.nd 4 ⟨.bool,1,1,[.bool false],some .b,false⟩ (.nd 2 ⟨.int .i64,1,8,[.int .i64 0],some .i,false⟩ (.nd 1 ⟨.fn,1,8,[.nilf],none,false⟩ .lf .lf) (.nd 3 ⟨.int .i64,1,8,[.int .i64 0],some .i,false⟩ .lf .lf)) (.nd 6 ⟨.int .u8,1,1,[.int .u8 0],some .u,false⟩ (.nd 5 ⟨.int .u8,1,1,[.int .u8 0],some .u,false⟩ .lf .lf) (.nd 7 ⟨.struct [(0,2),(1,3),(2,4),(3,6)],4,24,[.int .i64 0,.int .i64 0,.bool false,.int .u8 0],none,false⟩ .lf .lf))) (.nd 12 ⟨.int .u64,1,8,[.int .u64 0],none,false⟩ (.nd 10 ⟨.str,1,16,[.str []],some .s,false⟩ (.nd 9 ⟨.str,1,16,[.str []],some .s,false⟩ .lf .lf) (.nd 11 ⟨.str,1,16,[.str []],some .s,false⟩ .lf .lf)) (.nd 14 ⟨.struct [(0,9),(1,12)],2,24,[.str [],.int .u64 0],none,false⟩ (.nd 13 ⟨.struct [(0,9),(1,12)],2,24,[.str [],.int .u64 0],none,false⟩ .lf .lf) (.nd 15 ⟨.ptr 260,1,8,[.nilp],none,false⟩ .lf .lf)))) (.nd 24 ⟨.struct [(0,23),(16,3),(17,3)],18,144,[.arr .i 16 [],.int .i64 0,.int .i64 0],none,false⟩ (.nd 20 ⟨.iface,1,16,[.err true],none,false⟩ (.nd 18 ⟨.struct [(0,17)],1,8,[.nilp],none,false⟩ (.nd 17 ⟨.ptr 271,1,8,[.nilp],none,false⟩ .lf .lf) (.nd 19 ⟨.struct [(0,17)],1,8,[.nilp],none,false⟩ .lf .lf)) (.nd 22 ⟨.slice 5,1,24,[.nils],none,false⟩ (.nd 21 ⟨.int .i32,1,4,[.int .i32 0],none,false⟩ .lf .lf) (.nd 23 ⟨.array 16 3,16,128,[.arr .i 16 []],none,false⟩ .lf .lf))) (.nd 28 ⟨.struct [(0,27)],1,24,[.nils],none,false⟩ (.nd 26 ⟨.fn,1,8,[.nilf],none,false⟩ (.nd 25 ⟨.struct [(0,23),(16,3),(17,3)],18,144,[.arr .i 16 [],.int .i64 0,.int .i64 0],none,true⟩ .lf .lf) (.nd 27 ⟨.slice 103,1,24,[.nils],none,false⟩ .lf .lf)) (.nd 30 ⟨.fn,1,8,[.nilf],none,false⟩ (.nd 29 ⟨.struct [(0,27)],1,24,[.nils],none,false⟩ .lf .lf) (.nd 31 ⟨.struct [(0,3),(1,3),(2,3),(3,3),(4,3),(5,3),(6,3)],7,56,[.int .i64 0,.int .i64 0,.int .i64 0,.int .i64 0,.int .i64 0,.int .i64 0,.int .i64 0],none,false⟩ .lf .lf))))) (.nd 52 ⟨.struct [(0,50),(1,4),(2,4),(3,4)],4,32,[.nils,.bool false,.bool false,.bool false],none,false⟩ (.nd 43 ⟨.fn,1,8,[.nilf],none,false⟩ (.nd 36 ⟨.fn,1,8,[.nilf],none,false⟩ (.nd 34 ⟨.struct [(0,3),(1,3),(2,3),(3,3),(4,32),(11,32),(18,3)],19,152,[.int .i64 0,.int .i64 0,.int .i64 0,.int .i64 0,.int .i64 0,.int .i64 0,.int .i64 0,.int .i64 0,.int .i64 0,.int .i64 0,.int .i64 0,.int .i64 0,.int .i64 0,.int .i64 0,.int .i64 0,.int .i64 0,.int .i64 0,.int .i64 0,.int .i64 0],some .ins,false⟩ (.nd 33 ⟨.struct [(0,3),(1,3),(2,3),(3,3),(4,32),(11,32),(18,3)],19,152,[.int .i64 0,.int .i64 0,.int .i64 0,.int .i64 0,.int .i64 0,.int .i64 0,.int .i64 0,.int .i64 0,.int .i64 0,.int .i64 0,.int .i64 0,.int .i64 0,.int .i64 0,.int .i64 0,.int .i64 0,.int .i64 0,.int .i64 0,.int .i64 0,.int .i64 0],none,false⟩ .lf .lf) (.nd 35 ⟨.fn,1,8,[.nilf],none,false⟩ .lf .lf)) (.nd 39 ⟨.slice 46,1,24,[.nils],none,false⟩ (.nd 38 ⟨.fn,1,8,[.nilf],none,false⟩ .lf .lf) (.nd 41 ⟨.fn,1,8,[.nilf],none,false⟩ .lf .lf))) (.nd 48 ⟨.fn,1,8,[.nilf],none,false⟩ (.nd 45 ⟨.struct [(0,3),(1,3),(2,3),(3,3)],4,32,[.int .i64 0,.int .i64 0,.int .i64 0,.int .i64 0],none,false⟩ (.nd 44 ⟨.fn,1,8,[.nilf],none,false⟩ .lf .lf) (.nd 46 ⟨.struct [(0,3),(1,3),(2,3),(3,3)],4,32,[.int .i64 0,.int .i64 0,.int .i64 0,.int .i64 0],some .acc,true⟩ .lf .lf)) (.nd 50 ⟨.slice 3,1,24,[.nils],none,false⟩ (.nd 49 ⟨.fn,1,8,[.nilf],none,false⟩ .lf .lf) (.nd 51 ⟨.struct [(0,50),(1,4),(2,4),(3,4)],4,32,[.nils,.bool false,.bool false,.bool false],none,false⟩ .lf .lf)))) (.nd 62 ⟨.struct [(0,61)],1,24,[.nils],none,false⟩ (.nd 58 ⟨.fn,1,8,[.nilf],none,false⟩ (.nd 55 ⟨.fn,1,8,[.nilf],none,false⟩ (.nd 54 ⟨.fn,1,8,[.nilf],none,false⟩ .lf .lf) (.nd 57 ⟨.fn,1,8,[.nilf],none,false⟩ .lf .lf)) (.nd 60 ⟨.struct [(0,23),(16,3),(17,3)],18,144,[.arr .i 16 [],.int .i64 0,.int .i64 0],none,true⟩ (.nd 59 ⟨.fn,1,8,[.nilf],none,false⟩ .lf .lf) (.nd 61 ⟨.slice 140,1,24,[.nils],none,false⟩ .lf .lf))) (.nd 66 ⟨.struct [(0,3),(1,3),(2,3),(3,3),(4,64),(11,64),(18,3)],19,152,[.int .i64 0,.int .i64 0,.int .i64 0,.int .i64 0,.int .i64 0,.int .i64 0,.int .i64 0,.int .i64 0,.int .i64 0,.int .i64 0,.int .i64 0,.int .i64 0,.int .i64 0,.int .i64 0,.int .i64 0,.int .i64 0,.int .i64 0,.int .i64 0,.int .i64 0],some .ins,false⟩ (.nd 64 ⟨.struct [(0,3),(1,3),(2,3),(3,3),(4,3),(5,3),(6,3)],7,56,[.int .i64 0,.int .i64 0,.int .i64 0,.int .i64 0,.int .i64 0,.int .i64 0,.int .i64 0],none,true⟩ (.nd 63 ⟨.struct [(0,61)],1,24,[.nils],none,false⟩ .lf .lf) (.nd 65 ⟨.struct [(0,3),(1,3),(2,3),(3,3),(4,64),(11,64),(18,3)],19,152,[.int .i64 0,.int .i64 0,.int .i64 0,.int .i64 0,.int .i64 0,.int .i64 0,.int .i64 0,.int .i64 0,.int .i64 0,.int .i64 0,.int .i64 0,.int .i64 0,.int .i64 0,.int .i64 0,.int .i64 0,.int .i64 0,.int .i64 0,.int .i64 0,.int .i64 0],none,false⟩ .lf .lf)) (.nd 68 ⟨.fn,1,8,[.nilf],none,false⟩ (.nd 67 ⟨.fn,1,8,[.nilf],none,false⟩ .lf .lf) (.nd 69 ⟨.fn,1,8,[.nilf],none,false⟩ .lf .lf)))))) (.nd 106 ⟨.fn,1,8,[.nilf],none,false⟩ (.nd 88 ⟨.fn,1,8,[.nilf],none,false⟩ (.nd 79 ⟨.fn,1,8,[.nilf],none,false⟩ (.nd 74 ⟨.fn,1,8,[.nilf],none,false⟩ (.nd 72 ⟨.fn,1,8,[.nilf],none,false⟩ (.nd 71 ⟨.fn,1,8,[.nilf],none,false⟩ .lf .lf) (.nd 73 ⟨.fn,1,8,[.nilf],none,false⟩ .lf .lf)) (.nd 77 ⟨.fn,1,8,[.nilf],none,false⟩ (.nd 75 ⟨.fn,1,8,[.nilf],none,false⟩ .lf .lf) (.nd 78 ⟨.fn,1,8,[.nilf],none,false⟩ .lf .lf))) (.nd 84 ⟨.fn,1,8,[.nilf],none,false⟩ (.nd 82 ⟨.fn,1,8,[.nilf],none,false⟩ (.nd 80 ⟨.fn,1,8,[.nilf],none,false⟩ .lf .lf) (.nd 83 ⟨.ptr 116,1,8,[.nilp],none,false⟩ .lf .lf)) (.nd 86 ⟨.fn,1,8,[.nilf],none,false⟩ (.nd 85 ⟨.fn,1,8,[.nilf],none,false⟩ .lf .lf) (.nd 87 ⟨.fn,1,8,[.nilf],none,false⟩ .lf .lf)))) (.nd 98 ⟨.fn,1,8,[.nilf],none,false⟩ (.nd 93 ⟨.fn,1,8,[.nilf],none,false⟩ (.nd 91 ⟨.fn,1,8,[.nilf],none,false⟩ (.nd 90 ⟨.fn,1,8,[.nilf],none,false⟩ .lf .lf) (.nd 92 ⟨.fn,1,8,[.nilf],none,false⟩ .lf .lf)) (.nd 95 ⟨.int .u64,1,8,[.int .u64 0],none,false⟩ (.nd 94 ⟨.fn,1,8,[.nilf],none,false⟩ .lf .lf) (.nd 96 ⟨.fn,1,8,[.nilf],none,false⟩ .lf .lf))) (.nd 102 ⟨.struct [(0,3),(1,3),(2,9)],3,32,[.int .i64 0,.int .i64 0,.str []],none,false⟩ (.nd 100 ⟨.fn,1,8,[.nilf],none,false⟩ (.nd 99 ⟨.fn,1,8,[.nilf],none,false⟩ .lf .lf) (.nd 101 ⟨.fn,1,8,[.nilf],none,false⟩ .lf .lf)) (.nd 104 ⟨.fn,1,8,[.nilf],none,false⟩ (.nd 103 ⟨.struct [(0,3),(1,3),(2,9)],3,32,[.int .i64 0,.int .i64 0,.str []],some .page,true⟩ .lf .lf) (.nd 105 ⟨.fn,1,8,[.nilf],none,false⟩ .lf .lf))))) (.nd 123 ⟨.fn,1,8,[.nilf],none,false⟩ (.nd 114 ⟨.fn,1,8,[.nilf],none,false⟩ (.nd 110 ⟨.fn,1,8,[.nilf],none,false⟩ (.nd 108 ⟨.fn,1,8,[.nilf],none,false⟩ (.nd 107 ⟨.fn,1,8,[.nilf],none,false⟩ .lf .lf) (.nd 109 ⟨.fn,1,8,[.nilf],none,false⟩ .lf .lf)) (.nd 112 ⟨.fn,1,8,[.nilf],none,false⟩ (.nd 111 ⟨.fn,1,8,[.nilf],none,false⟩ .lf .lf) (.nd 113 ⟨.fn,1,8,[.nilf],none,false⟩ .lf .lf))) (.nd 118 ⟨.fn,1,8,[.nilf],none,false⟩ (.nd 116 ⟨.struct [(0,22),(1,3),(2,3)],3,40,[.nils,.int .i64 0,.int .i64 0],none,false⟩ (.nd 115 ⟨.struct [(0,22),(1,3),(2,3)],3,40,[.nils,.int .i64 0,.int .i64 0],none,false⟩ .lf .lf) (.nd 117 ⟨.fn,1,8,[.nilf],none,false⟩ .lf .lf)) (.nd 120 ⟨.fn,1,8,[.nilf],none,false⟩ (.nd 119 ⟨.fn,1,8,[.nilf],none,false⟩ .lf .lf) (.nd 122 ⟨.fn,1,8,[.nilf],none,false⟩ .lf .lf)))) (.nd 132 ⟨.struct [(0,25),(18,29),(19,3),(20,39),(21,3)],22,208,[.arr .i 16 [],.int .i64 0,.int .i64 0,.nils,.int .i64 0,.nils,.int .i64 0],none,false⟩ (.nd 127 ⟨.fn,1,8,[.nilf],none,false⟩ (.nd 125 ⟨.fn,1,8,[.nilf],none,false⟩ (.nd 124 ⟨.fn,1,8,[.nilf],none,false⟩ .lf .lf) (.nd 126 ⟨.fn,1,8,[.nilf],none,false⟩ .lf .lf)) (.nd 130 ⟨.fn,1,8,[.nilf],none,false⟩ (.nd 128 ⟨.fn,1,8,[.nilf],none,false⟩ .lf .lf) (.nd 131 ⟨.ptr 133,1,8,[.nilp],none,false⟩ .lf .lf))) (.nd 136 ⟨.ptr 25,1,8,[.nilp],none,false⟩ (.nd 134 ⟨.fn,1,8,[.nilf],none,false⟩ (.nd 133 ⟨.struct [(0,25),(18,29),(19,3),(20,39),(21,3)],22,208,[.arr .i 16 [],.int .i64 0,.int .i64 0,.nils,.int .i64 0,.nils,.int .i64 0],none,false⟩ .lf .lf) (.nd 135 ⟨.fn,1,8,[.nilf],none,false⟩ .lf .lf)) (.nd 138 ⟨.fn,1,8,[.nilf],none,false⟩ (.nd 137 ⟨.fn,1,8,[.nilf],none,false⟩ .lf .lf) .lf)))))) (.nd 208 ⟨.fn,1,8,[.nilf],none,false⟩ (.nd 175 ⟨.fn,1,8,[.nilf],none,false⟩ (.nd 157 ⟨.fn,1,8,[.nilf],none,false⟩ (.nd 149 ⟨.fn,1,8,[.nilf],none,false⟩ (.nd 143 ⟨.struct [(0,25),(18,29),(19,3),(20,39),(21,3)],22,208,[.arr .i 16 [],.int .i64 0,.int .i64 0,.nils,.int .i64 0,.nils,.int .i64 0],none,false⟩ (.nd 141 ⟨.ptr 143,1,8,[.nilp],none,false⟩ (.nd 140 ⟨.struct [(0,3),(1,3),(2,9)],3,32,[.int .i64 0,.int .i64 0,.str []],some .page,true⟩ .lf .lf) (.nd 142 ⟨.struct [(0,25),(18,29),(19,3),(20,39),(21,3)],22,208,[.arr .i 16 [],.int .i64 0,.int .i64 0,.nils,.int .i64 0,.nils,.int .i64 0],none,false⟩ .lf .lf)) (.nd 145 ⟨.fn,1,8,[.nilf],none,false⟩ (.nd 144 ⟨.fn,1,8,[.nilf],none,false⟩ .lf .lf) (.nd 147 ⟨.fn,1,8,[.nilf],none,false⟩ .lf .lf))) (.nd 153 ⟨.struct [(0,34),(19,3),(20,4),(21,9)],22,184,[.int .i64 0,.int .i64 0,.int .i64 0,.int .i64 0,.int .i64 0,.int .i64 0,.int .i64 0,.int .i64 0,.int .i64 0,.int .i64 0,.int .i64 0,.int .i64 0,.int .i64 0,.int .i64 0,.int .i64 0,.int .i64 0,.int .i64 0,.int .i64 0,.int .i64 0,.int .i64 0,.bool false,.str []],none,false⟩ (.nd 151 ⟨.ptr 153,1,8,[.nilp],none,false⟩ (.nd 150 ⟨.fn,1,8,[.nilf],none,false⟩ .lf .lf) (.nd 152 ⟨.struct [(0,34),(19,3),(20,4),(21,9)],22,184,[.int .i64 0,.int .i64 0,.int .i64 0,.int .i64 0,.int .i64 0,.int .i64 0,.int .i64 0,.int .i64 0,.int .i64 0,.int .i64 0,.int .i64 0,.int .i64 0,.int .i64 0,.int .i64 0,.int .i64 0,.int .i64 0,.int .i64 0,.int .i64 0,.int .i64 0,.int .i64 0,.bool false,.str []],none,false⟩ .lf .lf)) (.nd 155 ⟨.fn,1,8,[.nilf],none,false⟩ (.nd 154 ⟨.int .u64,1,8,[.int .u64 0],none,false⟩ .lf .lf) (.nd 156 ⟨.fn,1,8,[.nilf],none,false⟩ .lf .lf)))) (.nd 167 ⟨.fn,1,8,[.nilf],none,false⟩ (.nd 161 ⟨.fn,1,8,[.nilf],none,false⟩ (.nd 159 ⟨.slice 9,1,24,[.nils],none,false⟩ (.nd 158 ⟨.fn,1,8,[.nilf],none,false⟩ .lf .lf) (.nd 160 ⟨.fn,1,8,[.nilf],none,false⟩ .lf .lf)) (.nd 164 ⟨.fn,1,8,[.nilf],none,false⟩ (.nd 162 ⟨.fn,1,8,[.nilf],none,false⟩ .lf .lf) (.nd 166 ⟨.fn,1,8,[.nilf],none,false⟩ .lf .lf))) (.nd 171 ⟨.fn,1,8,[.nilf],none,false⟩ (.nd 169 ⟨.fn,1,8,[.nilf],none,false⟩ (.nd 168 ⟨.ptr 3,1,8,[.nilp],none,false⟩ .lf .lf) (.nd 170 ⟨.fn,1,8,[.nilf],none,false⟩ .lf .lf)) (.nd 173 ⟨.array 16 4,16,16,[.arr .b 16 []],none,false⟩ (.nd 172 ⟨.fn,1,8,[.nilf],none,false⟩ .lf .lf) (.nd 174 ⟨.fn,1,8,[.nilf],none,false⟩ .lf .lf))))) (.nd 192 ⟨.struct [(0,9),(1,3),(2,3),(3,4),(4,3),(5,4),(6,3),(7,182),(12,3),(13,3),(14,3),(15,34)],34,280,[.str [],.int .i64 0,.int .i64 0,.bool false,.int .i64 0,.bool false,.int .i64 0,.int .i64 0,.int .i64 0,.int .i64 0,.bool false,.int .i64 0,.int .i64 0,.int .i64 0,.int .i64 0,.int .i64 0,.int .i64 0,.int .i64 0,.int .i64 0,.int .i64 0,.int .i64 0,.int .i64 0,.int .i64 0,.int .i64 0,.int .i64 0,.int .i64 0,.int .i64 0,.int .i64 0,.int .i64 0,.int .i64 0,.int .i64 0,.int .i64 0,.int .i64 0,.int .i64 0],none,false⟩ (.nd 184 ⟨.fn,1,8,[.nilf],none,false⟩ (.nd 179 ⟨.struct [(0,9),(1,3),(2,3),(3,4),(4,3)],5,48,[.str [],.int .i64 0,.int .i64 0,.bool false,.int .i64 0],none,false⟩ (.nd 177 ⟨.fn,1,8,[.nilf],none,false⟩ (.nd 176 ⟨.fn,1,8,[.nilf],none,false⟩ .lf .lf) (.nd 178 ⟨.ptr 180,1,8,[.nilp],none,false⟩ .lf .lf)) (.nd 181 ⟨.struct [(0,3),(1,3),(2,3),(3,4),(4,3)],5,40,[.int .i64 0,.int .i64 0,.int .i64 0,.bool false,.int .i64 0],none,false⟩ (.nd 180 ⟨.struct [(0,9),(1,3),(2,3),(3,4),(4,3)],5,48,[.str [],.int .i64 0,.int .i64 0,.bool false,.int .i64 0],none,true⟩ .lf .lf) (.nd 182 ⟨.struct [(0,3),(1,3),(2,3),(3,4),(4,3)],5,40,[.int .i64 0,.int .i64 0,.int .i64 0,.bool false,.int .i64 0],none,true⟩ .lf .lf))) (.nd 188 ⟨.fn,1,8,[.nilf],none,false⟩ (.nd 186 ⟨.fn,1,8,[.nilf],none,false⟩ (.nd 185 ⟨.fn,1,8,[.nilf],none,false⟩ .lf .lf) (.nd 187 ⟨.fn,1,8,[.nilf],none,false⟩ .lf .lf)) (.nd 190 ⟨.ptr 192,1,8,[.nilp],none,false⟩ (.nd 189 ⟨.fn,1,8,[.nilf],none,false⟩ .lf .lf) (.nd 191 ⟨.struct [(0,9),(1,3),(2,3),(3,4),(4,3),(5,4),(6,3),(7,182),(12,3),(13,3),(14,3),(15,34)],34,280,[.str [],.int .i64 0,.int .i64 0,.bool false,.int .i64 0,.bool false,.int .i64 0,.int .i64 0,.int .i64 0,.int .i64 0,.bool false,.int .i64 0,.int .i64 0,.int .i64 0,.int .i64 0,.int .i64 0,.int .i64 0,.int .i64 0,.int .i64 0,.int .i64 0,.int .i64 0,.int .i64 0,.int .i64 0,.int .i64 0,.int .i64 0,.int .i64 0,.int .i64 0,.int .i64 0,.int .i64 0,.int .i64 0,.int .i64 0,.int .i64 0,.int .i64 0,.int .i64 0],none,false⟩ .lf .lf)))) (.nd 200 ⟨.fn,1,8,[.nilf],none,false⟩ (.nd 196 ⟨.fn,1,8,[.nilf],none,false⟩ (.nd 194 ⟨.fn,1,8,[.nilf],none,false⟩ (.nd 193 ⟨.slice 1,1,24,[.nils],none,false⟩ .lf .lf) (.nd 195 ⟨.fn,1,8,[.nilf],none,false⟩ .lf .lf)) (.nd 198 ⟨.slice 4,1,24,[.nils],none,false⟩ (.nd 197 ⟨.fn,1,8,[.nilf],none,false⟩ .lf .lf) (.nd 199 ⟨.fn,1,8,[.nilf],none,false⟩ .lf .lf))) (.nd 205 ⟨.fn,1,8,[.nilf],none,false⟩ (.nd 203 ⟨.fn,1,8,[.nilf],none,false⟩ (.nd 201 ⟨.fn,1,8,[.nilf],none,false⟩ .lf .lf) (.nd 204 ⟨.fn,1,8,[.nilf],none,false⟩ .lf .lf)) (.nd 207 ⟨.fn,1,8,[.nilf],none,false⟩ (.nd 206 ⟨.fn,1,8,[.nilf],none,false⟩ .lf .lf) .lf))))) (.nd 242 ⟨.fn,1,8,[.nilf],none,false⟩ (.nd 225 ⟨.fn,1,8,[.nilf],none,false⟩ (.nd 217 ⟨.fn,1,8,[.nilf],none,false⟩ (.nd 213 ⟨.fn,1,8,[.nilf],none,false⟩ (.nd 211 ⟨.fn,1,8,[.nilf],none,false⟩ (.nd 210 ⟨.fn,1,8,[.nilf],none,false⟩ .lf .lf) (.nd 212 ⟨.fn,1,8,[.nilf],none,false⟩ .lf .lf)) (.nd 215 ⟨.fn,1,8,[.nilf],none,false⟩ (.nd 214 ⟨.fn,1,8,[.nilf],none,false⟩ .lf .lf) (.nd 216 ⟨.fn,1,8,[.nilf],none,false⟩ .lf .lf))) (.nd 221 ⟨.fn,1,8,[.nilf],none,false⟩ (.nd 219 ⟨.fn,1,8,[.nilf],none,false⟩ (.nd 218 ⟨.ptr 34,1,8,[.nilp],none,false⟩ .lf .lf) (.nd 220 ⟨.fn,1,8,[.nilf],none,false⟩ .lf .lf)) (.nd 223 ⟨.fn,1,8,[.nilf],none,false⟩ (.nd 222 ⟨.fn,1,8,[.nilf],none,false⟩ .lf .lf) (.nd 224 ⟨.fn,1,8,[.nilf],none,false⟩ .lf .lf)))) (.nd 234 ⟨.int .u32,1,4,[.int .u32 0],none,false⟩ (.nd 230 ⟨.fn,1,8,[.nilf],none,false⟩ (.nd 227 ⟨.int .i64,1,8,[.int .i64 0],some .i,false⟩ (.nd 226 ⟨.fn,1,8,[.nilf],none,false⟩ .lf .lf) (.nd 229 ⟨.fn,1,8,[.nilf],none,false⟩ .lf .lf)) (.nd 232 ⟨.fn,1,8,[.nilf],none,false⟩ (.nd 231 ⟨.fn,1,8,[.nilf],none,false⟩ .lf .lf) (.nd 233 ⟨.fn,1,8,[.nilf],none,false⟩ .lf .lf))) (.nd 238 ⟨.fn,1,8,[.nilf],none,false⟩ (.nd 236 ⟨.fn,1,8,[.nilf],none,false⟩ (.nd 235 ⟨.fn,1,8,[.nilf],none,false⟩ .lf .lf) (.nd 237 ⟨.fn,1,8,[.nilf],none,false⟩ .lf .lf)) (.nd 240 ⟨.fn,1,8,[.nilf],none,false⟩ (.nd 239 ⟨.fn,1,8,[.nilf],none,false⟩ .lf .lf) (.nd 241 ⟨.fn,1,8,[.nilf],none,false⟩ .lf .lf))))) (.nd 259 ⟨.struct [(0,17),(1,17),(2,17),(3,9)],4,40,[.nilp,.nilp,.nilp,.str []],none,false⟩ (.nd 251 ⟨.fn,1,8,[.nilf],none,false⟩ (.nd 247 ⟨.iface,1,16,[.err true],none,false⟩ (.nd 244 ⟨.fn,1,8,[.nilf],none,false⟩ (.nd 243 ⟨.fn,1,8,[.nilf],none,false⟩ .lf .lf) (.nd 246 ⟨.fn,1,8,[.nilf],none,false⟩ .lf .lf)) (.nd 249 ⟨.ptr 103,1,8,[.nilp],none,false⟩ (.nd 248 ⟨.iface,1,16,[.err true],none,false⟩ .lf .lf) (.nd 250 ⟨.int .u64,1,8,[.int .u64 0],none,false⟩ .lf .lf))) (.nd 255 ⟨.fn,1,8,[.nilf],none,false⟩ (.nd 253 ⟨.fn,1,8,[.nilf],none,false⟩ (.nd 252 ⟨.fn,1,8,[.nilf],none,false⟩ .lf .lf) (.nd 254 ⟨.fn,1,8,[.nilf],none,false⟩ .lf .lf)) (.nd 257 ⟨.fn,1,8,[.nilf],none,false⟩ (.nd 256 ⟨.ptr 250,1,8,[.nilp],none,false⟩ .lf .lf) (.nd 258 ⟨.ptr 273,1,8,[.nilp],none,false⟩ .lf .lf)))) (.nd 267 ⟨.ptr 5,1,8,[.nilp],none,false⟩ (.nd 263 ⟨.struct [(0,261)],0,0,[],none,false⟩ (.nd 261 ⟨.array 0 16,0,0,[],none,false⟩ (.nd 260 ⟨.struct [(0,17),(1,17),(2,17),(3,9)],4,40,[.nilp,.nilp,.nilp,.str []],none,false⟩ .lf .lf) (.nd 262 ⟨.struct [(0,261)],0,0,[],none,false⟩ .lf .lf)) (.nd 265 ⟨.int .u8,1,1,[.int .u8 0],some .u,false⟩ (.nd 264 ⟨.int .u8,1,1,[.int .u8 0],some .u,false⟩ .lf .lf) (.nd 266 ⟨.fn,1,8,[.nilf],none,false⟩ .lf .lf))) (.nd 271 ⟨.struct [(0,12),(1,12),(2,234),(3,264),(4,5),(5,5),(6,265),(7,266),(8,267),(9,268),(10,269)],11,48,[.int .u64 0,.int .u64 0,.int .u32 0,.int .u8 0,.int .u8 0,.int .u8 0,.int .u8 0,.nilf,.nilp,.int .i32 0,.int .i32 0],none,false⟩ (.nd 269 ⟨.int .i32,1,4,[.int .i32 0],none,false⟩ (.nd 268 ⟨.int .i32,1,4,[.int .i32 0],none,false⟩ .lf .lf) (.nd 270 ⟨.struct [(0,12),(1,12),(2,234),(3,264),(4,5),(5,5),(6,265),(7,266),(8,267),(9,268),(10,269)],11,48,[.int .u64 0,.int .u64 0,.int .u32 0,.int .u8 0,.int .u8 0,.int .u8 0,.int .u8 0,.nilf,.nilp,.int .i32 0,.int .i32 0],none,false⟩ .lf .lf)) (.nd 273 ⟨.struct [(0,9)],1,16,[.str []],none,false⟩ (.nd 272 ⟨.struct [(0,9)],1,16,[.str []],none,false⟩ .lf .lf) .lf)))))))
abbrev OK (n:Nat)(S:Sem1):Prop:=lk Tryz.prog Ly n S
def AN:Anns:=⟨.lf,.lf,[]⟩
theorem tok:TOK Tryz.prog TT:=by unfold TOK;kernel_rfl
theorem eqs:ur Tryz.prog TT:=yA (by kernel_rfl)
theorem mix:Tryz.prog.follows .mixedOrders=true:=by kernel_rfl
theorem tv:True:=trivial
def chk (fn:Func)(g:Sig):Bool:= !(fn.name== "runtime.NumGoroutine")&&((match fn.body with|some c=>jf fn.ntmps c|none=>false)&&Nat.ble (lenN g.D.ts) fn.ntmps)
theorem tk {E:Tr Sem1}{A:Anns}(h:E.All (fun n S=>OK n S)){n:FuncId}{fn:Func}(hf:Tryz.prog.funcs[n]? =some fn)(g:Sig)(hc:chk fn g=true){S:g.D.Ty→Option (g.r.Ty×BTL.Ty g.ks)}(hS:∀x,g.den E TT A F fn x=S x):OK n (g.sem S):=by
 unfold chk at hc
 rw[Bool.and_eq_true,Bool.and_eq_true]at hc
 exact xL ⟨tok,eqs,h.get,mix⟩ hf (by cases h0:(fn.name== "runtime.NumGoroutine")with|false=>rfl|true=>rw[h0]at hc;cases hc.1) hc.2.1 g hc.2.2 S hS
def g0:Sig:=⟨⟨bu 0 [.list .u],[],[]⟩,.one (.konst (.ptr 0 0)),[.var [.list .u,.int .i64,.int .i64]],[],false,false,[],[]⟩
theorem o0:OK 45 (g0.sem bE):=tk (E:=Tr.lf) (A:=AN) tv Tryz.func45 g0 (by kernel_rfl) fun x=>by kernel_rfl
def g1:Sig:=⟨⟨bu 0 [.konst (.ptr 0 0)],[.var [.list .u,.int .i64,.int .i64]],[]⟩,.one (.int .i64),[.var [.list .u,.int .i64,.int .i64]],[(0,1,3)],false,false,[],[]⟩
theorem o1:OK 142 (g1.sem aJ):=tk (E:=Tr.lf) (A:=AN) tv Tryz.func142 g1 (by kernel_rfl) fun x=>by kernel_rfl
def g2:Sig:=⟨⟨bu 0 [.konst (.ptr 0 0),.int .i64],[.var [.list .u,.int .i64,.int .i64]],[]⟩,.one (.int .i64),[.var [.list .u,.int .i64,.int .i64]],[(0,1,3)],false,false,[],[]⟩
def E2:Tr Sem1:=(.nd 142 (g1.sem aJ) .lf .lf)
theorem o2:OK 87 (g2.sem ae):=tk (E:=E2) (A:=AN) ⟨o1,tv,tv⟩ Tryz.func87 g2 (by kernel_rfl) fun x=>by kernel_rfl
def g3:Sig:=⟨⟨bu 0 [.konst (.ptr 0 0),.int .i64],[.var [.list .u,.int .i64,.int .i64]],[]⟩,.one (.bool),[.var [.list .u,.int .i64,.int .i64]],[(0,1,3)],false,false,[],[]⟩
def E3:Tr Sem1:=(.nd 87 (g2.sem ae) .lf .lf)
theorem o3:OK 90 (g3.sem ak):=tk (E:=E3) (A:=AN) ⟨o2,tv,tv⟩ Tryz.func90 g3 (by kernel_rfl) fun x=>by kernel_rfl
def g4:Sig:=⟨⟨bu 0 [.konst (.ptr 0 0)],[.var [.list .u,.int .i64,.int .i64]],[]⟩,.one (.int .i64),[.var [.list .u,.int .i64,.int .i64]],[(0,1,3)],false,false,[],[]⟩
def E4:Tr Sem1:=(.nd 90 (g3.sem ak) .lf .lf)
def A4:Anns:=⟨(.nd 0 (.loop ⟨[(0,(.konst (.ptr 0 0))),(3,(.int .i64)),(6,(.konst (.vec 1))),(7,(.int .i64)),(8,(.int .i64))],[(B9),(.row .i)],[]⟩) .lf .lf),(.nd 26 ⟨[(0,(.konst (.ptr 0 0))),(3,(.int .i64)),(6,(.konst (.vec 1))),(7,(.int .i64)),(8,(.int .i64))],[(B9),(.row .i)],[]⟩ .lf .lf),[]⟩
theorem o4:OK 88 (g4.sem co):=tk (E:=E4) (A:=A4) ⟨o3,tv,tv⟩ Tryz.func88 g4 (by kernel_rfl) fun x=>by kernel_rfl
def g5:Sig:=⟨⟨bu 0 [.konst (.ptr 0 0)],[.var [.list .u,.int .i64,.int .i64]],[]⟩,.one (.int .i64),[.var [.list .u,.int .i64,.int .i64]],[(0,1,3)],false,false,[],[]⟩
def E5:Tr Sem1:=(.nd 142 (g1.sem aJ) .lf .lf)
theorem o5:OK 143 (g5.sem aS):=tk (E:=E5) (A:=AN) ⟨o1,tv,tv⟩ Tryz.func143 g5 (by kernel_rfl) fun x=>by kernel_rfl
def g6:Sig:=⟨⟨bu 0 [.konst (.ptr 0 0)],[.var [.list .u,.int .i64,.int .i64]],[]⟩,.one (.int .i64),[.var [.list .u,.int .i64,.int .i64]],[(0,1,3)],false,false,[],[]⟩
def E6:Tr Sem1:=(.nd 87 (g2.sem ae) .lf .lf)
theorem o6:OK 144 (g6.sem cX):=tk (E:=E6) (A:=AN) ⟨o2,tv,tv⟩ Tryz.func144 g6 (by kernel_rfl) fun x=>by kernel_rfl
def g7:Sig:=⟨⟨bu 0 [.konst (.ptr 0 0)],[.var [.list .u,.int .i64,.int .i64]],[]⟩,.one (.int .i64),[.var [.list .u,.int .i64,.int .i64]],[(0,1,3)],false,false,[],[]⟩
def E7:Tr Sem1:=(.nd 143 (g5.sem aS) (.nd 87 (g2.sem ae) .lf .lf) (.nd 144 (g6.sem cX) .lf .lf))
theorem o7:OK 89 (g7.sem bB):=tk (E:=E7) (A:=AN) ⟨o5,⟨o2,tv,tv⟩,⟨o6,tv,tv⟩⟩ Tryz.func89 g7 (by kernel_rfl) fun x=>by kernel_rfl
def g8:Sig:=⟨⟨bu 0 [.konst (.ptr 0 0)],[.var [.list .u,.int .i64,.int .i64]],[]⟩,.one (.agg [.arr .i 16,.int .i64,.int .i64]),[.var [.list .u,.int .i64,.int .i64]],[(0,1,3)],false,false,[],[]⟩
def E8:Tr Sem1:=(.nd 89 (g7.sem bB) (.nd 88 (g4.sem co) (.nd 87 (g2.sem ae) .lf .lf) .lf) (.nd 90 (g3.sem ak) .lf .lf))
def A8:Anns:=⟨(.nd 0 (.loop ⟨[(0,(.konst (.ptr 0 0))),(2,(.konst (.ptr 1 0))),(3,(.konst (.ptr 2 0))),(4,(.int .i64))],[(B9),(B8),(B8)],[]⟩) .lf .lf),.lf,[]⟩
theorem o8:OK 46 (g8.sem cW):=tk (E:=E8) (A:=A8) ⟨o7,⟨o4,⟨o2,tv,tv⟩,tv⟩,⟨o3,tv,tv⟩⟩ Tryz.func46 g8 (by kernel_rfl) fun x=>by kernel_rfl
def g9:Sig:=⟨⟨bu 0 [.list .u],[],[]⟩,.one (.agg [.arr .i 16,.int .i64,.int .i64]),[],[],false,false,[],[]⟩
def E9:Tr Sem1:=(.nd 46 (g8.sem cW) (.nd 45 (g0.sem bE) .lf .lf) .lf)
theorem o9:OK 9 (g9.sem dJ):=tk (E:=E9) (A:=AN) ⟨o8,⟨o0,tv,tv⟩,tv⟩ Tryz.func9 g9 (by kernel_rfl) fun x=>by kernel_rfl
def g10:Sig:=⟨⟨bu 0 [.konst (.ptr 0 0),.int .i64],[.var [.list .u,.int .i64,.int .i64]],[]⟩,.one (.str),[.var [.list .u,.int .i64,.int .i64]],[(0,1,3)],false,false,[],[]⟩
def E10:Tr Sem1:=(.nd 142 (g1.sem aJ) .lf .lf)
def A10:Anns:=⟨(.nd 0 (.loop ⟨[(0,(.konst (.ptr 0 0))),(1,(.int .i64)),(5,(.konst (.vec 1))),(6,(.int .i64))],[(B9),(.row .u)],[]⟩) .lf .lf),.lf,[]⟩
theorem o10:OK 91 (g10.sem bA):=tk (E:=E10) (A:=A10) ⟨o1,tv,tv⟩ Tryz.func91 g10 (by kernel_rfl) fun x=>by kernel_rfl
def g11:Sig:=⟨⟨bu 0 [.konst (.ptr 0 0)],[.var [.list .u,.int .i64,.int .i64]],[]⟩,.one (.agg [.list .page]),[.var [.list .u,.int .i64,.int .i64]],[(0,1,3)],false,false,[],[]⟩
def E11:Tr Sem1:=(.nd 91 (g10.sem bA) (.nd 90 (g3.sem ak) .lf .lf) .lf)
def A11:Anns:=⟨(.nd 0 (.loop ⟨[(0,(.konst (.ptr 0 0))),(2,(.konst (.ptr 1 0))),(3,(.konst (.ptr 2 0))),(4,(.konst (.vec 4))),(5,(.int .i64))],[(B9),(.var [(.konst .nils)]),(.var [(.konst (.vec 3))]),(.row .page),(.row .page)],[]⟩) .lf .lf),.lf,[]⟩
theorem o11:OK 47 (g11.sem bO):=tk (E:=E11) (A:=A11) ⟨o10,⟨o3,tv,tv⟩,tv⟩ Tryz.func47 g11 (by kernel_rfl) fun x=>by kernel_rfl
def g12:Sig:=⟨⟨bu 0 [.list .u],[],[]⟩,.one (.agg [.list .page]),[],[],false,false,[],[]⟩
def E12:Tr Sem1:=(.nd 47 (g11.sem bO) (.nd 45 (g0.sem bE) .lf .lf) .lf)
theorem o12:OK 10 (g12.sem bY):=tk (E:=E12) (A:=AN) ⟨o11,⟨o0,tv,tv⟩,tv⟩ Tryz.func10 g12 (by kernel_rfl) fun x=>by kernel_rfl
def g13:Sig:=⟨⟨bu 0 [.konst (.ptr 0 0)],[.var [.list .u,.int .i64,.int .i64]],[]⟩,.one (.int .i64),[.var [.list .u,.int .i64,.int .i64]],[(0,1,3)],false,false,[],[]⟩
def E13:Tr Sem1:=(.nd 87 (g2.sem ae) .lf .lf)
theorem o13:OK 145 (g13.sem bN):=tk (E:=E13) (A:=AN) ⟨o2,tv,tv⟩ Tryz.func145 g13 (by kernel_rfl) fun x=>by kernel_rfl
def g14:Sig:=⟨⟨bu 0 [.konst (.ptr 0 0)],[.var [.list .u,.int .i64,.int .i64]],[]⟩,.one (V7),[.var [.list .u,.int .i64,.int .i64]],[(0,1,3)],false,false,[],[]⟩
def E14:Tr Sem1:=(.nd 143 (g5.sem aS) (.nd 90 (g3.sem ak) (.nd 87 (g2.sem ae) .lf .lf) .lf) (.nd 145 (g13.sem bN) .lf .lf))
def A14:Anns:=⟨.lf,(.nd 60 ⟨[(0,(.konst (.ptr 0 0))),(2,(.konst (.ptr 1 0))),(3,(.konst (.ptr 2 0)))],[(B9),(B4),(B4)],[]⟩ (.nd 55 ⟨[(0,(.konst (.ptr 0 0))),(2,(.konst (.ptr 1 0))),(3,(.konst (.ptr 2 0)))],[(B9),(B4),(B4)],[]⟩ .lf .lf) .lf),[]⟩
theorem o14:OK 223 (g14.sem bb):=tk (E:=E14) (A:=A14) ⟨o5,⟨o3,⟨o2,tv,tv⟩,tv⟩,⟨o13,tv,tv⟩⟩ Tryz.func223 g14 (by kernel_rfl) fun x=>by kernel_rfl
def g15:Sig:=⟨⟨bu 0 [.konst (.ptr 0 0),.int .i64],[.var [.list .u,.int .i64,.int .i64]],[]⟩,.one (V7),[.var [.list .u,.int .i64,.int .i64]],[(0,1,3)],false,false,[],[]⟩
def E15:Tr Sem1:=(.nd 90 (g3.sem ak) (.nd 87 (g2.sem ae) .lf .lf) .lf)
def A15:Anns:=⟨.lf,(.nd 26 ⟨[(4,(.konst (.ptr 1 0))),(5,(.int .i64))],[(B9),(B4)],[]⟩ .lf .lf),[]⟩
theorem o15:OK 147 (g15.sem az):=tk (E:=E15) (A:=A15) ⟨o3,⟨o2,tv,tv⟩,tv⟩ Tryz.func147 g15 (by kernel_rfl) fun x=>by kernel_rfl
def g16:Sig:=⟨⟨bu 0 [.konst (.ptr 0 0),.int .i64],[.var [.list .u,.int .i64,.int .i64]],[]⟩,.one (V7),[.var [.list .u,.int .i64,.int .i64]],[(0,1,3)],false,false,[],[]⟩
def E16:Tr Sem1:=(.nd 147 (g15.sem az) (.nd 90 (g3.sem ak) .lf .lf) (.nd 223 (g14.sem bb) .lf .lf))
theorem o16:OK 146 (g16.sem aw):=tk (E:=E16) (A:=AN) ⟨o15,⟨o3,tv,tv⟩,⟨o14,tv,tv⟩⟩ Tryz.func146 g16 (by kernel_rfl) fun x=>by kernel_rfl
def g17:Sig:=⟨⟨bu 0 [.int .i64,.int .i64],[],[]⟩,.one (.int .i64),[],[],false,false,[],[]⟩
theorem o17:OK 255 (g17.sem dT):=tk (E:=Tr.lf) (A:=AN) tv Tryz.func255 g17 (by kernel_rfl) fun x=>by kernel_rfl
def g18:Sig:=⟨⟨bu 0 [.int .i64,.int .i64],[],[]⟩,.one (.int .i64),[],[],false,false,[],[]⟩
def E18:Tr Sem1:=(.nd 255 (g17.sem dT) .lf .lf)
def A18:Anns:=⟨(.nd 0 (.loop ⟨[(0,(.int .i64)),(1,(.int .i64)),(5,(.int .u64)),(6,(.int .i64))],[],[]⟩) .lf .lf),.lf,[]⟩
theorem o18:OK 196 (g18.sem cI):=tk (E:=E18) (A:=A18) ⟨o17,tv,tv⟩ Tryz.func196 g18 (by kernel_rfl) fun x=>by kernel_rfl
def g19:Sig:=⟨⟨bu 0 [.konst (.ptr 0 0),.int .i64],[.var [.list .u,.int .i64,.int .i64]],[]⟩,.one (V7),[.var [.list .u,.int .i64,.int .i64]],[(0,1,3)],false,false,[],[]⟩
def E19:Tr Sem1:=(.nd 143 (g5.sem aS) (.nd 87 (g2.sem ae) .lf .lf) (.nd 196 (g18.sem cI) .lf .lf))
theorem o19:OK 148 (g19.sem aU):=tk (E:=E19) (A:=AN) ⟨o5,⟨o2,tv,tv⟩,⟨o18,tv,tv⟩⟩ Tryz.func148 g19 (by kernel_rfl) fun x=>by kernel_rfl
def g20:Sig:=⟨⟨bu 0 [.int .i64,.int .i64,.int .i64],[],[]⟩,.one (.bool),[],[],false,false,[],[]⟩
theorem o20:OK 60 (g20.sem aA):=tk (E:=Tr.lf) (A:=AN) tv Tryz.func60 g20 (by kernel_rfl) fun x=>by kernel_rfl
def g21:Sig:=⟨⟨bu 0 [.el .ins],[],[]⟩,.one (.int .i64),[],[],false,false,[],[]⟩
theorem o21:OK 162 (g21.sem cJ):=tk (E:=Tr.lf) (A:=AN) tv Tryz.func162 g21 (by kernel_rfl) fun x=>by kernel_rfl
def g22:Sig:=⟨⟨bu 0 [.konst (.ptr 0 0),.el .ins,.int .i64],[.var [.list .u,.int .i64,.int .i64]],[]⟩,.one (.el .ins),[.var [.list .u,.int .i64,.int .i64]],[(0,1,3)],false,false,[],[]⟩
def E22:Tr Sem1:=(.nd 147 (g15.sem az) (.nd 90 (g3.sem ak) (.nd 87 (g2.sem ae) .lf .lf) (.nd 146 (g16.sem aw) .lf .lf)) (.nd 162 (g21.sem cJ) (.nd 148 (g19.sem aU) .lf .lf) (.nd 223 (g14.sem bb) .lf .lf)))
def A22:Anns:=⟨.lf,(.nd 108 ⟨[(0,(.konst (.ptr 0 0))),(4,(.konst (.ptr 1 0))),(6,(.konst (.ptr 2 0)))],[(B9),(B0),(B0)],[]⟩ (.nd 46 ⟨[(0,(.konst (.ptr 0 0))),(2,(.int .i64)),(4,(.konst (.ptr 1 0))),(6,(.konst (.ptr 2 0)))],[(B9),(B0),(B0)],[]⟩ (.nd 20 ⟨[(0,(.konst (.ptr 0 0))),(2,(.int .i64)),(4,(.konst (.ptr 1 0))),(6,(.konst (.ptr 2 0))),(9,(.int .i64)),(10,.bool)],[(B9),(B0),(B0)],[]⟩ .lf .lf) (.nd 68 ⟨[(0,(.konst (.ptr 0 0))),(4,(.konst (.ptr 1 0))),(6,(.konst (.ptr 2 0)))],[(B9),(B0),(B0)],[]⟩ .lf .lf)) (.nd 216 ⟨[(0,(.konst (.ptr 0 0))),(2,(.int .i64)),(4,(.konst (.ptr 1 0))),(6,(.konst (.ptr 2 0))),(9,(.int .i64)),(108,.bool)],[(B9),(B0),(B0)],[]⟩ (.nd 144 ⟨[(0,(.konst (.ptr 0 0))),(2,(.int .i64)),(4,(.konst (.ptr 1 0))),(6,(.konst (.ptr 2 0))),(9,(.int .i64)),(72,.bool)],[(B9),(B0),(B0)],[]⟩ .lf .lf) (.nd 226 ⟨[(0,(.konst (.ptr 0 0))),(4,(.konst (.ptr 1 0))),(6,(.konst (.ptr 2 0))),(9,(.int .i64)),(113,.bool)],[(B9),(B0),(B0)],[]⟩ .lf .lf))),[]⟩
theorem o22:OK 149 (g22.sem cr):=tk (E:=E22) (A:=A22) ⟨o15,⟨o3,⟨o2,tv,tv⟩,⟨o16,tv,tv⟩⟩,⟨o21,⟨o19,tv,tv⟩,⟨o14,tv,tv⟩⟩⟩ Tryz.func149 g22 (by kernel_rfl) fun x=>by kernel_rfl
def g23:Sig:=⟨⟨bu 0 [.int .i64],[],[]⟩,.one (.bool),[],[],false,false,[],[]⟩
def E23:Tr Sem1:=(.nd 60 (g20.sem aA) .lf .lf)
theorem o23:OK 105 (g23.sem fN):=tk (E:=E23) (A:=AN) ⟨o20,tv,tv⟩ Tryz.func105 g23 (by kernel_rfl) fun x=>by kernel_rfl
def g24:Sig:=⟨⟨bu 0 [.int .i64],[],[]⟩,.one (.bool),[],[],false,false,[],[]⟩
theorem o24:OK 159 (g24.sem dy):=tk (E:=Tr.lf) (A:=AN) tv Tryz.func159 g24 (by kernel_rfl) fun x=>by kernel_rfl
def g25:Sig:=⟨⟨bu 0 [.str,.int .u8],[],[]⟩,.one (.bool),[],[],false,false,[],[]⟩
def A25:Anns:=⟨(.nd 0 (.loop ⟨[(0,.str),(1,(.int .u8)),(5,(.int .i64))],[],[]⟩) .lf .lf),.lf,[]⟩
theorem o25:OK 292 (g25.sem df):=tk (E:=Tr.lf) (A:=A25) tv Tryz.func292 g25 (by kernel_rfl) fun x=>by kernel_rfl
def g26:Sig:=⟨⟨bu 0 [V7,.str],[],[]⟩,.one (.bool),[],[],false,false,[],[]⟩
def E26:Tr Sem1:=(.nd 292 (g25.sem df) .lf .lf)
theorem o26:OK 228 (g26.sem dz):=tk (E:=E26) (A:=AN) ⟨o25,tv,tv⟩ Tryz.func228 g26 (by kernel_rfl) fun x=>by kernel_rfl
def g27:Sig:=⟨⟨bu 0 [.el .ins,.list .s],[],[]⟩,.one (.bool),[],[],false,false,[],[]⟩
def E27:Tr Sem1:=(.nd 228 (g26.sem dz) .lf .lf)
def A27:Anns:=⟨(.nd 0 (.loop ⟨[(1,(.list .s)),(2,(.konst (.ptr 0 0))),(5,(.int .i64))],[(B0)],[]⟩) .lf .lf),.lf,[]⟩
theorem o27:OK 160 (g27.sem aK):=tk (E:=E27) (A:=A27) ⟨o26,tv,tv⟩ Tryz.func160 g27 (by kernel_rfl) fun x=>by kernel_rfl
def g28:Sig:=⟨⟨bu 0 [.int .i64,.int .i64],[],[]⟩,.one (.bool),[],[],false,false,[],[]⟩
def E28:Tr Sem1:=(.nd 196 (g18.sem cI) .lf .lf)
theorem o28:OK 161 (g28.sem bm):=tk (E:=E28) (A:=AN) ⟨o18,tv,tv⟩ Tryz.func161 g28 (by kernel_rfl) fun x=>by kernel_rfl
def g29:Sig:=⟨⟨bu 0 [.el .ins],[],[]⟩,.one (.bool),[],[],false,false,[],[]⟩
def E29:Tr Sem1:=(.nd 160 (g27.sem aK) (.nd 159 (g24.sem dy) (.nd 60 (g20.sem aA) .lf .lf) .lf) (.nd 161 (g28.sem bm) .lf .lf))
def A29:Anns:=⟨.lf,(.nd 416 ⟨[(1,(.konst (.ptr 0 0))),(4,.bool),(5,(.int .i64)),(208,.bool)],[(B0)],[]⟩ (.nd 236 ⟨[(1,(.konst (.ptr 0 0))),(3,.bool),(4,.bool),(5,(.int .i64)),(118,.bool)],[(B0)],[]⟩ (.nd 178 ⟨[(1,(.konst (.ptr 0 0))),(3,.bool),(4,.bool),(5,(.int .i64)),(89,.bool)],[(B0)],[]⟩ .lf .lf) (.nd 330 ⟨[(1,(.konst (.ptr 0 0))),(4,.bool),(5,(.int .i64)),(165,.bool)],[(B0)],[]⟩ .lf .lf)) (.nd 566 ⟨[(1,(.konst (.ptr 0 0))),(5,(.int .i64)),(283,.bool)],[(B0)],[]⟩ (.nd 540 ⟨[(1,(.konst (.ptr 0 0))),(4,.bool),(5,(.int .i64)),(270,.bool)],[(B0)],[]⟩ .lf .lf) .lf)),[]⟩
theorem o29:OK 106 (g29.sem dL):=tk (E:=E29) (A:=A29) ⟨o27,⟨o24,⟨o20,tv,tv⟩,tv⟩,⟨o28,tv,tv⟩⟩ Tryz.func106 g29 (by kernel_rfl) fun x=>by kernel_rfl
def g30:Sig:=⟨⟨bu 0 [.el .ins],[],[]⟩,.tup [.int .i64,.int .i64],[],[],false,false,[],[]⟩
def E30:Tr Sem1:=(.nd 162 (g21.sem cJ) (.nd 60 (g20.sem aA) .lf .lf) .lf)
def A30:Anns:=⟨.lf,(.nd 24 ⟨[(4,(.int .i64)),(5,(.int .i64))],[],[]⟩ .lf .lf),[]⟩
theorem o30:OK 107 (g30.sem dM):=tk (E:=E30) (A:=A30) ⟨o21,⟨o20,tv,tv⟩,tv⟩ Tryz.func107 g30 (by kernel_rfl) fun x=>by kernel_rfl
def g31:Sig:=⟨⟨bu 0 [V7,.int .i64],[],[]⟩,.one (.bool),[],[],false,false,[],[]⟩
def E31:Tr Sem1:=(.nd 159 (g24.sem dy) (.nd 60 (g20.sem aA) .lf .lf) .lf)
def A31:Anns:=⟨.lf,(.nd 22 ⟨[(2,(.konst (.ptr 0 0))),(5,(.int .i64))],[(B4)],[]⟩ .lf .lf),[]⟩
theorem o31:OK 108 (g31.sem ci):=tk (E:=E31) (A:=A31) ⟨o24,⟨o20,tv,tv⟩,tv⟩ Tryz.func108 g31 (by kernel_rfl) fun x=>by kernel_rfl
def g32:Sig:=⟨⟨bu 0 [V7,.int .i64],[],[]⟩,.tup [.bool,.bool],[],[],false,false,[],[]⟩
def E32:Tr Sem1:=(.nd 60 (g20.sem aA) .lf .lf)
theorem o32:OK 109 (g32.sem dU):=tk (E:=E32) (A:=AN) ⟨o20,tv,tv⟩ Tryz.func109 g32 (by kernel_rfl) fun x=>by kernel_rfl
def g33:Sig:=⟨⟨bu 0 [.int .i64],[],[]⟩,.one (.bool),[],[],false,false,[],[]⟩
theorem o33:OK 110 (g33.sem fD):=tk (E:=Tr.lf) (A:=AN) tv Tryz.func110 g33 (by kernel_rfl) fun x=>by kernel_rfl
def g34:Sig:=⟨⟨bu 0 [.el .ins],[],[]⟩,.one (.bool),[],[],false,false,[],[]⟩
def E34:Tr Sem1:=(.nd 107 (g30.sem dM) (.nd 105 (g23.sem fN) (.nd 60 (g20.sem aA) .lf .lf) (.nd 106 (g29.sem dL) .lf .lf)) (.nd 109 (g32.sem dU) (.nd 108 (g31.sem ci) .lf .lf) (.nd 110 (g33.sem fD) .lf .lf)))
theorem o34:OK 51 (g34.sem bt):=tk (E:=E34) (A:=AN) ⟨o30,⟨o23,⟨o20,tv,tv⟩,⟨o29,tv,tv⟩⟩,⟨o32,⟨o31,tv,tv⟩,⟨o33,tv,tv⟩⟩⟩ Tryz.func51 g34 (by kernel_rfl) fun x=>by kernel_rfl
def g35:Sig:=⟨⟨bu 0 [.konst (.ptr 0 0)],[.var [.list .u,.int .i64,.int .i64]],[]⟩,.one (.el .ins),[.var [.list .u,.int .i64,.int .i64]],[(0,1,3)],false,false,[],[]⟩
def E35:Tr Sem1:=(.nd 145 (g13.sem bN) (.nd 87 (g2.sem ae) (.nd 60 (g20.sem aA) (.nd 51 (g34.sem bt) .lf .lf) .lf) (.nd 90 (g3.sem ak) (.nd 89 (g7.sem bB) .lf .lf) .lf)) (.nd 148 (g19.sem aU) (.nd 147 (g15.sem az) (.nd 146 (g16.sem aw) .lf .lf) .lf) (.nd 149 (g22.sem cr) .lf .lf)))
def A35:Anns:=⟨.lf,(.nd 161 ⟨[(0,(.konst (.ptr 0 0))),(2,(.konst (.ptr 1 0))),(3,(.konst (.ptr 2 0))),(4,(.int .i64))],[(B9),(B0),(B0)],[]⟩ (.nd 92 ⟨[(0,(.konst (.ptr 0 0))),(2,(.konst (.ptr 1 0))),(3,(.konst (.ptr 2 0))),(4,(.int .i64))],[(B9),(B0),(B0)],[]⟩ (.nd 41 ⟨[(0,(.konst (.ptr 0 0))),(2,(.konst (.ptr 1 0))),(3,(.konst (.ptr 2 0))),(4,(.int .i64))],[(B9),(B0),(B0)],[]⟩ (.nd 40 ⟨[(0,(.konst (.ptr 0 0))),(2,(.konst (.ptr 1 0))),(3,(.konst (.ptr 2 0))),(4,(.int .i64)),(20,.bool)],[(B9),(B0),(B0)],[]⟩ .lf .lf) (.nd 79 ⟨[(0,(.konst (.ptr 0 0))),(2,(.konst (.ptr 1 0))),(3,(.konst (.ptr 2 0))),(4,(.int .i64))],[(B9),(B0),(B0)],[]⟩ .lf .lf)) (.nd 144 ⟨[(0,(.konst (.ptr 0 0))),(2,(.konst (.ptr 1 0))),(3,(.konst (.ptr 2 0))),(4,(.int .i64))],[(B9),(B0),(B0)],[]⟩ (.nd 100 ⟨[(0,(.konst (.ptr 0 0))),(2,(.konst (.ptr 1 0))),(3,(.konst (.ptr 2 0))),(4,(.int .i64))],[(B9),(B0),(B0)],[]⟩ .lf .lf) .lf)) (.nd 225 ⟨[(0,(.konst (.ptr 0 0))),(2,(.konst (.ptr 1 0))),(3,(.konst (.ptr 2 0))),(4,(.int .i64))],[(B9),(B0),(B0)],[]⟩ (.nd 189 ⟨[(0,(.konst (.ptr 0 0))),(2,(.konst (.ptr 1 0))),(3,(.konst (.ptr 2 0))),(4,(.int .i64))],[(B9),(B0),(B0)],[]⟩ (.nd 188 ⟨[(0,(.konst (.ptr 0 0))),(2,(.konst (.ptr 1 0))),(3,(.konst (.ptr 2 0))),(4,(.int .i64)),(94,.bool)],[(B9),(B0),(B0)],[]⟩ .lf .lf) .lf) (.nd 270 ⟨[(0,(.konst (.ptr 0 0))),(2,(.konst (.ptr 1 0))),(3,(.konst (.ptr 2 0))),(4,(.int .i64))],[(B9),(B0),(B0)],[]⟩ (.nd 243 ⟨[(0,(.konst (.ptr 0 0))),(2,(.konst (.ptr 1 0))),(3,(.konst (.ptr 2 0))),(4,(.int .i64))],[(B9),(B0),(B0)],[]⟩ .lf .lf) .lf))),[]⟩
theorem o35:OK 92 (g35.sem cq):=tk (E:=E35) (A:=A35) ⟨o13,⟨o2,⟨o20,⟨o34,tv,tv⟩,tv⟩,⟨o3,⟨o7,tv,tv⟩,tv⟩⟩,⟨o19,⟨o15,⟨o16,tv,tv⟩,tv⟩,⟨o22,tv,tv⟩⟩⟩ Tryz.func92 g35 (by kernel_rfl) fun x=>by kernel_rfl
def g36:Sig:=⟨⟨bu 0 [.konst (.ptr 0 0)],[.var [.list .u,.int .i64,.int .i64]],[]⟩,.one (.el .ins),[.var [.list .u,.int .i64,.int .i64]],[(0,1,3)],false,false,[],[]⟩
def E36:Tr Sem1:=(.nd 90 (g3.sem ak) (.nd 87 (g2.sem ae) .lf .lf) (.nd 92 (g35.sem cq) .lf .lf))
def A36:Anns:=⟨.lf,(.nd 26 ⟨[(0,(.konst (.ptr 0 0))),(2,(.konst (.ptr 1 0))),(3,(.konst (.ptr 2 0)))],[(B9),(B0),(B0)],[]⟩ .lf .lf),[]⟩
theorem o36:OK 48 (g36.sem bZ):=tk (E:=E36) (A:=A36) ⟨o3,⟨o2,tv,tv⟩,⟨o35,tv,tv⟩⟩ Tryz.func48 g36 (by kernel_rfl) fun x=>by kernel_rfl
def g37:Sig:=⟨⟨bu 0 [.list .u],[],[]⟩,.one (.el .ins),[],[],false,false,[],[]⟩
def E37:Tr Sem1:=(.nd 48 (g36.sem bZ) (.nd 45 (g0.sem bE) .lf .lf) .lf)
theorem o37:OK 11 (g37.sem cz):=tk (E:=E37) (A:=AN) ⟨o36,⟨o0,tv,tv⟩,tv⟩ Tryz.func11 g37 (by kernel_rfl) fun x=>by kernel_rfl
def g38:Sig:=⟨⟨bu 0 [.list .u,.int .i64,.int .i64],[],[]⟩,.one (.int .i64),[],[],false,false,[],[]⟩
theorem o38:OK 12 (g38.sem jc):=tk (E:=Tr.lf) (A:=AN) tv Tryz.func12 g38 (by kernel_rfl) fun x=>by kernel_rfl
def g39:Sig:=⟨⟨bu 0 [.int .i64,.int .i64,.int .i64],[],[]⟩,.one (.bool),[],[],false,false,[],[]⟩
theorem o39:OK 58 (g39.sem ar):=tk (E:=Tr.lf) (A:=AN) tv Tryz.func58 g39 (by kernel_rfl) fun x=>by kernel_rfl
def g40:Sig:=⟨⟨bu 0 [.int .i64],[],[]⟩,.one (.bool),[],[],false,false,[],[]⟩
def E40:Tr Sem1:=(.nd 58 (g39.sem ar) .lf .lf)
theorem o40:OK 93 (g40.sem eF):=tk (E:=E40) (A:=AN) ⟨o39,tv,tv⟩ Tryz.func93 g40 (by kernel_rfl) fun x=>by kernel_rfl
def g41:Sig:=⟨⟨bu 0 [.int .i64],[],[]⟩,.one (.bool),[],[],false,false,[],[]⟩
theorem o41:OK 94 (g41.sem ef):=tk (E:=Tr.lf) (A:=AN) tv Tryz.func94 g41 (by kernel_rfl) fun x=>by kernel_rfl
def g42:Sig:=⟨⟨bu 0 [.int .i64],[],[]⟩,.one (.bool),[],[],false,false,[],[]⟩
def E42:Tr Sem1:=(.nd 58 (g39.sem ar) .lf .lf)
theorem o42:OK 102 (g42.sem aW):=tk (E:=E42) (A:=AN) ⟨o39,tv,tv⟩ Tryz.func102 g42 (by kernel_rfl) fun x=>by kernel_rfl
def g43:Sig:=⟨⟨bu 0 [.int .i64],[],[]⟩,.tup [.list .i,.str],[],[],false,false,[],[]⟩
def E43:Tr Sem1:=(.nd 102 (g42.sem aW) (.nd 58 (g39.sem ar) .lf .lf) .lf)
def A43:Anns:=⟨.lf,(.nd 98 ⟨[(5,(.konst (.vec 0))),(6,(.konst (.vec 1))),(7,(.konst (.vec 2))),(24,(.int .i64)),(49,.bool)],[(.row .i),(.row .i),(.row .i)],[]⟩ (.nd 68 ⟨[(4,(.konst (.vec 0))),(5,(.konst (.vec 1))),(6,(.konst (.vec 2))),(7,(.konst (.vec 3))),(24,(.int .i64)),(34,.bool)],[(.row .i),(.row .i),(.row .i),(.row .i)],[]⟩ (.nd 56 ⟨[(4,(.konst (.vec 0))),(5,(.konst (.vec 1))),(6,(.konst (.vec 2))),(7,(.konst (.vec 3))),(24,(.int .i64)),(28,.bool)],[(.row .i),(.row .i),(.row .i),(.row .i)],[]⟩ .lf .lf) (.nd 80 ⟨[(5,(.konst (.vec 0))),(6,(.konst (.vec 1))),(7,(.konst (.vec 2))),(24,(.int .i64)),(40,.bool)],[(.row .i),(.row .i),(.row .i)],[]⟩ .lf .lf)) (.nd 128 ⟨[(5,(.konst (.vec 0))),(7,(.konst (.vec 1))),(24,(.int .i64)),(64,.bool)],[(.row .i),(.row .i)],[]⟩ (.nd 114 ⟨[(5,(.konst (.vec 0))),(7,(.konst (.vec 1))),(24,(.int .i64)),(57,.bool)],[(.row .i),(.row .i)],[]⟩ .lf .lf) (.nd 136 ⟨[(7,(.konst (.vec 0))),(68,.bool)],[(.row .i)],[]⟩ .lf .lf))),[]⟩
theorem o43:OK 95 (g43.sem cH):=tk (E:=E43) (A:=A43) ⟨o42,⟨o39,tv,tv⟩,tv⟩ Tryz.func95 g43 (by kernel_rfl) fun x=>by kernel_rfl
def g44:Sig:=⟨⟨bu 0 [V7],[],[]⟩,.one (.str),[],[],false,false,[],[]⟩
theorem o44:OK 96 (g44.sem bJ):=tk (E:=Tr.lf) (A:=AN) tv Tryz.func96 g44 (by kernel_rfl) fun x=>by kernel_rfl
def g45:Sig:=⟨⟨bu 0 [.el .ins],[],[]⟩,.one (.bool),[],[],false,false,[],[]⟩
theorem o45:OK 97 (g45.sem eQ):=tk (E:=Tr.lf) (A:=AN) tv Tryz.func97 g45 (by kernel_rfl) fun x=>by kernel_rfl
theorem o46:OK 98 tJ:=has_ok Tryz.func98 (by kernel_rfl) (by kernel_rfl) (gm:=0) (by simp[Ly]) (fun s p m w h1 h2=>Tryz.strings_Contains s p m w h1 h2)
def g47:Sig:=⟨⟨bu 0 [.int .i64],[],[]⟩,.one (.bool),[],[],false,false,[],[]⟩
theorem o47:OK 151 (g47.sem cB):=tk (E:=Tr.lf) (A:=AN) tv Tryz.func151 g47 (by kernel_rfl) fun x=>by kernel_rfl
def g48:Sig:=⟨⟨bu 0 [.int .i64],[],[]⟩,.one (V7),[],[],false,false,[],[]⟩
theorem o48:OK 152 (g48.sem gR):=tk (E:=Tr.lf) (A:=AN) tv Tryz.func152 g48 (by kernel_rfl) fun x=>by kernel_rfl
def g49:Sig:=⟨⟨bu 0 [.int .i64],[],[]⟩,.one (.bool),[],[],false,false,[],[]⟩
def E49:Tr Sem1:=(.nd 58 (g39.sem ar) .lf .lf)
theorem o49:OK 156 (g49.sem ap):=tk (E:=E49) (A:=AN) ⟨o39,tv,tv⟩ Tryz.func156 g49 (by kernel_rfl) fun x=>by kernel_rfl
def g50:Sig:=⟨⟨bu 0 [.int .i64,.int .i64],[],[]⟩,.one (.bool),[],[],false,false,[],[]⟩
def E50:Tr Sem1:=(.nd 151 (g47.sem cB) (.nd 58 (g39.sem ar) .lf .lf) (.nd 156 (g49.sem ap) .lf .lf))
theorem o50:OK 153 (g50.sem fK):=tk (E:=E50) (A:=AN) ⟨o47,⟨o39,tv,tv⟩,⟨o49,tv,tv⟩⟩ Tryz.func153 g50 (by kernel_rfl) fun x=>by kernel_rfl
def g51:Sig:=⟨⟨bu 0 [.int .i64,.int .i64],[],[]⟩,.one (.int .i64),[],[],false,false,[],[]⟩
theorem o51:OK 165 (g51.sem ba):=tk (E:=Tr.lf) (A:=AN) tv Tryz.func165 g51 (by kernel_rfl) fun x=>by kernel_rfl
def g52:Sig:=⟨⟨bu 0 [.int .i64,.int .i64],[],[]⟩,.one (.bool),[],[],false,false,[],[]⟩
def E52:Tr Sem1:=(.nd 165 (g51.sem ba) .lf .lf)
theorem o52:OK 118 (g52.sem cm):=tk (E:=E52) (A:=AN) ⟨o51,tv,tv⟩ Tryz.func118 g52 (by kernel_rfl) fun x=>by kernel_rfl
def g53:Sig:=⟨⟨bu 0 [V7],[],[]⟩,.one (.bool),[],[],false,false,[],[]⟩
def E53:Tr Sem1:=(.nd 118 (g52.sem cm) (.nd 58 (g39.sem ar) .lf .lf) .lf)
theorem o53:OK 56 (g53.sem bo):=tk (E:=E53) (A:=AN) ⟨o52,⟨o39,tv,tv⟩,tv⟩ Tryz.func56 g53 (by kernel_rfl) fun x=>by kernel_rfl
def g54:Sig:=⟨⟨bu 0 [.int .i64],[],[]⟩,.one (V7),[],[],false,false,[],[]⟩
theorem o54:OK 154 (g54.sem gQ):=tk (E:=Tr.lf) (A:=AN) tv Tryz.func154 g54 (by kernel_rfl) fun x=>by kernel_rfl
def g55:Sig:=⟨⟨bu 0 [V7,.int .i64],[],[]⟩,.one (.bool),[],[],false,false,[],[]⟩
def E55:Tr Sem1:=(.nd 152 (g48.sem gR) (.nd 151 (g47.sem cB) (.nd 56 (g53.sem bo) .lf .lf) .lf) (.nd 154 (g54.sem gQ) (.nd 153 (g50.sem fK) .lf .lf) .lf))
theorem o55:OK 99 (g55.sem cb):=tk (E:=E55) (A:=AN) ⟨o48,⟨o47,⟨o53,tv,tv⟩,tv⟩,⟨o54,⟨o50,tv,tv⟩,tv⟩⟩ Tryz.func99 g55 (by kernel_rfl) fun x=>by kernel_rfl
def g56:Sig:=⟨⟨bu 0 [.el .ins],[],[]⟩,.one (.int .i64),[],[],false,false,[],[]⟩
def E56:Tr Sem1:=(.nd 102 (g42.sem aW) .lf .lf)
theorem o56:OK 100 (g56.sem bD):=tk (E:=E56) (A:=AN) ⟨o42,tv,tv⟩ Tryz.func100 g56 (by kernel_rfl) fun x=>by kernel_rfl
def g57:Sig:=⟨⟨bu 0 [.int .i64],[],[]⟩,.one (.bool),[],[],false,false,[],[]⟩
def E57:Tr Sem1:=(.nd 58 (g39.sem ar) .lf .lf)
theorem o57:OK 155 (g57.sem gh):=tk (E:=E57) (A:=AN) ⟨o39,tv,tv⟩ Tryz.func155 g57 (by kernel_rfl) fun x=>by kernel_rfl
def g58:Sig:=⟨⟨bu 0 [.el .ins],[],[]⟩,.one (.bool),[],[],false,false,[],[]⟩
def E58:Tr Sem1:=(.nd 118 (g52.sem cm) (.nd 102 (g42.sem aW) .lf .lf) (.nd 155 (g57.sem gh) .lf .lf))
theorem o58:OK 101 (g58.sem dG):=tk (E:=E58) (A:=AN) ⟨o52,⟨o42,tv,tv⟩,⟨o57,tv,tv⟩⟩ Tryz.func101 g58 (by kernel_rfl) fun x=>by kernel_rfl
def g59:Sig:=⟨⟨bu 0 [V7],[],[]⟩,.one (.bool),[],[],false,false,[],[]⟩
def E59:Tr Sem1:=(.nd 156 (g49.sem ap) .lf .lf)
theorem o59:OK 103 (g59.sem dx):=tk (E:=E59) (A:=AN) ⟨o49,tv,tv⟩ Tryz.func103 g59 (by kernel_rfl) fun x=>by kernel_rfl
def g60:Sig:=⟨⟨bu 0 [.int .i64],[],[]⟩,.tup [.int .i64,.bool],[],[],false,false,[],[]⟩
def A60:Anns:=⟨.lf,(.nd 20 ⟨[(10,.bool)],[],[]⟩ (.nd 10 ⟨[(4,(.int .i64)),(5,.bool)],[],[]⟩ .lf .lf) .lf),[]⟩
theorem o60:OK 225 (g60.sem dp):=tk (E:=Tr.lf) (A:=A60) tv Tryz.func225 g60 (by kernel_rfl) fun x=>by kernel_rfl
def g61:Sig:=⟨⟨bu 0 [.el .ins],[],[]⟩,.one (.bool),[],[],false,false,[],[]⟩
def E61:Tr Sem1:=(.nd 225 (g60.sem dp) .lf .lf)
theorem o61:OK 157 (g61.sem eR):=tk (E:=E61) (A:=AN) ⟨o60,tv,tv⟩ Tryz.func157 g61 (by kernel_rfl) fun x=>by kernel_rfl
def g62:Sig:=⟨⟨bu 0 [.int .i64],[],[]⟩,.one (.bool),[],[],false,false,[],[]⟩
def E62:Tr Sem1:=(.nd 58 (g39.sem ar) .lf .lf)
theorem o62:OK 226 (g62.sem cy):=tk (E:=E62) (A:=AN) ⟨o39,tv,tv⟩ Tryz.func226 g62 (by kernel_rfl) fun x=>by kernel_rfl
def g63:Sig:=⟨⟨bu 0 [V7,.int .i64],[],[]⟩,.one (.bool),[],[],false,false,[],[]⟩
def E63:Tr Sem1:=(.nd 58 (g39.sem ar) .lf .lf)
theorem o63:OK 227 (g63.sem ej):=tk (E:=E63) (A:=AN) ⟨o39,tv,tv⟩ Tryz.func227 g63 (by kernel_rfl) fun x=>by kernel_rfl
def g64:Sig:=⟨⟨bu 0 [V7,.int .i64],[],[]⟩,.one (.bool),[],[],false,false,[],[]⟩
def E64:Tr Sem1:=(.nd 227 (g63.sem ej) (.nd 226 (g62.sem cy) .lf .lf) .lf)
theorem o64:OK 158 (g64.sem dw):=tk (E:=E64) (A:=AN) ⟨o63,⟨o62,tv,tv⟩,tv⟩ Tryz.func158 g64 (by kernel_rfl) fun x=>by kernel_rfl
def g65:Sig:=⟨⟨bu 0 [.el .ins],[],[]⟩,.one (.bool),[],[],false,false,[],[]⟩
def E65:Tr Sem1:=(.nd 157 (g61.sem eR) (.nd 100 (g56.sem bD) .lf .lf) (.nd 158 (g64.sem dw) .lf .lf))
theorem o65:OK 104 (g65.sem dH):=tk (E:=E65) (A:=AN) ⟨o61,⟨o56,tv,tv⟩,⟨o64,tv,tv⟩⟩ Tryz.func104 g65 (by kernel_rfl) fun x=>by kernel_rfl
def g66:Sig:=⟨⟨bu 0 [.el .ins],[],[]⟩,.one (.bool),[],[],false,false,[],[]⟩
def E66:Tr Sem1:=(.nd 98 tJ (.nd 95 (g43.sem cH) (.nd 93 (g40.sem eF) (.nd 58 (g39.sem ar) .lf .lf) (.nd 94 (g41.sem ef) .lf .lf)) (.nd 97 (g45.sem eQ) (.nd 96 (g44.sem bJ) .lf .lf) .lf)) (.nd 102 (g42.sem aW) (.nd 100 (g56.sem bD) (.nd 99 (g55.sem cb) .lf .lf) (.nd 101 (g58.sem dG) .lf .lf)) (.nd 104 (g65.sem dH) (.nd 103 (g59.sem dx) .lf .lf) .lf)))
def A66:Anns:=⟨(.nd 0 (.loop ⟨[(1,(.konst (.ptr 0 0))),(4,.str),(5,.bool),(42,(.list .i)),(43,(.int .i64)),(44,(.int .i64))],[(B0)],[]⟩) .lf .lf),.lf,[]⟩
theorem o66:OK 49 (g66.sem aV):=tk (E:=E66) (A:=A66) ⟨o46,⟨o43,⟨o40,⟨o39,tv,tv⟩,⟨o41,tv,tv⟩⟩,⟨o45,⟨o44,tv,tv⟩,tv⟩⟩,⟨o42,⟨o56,⟨o55,tv,tv⟩,⟨o58,tv,tv⟩⟩,⟨o65,⟨o59,tv,tv⟩,tv⟩⟩⟩ Tryz.func49 g66 (by kernel_rfl) fun x=>by kernel_rfl
def g67:Sig:=⟨⟨bu 0 [.el .ins],[],[]⟩,.tup [V7,.bool],[],[],false,false,[],[]⟩
theorem o67:OK 50 (g67.sem eU):=tk (E:=Tr.lf) (A:=AN) tv Tryz.func50 g67 (by kernel_rfl) fun x=>by kernel_rfl
def g68:Sig:=⟨⟨bu 0 [.el .ins],[],[]⟩,.tup [V7,.bool,.int .i64],[],[],false,false,[],[]⟩
def E68:Tr Sem1:=(.nd 50 (g67.sem eU) (.nd 49 (g66.sem aV) .lf .lf) .lf)
theorem o68:OK 13 (g68.sem dF):=tk (E:=E68) (A:=AN) ⟨o67,⟨o66,tv,tv⟩,tv⟩ Tryz.func13 g68 (by kernel_rfl) fun x=>by kernel_rfl
def g69:Sig:=⟨⟨bu 0 [.el .ins],[],[]⟩,.tup [V7,.bool],[],[],false,false,[],[]⟩
theorem o69:OK 52 (g69.sem eu):=tk (E:=Tr.lf) (A:=AN) tv Tryz.func52 g69 (by kernel_rfl) fun x=>by kernel_rfl
def g70:Sig:=⟨⟨bu 0 [.el .ins],[],[]⟩,.tup [V7,.bool,.int .i64],[],[],false,false,[],[]⟩
def E70:Tr Sem1:=(.nd 52 (g69.sem eu) (.nd 51 (g34.sem bt) .lf .lf) .lf)
theorem o70:OK 14 (g70.sem dK):=tk (E:=E70) (A:=AN) ⟨o69,⟨o34,tv,tv⟩,tv⟩ Tryz.func14 g70 (by kernel_rfl) fun x=>by kernel_rfl
def g71:Sig:=⟨⟨bu 0 [.int .i64],[],[]⟩,.one (.bool),[],[],false,false,[],[]⟩
theorem o71:OK 111 (g71.sem eO):=tk (E:=Tr.lf) (A:=AN) tv Tryz.func111 g71 (by kernel_rfl) fun x=>by kernel_rfl
def g72:Sig:=⟨⟨bu 0 [.agg [.arr .i 16,.int .i64,.int .i64]],[],[]⟩,.one (.bool),[],[],false,false,[],[]⟩
def E72:Tr Sem1:=(.nd 111 (g71.sem eO) .lf .lf)
theorem o72:OK 53 (g72.sem dD):=tk (E:=E72) (A:=AN) ⟨o71,tv,tv⟩ Tryz.func53 g72 (by kernel_rfl) fun x=>by kernel_rfl
def g73:Sig:=⟨⟨bu 0 [.int .i64],[],[]⟩,.one (.bool),[],[],false,false,[],[]⟩
def E73:Tr Sem1:=(.nd 58 (g39.sem ar) .lf .lf)
theorem o73:OK 112 (g73.sem gg):=tk (E:=E73) (A:=AN) ⟨o39,tv,tv⟩ Tryz.func112 g73 (by kernel_rfl) fun x=>by kernel_rfl
def g74:Sig:=⟨⟨bu 0 [.int .i64],[],[]⟩,.one (.bool),[],[],false,false,[],[]⟩
def E74:Tr Sem1:=(.nd 58 (g39.sem ar) .lf .lf)
theorem o74:OK 113 (g74.sem gi):=tk (E:=E74) (A:=AN) ⟨o39,tv,tv⟩ Tryz.func113 g74 (by kernel_rfl) fun x=>by kernel_rfl
def g75:Sig:=⟨⟨bu 0 [.agg [.list .page]],[],[]⟩,.one (.bool),[],[],false,false,[],[]⟩
def E75:Tr Sem1:=(.nd 113 (g74.sem gi) (.nd 112 (g73.sem gg) .lf .lf) .lf)
def A75:Anns:=⟨(.nd 0 (.loop ⟨[(1,(.konst (.ptr 0 0))),(6,(.list .page)),(7,(.int .i64)),(8,(.int .i64))],[(.var [(.list .page)])],[]⟩) .lf .lf),.lf,[]⟩
theorem o75:OK 54 (g75.sem dE):=tk (E:=E75) (A:=A75) ⟨o74,⟨o73,tv,tv⟩,tv⟩ Tryz.func54 g75 (by kernel_rfl) fun x=>by kernel_rfl
def g76:Sig:=⟨⟨bu 0 [.list .page],[],[]⟩,.one (.konst (.vec 0)),[.row .page],[],false,true,[(2,0,.page)],[]⟩
theorem o76:OK 136 (g76.sem ce):=tk (E:=Tr.lf) (A:=AN) tv Tryz.func136 g76 (by kernel_rfl) fun x=>by kernel_rfl
def g77:Sig:=⟨⟨bu 0 [.agg [.list .page]],[],[]⟩,.one (.agg [.konst (.vec 0)]),[.row .page],[],false,true,[(2,1,.page)],[]⟩
def E77:Tr Sem1:=(.nd 136 (g76.sem ce) .lf .lf)
theorem o77:OK 82 (g77.sem bi):=tk (E:=E77) (A:=AN) ⟨o76,tv,tv⟩ Tryz.func82 g77 (by kernel_rfl) fun x=>by kernel_rfl
def g78:Sig:=⟨⟨bu 0 [.int .i64,.int .i64],[],[]⟩,.one (.int .i64),[],[],false,false,[],[]⟩
theorem o78:OK 183 (g78.sem aa):=tk (E:=Tr.lf) (A:=AN) tv Tryz.func183 g78 (by kernel_rfl) fun x=>by kernel_rfl
def E79:Tr Sem1:=(.nd 183 (g78.sem aa) (.nd 156 (g49.sem ap) .lf .lf) .lf)
def I79:Sem1:=wv E79 TT AN 1000000 Tryz.f169 false []
theorem o79:OK 169 I79:=in_ok ⟨tok,eqs,Tr.All.get (t:=E79) ⟨o78,⟨o49,tv,tv⟩,tv⟩,mix⟩ Tryz.func169 (by kernel_rfl) (by kernel_rfl) false []
def I80:Sem1:=wv Tr.lf TT AN 1000000 Tryz.f57 false []
theorem o80:OK 57 I80:=in_ok ⟨tok,eqs,Tr.All.get (t:=Tr.lf) tv,mix⟩ Tryz.func57 (by kernel_rfl) (by kernel_rfl) false []
def g81:Sig:=⟨⟨bu 0 [.el .page,.konst (.ptr 0 0)],[.var [.int .i64]],[]⟩,.one (.bool),[.var [.int .i64]],[],false,false,[],[]⟩
theorem o81:OK 324 (g81.sem cu):=tk (E:=Tr.lf) (A:=AN) tv Tryz.func324 g81 (by kernel_rfl) fun x=>by kernel_rfl
def g82:Sig:=⟨⟨bu 0 [.list .page,.konst (.func (.func 324) [] [.ptr 0 0])],[.var [.int .i64]],[]⟩,.one (.int .i64),[.var [.int .i64]],[],false,false,[],[]⟩
def E82:Tr Sem1:=(.nd 324 (g81.sem cu) .lf .lf)
def A82:Anns:=⟨(.nd 0 (.loop ⟨[(0,(.list .page)),(1,(.konst (.func (.func 324) [] [(.ptr 0 0)]))),(7,(.int .i64)),(8,(.int .i64))],[(.var [(.int .i64)])],[]⟩) .lf .lf),.lf,[]⟩
theorem o82:OK 323 (g82.sem aG):=tk (E:=E82) (A:=A82) ⟨o81,tv,tv⟩ Tryz.func323 g82 (by kernel_rfl) fun x=>by kernel_rfl
def g83:Sig:=⟨⟨bu 0 [.agg [.list .page],.int .i64],[],[]⟩,.one (.int .i64),[],[],false,false,[],[]⟩
def E83:Tr Sem1:=(.nd 323 (g82.sem aG) (.nd 58 (g39.sem ar) .lf .lf) .lf)
theorem o83:OK 272 (g83.sem aZ):=tk (E:=E83) (A:=AN) ⟨o82,⟨o39,tv,tv⟩,tv⟩ Tryz.func272 g83 (by kernel_rfl) fun x=>by kernel_rfl
def g84:Sig:=⟨⟨bu 0 [.agg [.list .page],.int .i64,.int .i64,.int .i64],[],[]⟩,.one (.int .i64),[],[],false,false,[],[]⟩
def E84:Tr Sem1:=(.nd 272 (g83.sem aZ) .lf .lf)
def A84:Anns:=⟨(.nd 0 (.loop ⟨[(1,(.int .i64)),(3,(.int .i64)),(4,(.konst (.ptr 0 0))),(11,(.int .i64)),(12,(.int .i64))],[(.var [(.list .page)])],[]⟩) .lf .lf),.lf,[]⟩
theorem o84:OK 210 (g84.sem bF):=tk (E:=E84) (A:=A84) ⟨o83,tv,tv⟩ Tryz.func210 g84 (by kernel_rfl) fun x=>by kernel_rfl
def g85:Sig:=⟨⟨bu 0 [.agg [.list .page],.int .i64,.int .i64],[],[]⟩,.one (.str),[],[],false,false,[],[]⟩
def E85:Tr Sem1:=(.nd 272 (g83.sem aZ) .lf .lf)
def A85:Anns:=⟨(.nd 0 (.loop ⟨[(1,(.int .i64)),(3,(.konst (.ptr 0 0))),(7,(.konst (.vec 1))),(12,(.int .i64)),(13,(.int .i64))],[(.var [(.list .page)]),(.row .u)],[]⟩) .lf .lf),.lf,[]⟩
theorem o85:OK 211 (g85.sem cl):=tk (E:=E85) (A:=A85) ⟨o83,tv,tv⟩ Tryz.func211 g85 (by kernel_rfl) fun x=>by kernel_rfl
def g86:Sig:=⟨⟨bu 0 [.str],[],[]⟩,.one (.int .i64),[],[],false,false,[],[]⟩
def A86:Anns:=⟨(.nd 0 (.loop ⟨[(0,.str),(3,(.int .i64)),(6,(.int .i64)),(7,(.int .i64))],[],[]⟩) .lf .lf),.lf,[]⟩
theorem o86:OK 298 (g86.sem gA):=tk (E:=Tr.lf) (A:=A86) tv Tryz.func298 g86 (by kernel_rfl) fun x=>by kernel_rfl
def g87:Sig:=⟨⟨bu 0 [.agg [.list .page],.int .i64,.int .i64],[],[]⟩,.tup [.int .i64,.int .i64],[],[],false,false,[],[]⟩
def E87:Tr Sem1:=(.nd 211 (g85.sem cl) (.nd 210 (g84.sem bF) .lf .lf) (.nd 298 (g86.sem gA) .lf .lf))
theorem o87:OK 237 (g87.sem cA):=tk (E:=E87) (A:=AN) ⟨o85,⟨o84,tv,tv⟩,⟨o86,tv,tv⟩⟩ Tryz.func237 g87 (by kernel_rfl) fun x=>by kernel_rfl
def g88:Sig:=⟨⟨bu 0 [.konst (.ptr 0 0),.int .i64,.int .i64],[B5,.row .page,.row .acc],[]⟩,.one (.int .i64),[B6,.konst .gone,.konst .gone,.row .page,.row .acc],[(1,0,big),(2,0,big),(0,3,4),(0,5,7)],false,false,[(0,4,.page),(0,6,.acc)],[1,2]⟩
def E88:Tr Sem1:=(.nd 237 (g87.sem cA) .lf .lf)
def A88:Anns:=⟨.lf,.lf,[(0,4,.page),(0,6,.acc)]⟩
theorem o88:OK 177 (g88.sem aC):=tk (E:=E88) (A:=A88) ⟨o87,tv,tv⟩ Tryz.func177 g88 (by kernel_rfl) fun x=>by kernel_rfl
def g89:Sig:=⟨⟨bu 0 [.konst (.ptr 0 0),V7,.int .i64],[B5,.row .page,.row .acc],[]⟩,.one (.int .i64),[B6,.konst .gone,.konst .gone,.row .page,.row .acc],[(1,0,big),(2,0,big),(0,3,4),(0,5,7)],false,false,[(0,4,.page),(0,6,.acc)],[1,2]⟩
def E89:Tr Sem1:=(.nd 169 I79 (.nd 156 (g49.sem ap) (.nd 57 I80 .lf .lf) .lf) (.nd 183 (g78.sem aa) (.nd 177 (g88.sem aC) .lf .lf) .lf))
def A89:Anns:=⟨.lf,.lf,[(0,4,.page),(0,6,.acc)]⟩
theorem o89:OK 164 (g89.sem an):=tk (E:=E89) (A:=A89) ⟨o79,⟨o49,⟨o80,tv,tv⟩,tv⟩,⟨o78,⟨o88,tv,tv⟩,tv⟩⟩ Tryz.func164 g89 (by kernel_rfl) fun x=>by kernel_rfl
def g90:Sig:=⟨⟨bu 0 [.int .i64,.int .i64],[],[]⟩,.one (.str),[],[],false,false,[],[]⟩
def A90:Anns:=⟨(.nd 0 (.loop ⟨[(0,(.int .i64)),(5,(.konst (.vec 0))),(10,(.int .i64)),(11,(.int .i64))],[(.row .u)],[]⟩) .lf .lf),.lf,[]⟩
theorem o90:OK 297 (g90.sem eT):=tk (E:=Tr.lf) (A:=A90) tv Tryz.func297 g90 (by kernel_rfl) fun x=>by kernel_rfl
def g91:Sig:=⟨⟨bu 0 [.agg [.list .page],.int .i64,.str],[],[]⟩,.one (.agg [.konst (.vec 0)]),[.row .page],[],false,true,[(6,1,.page)],[]⟩
def E91:Tr Sem1:=(.nd 272 (g83.sem aZ) (.nd 82 (g77.sem bi) .lf .lf) .lf)
def A91:Anns:=⟨(.nd 0 (.loop ⟨[(1,(.int .i64)),(2,.str),(3,(.konst (.ptr 0 0))),(6,(.konst (.ptr 1 0))),(7,(.konst (.ptr 2 0)))],[(.var [(.list .page)]),(.var [(.konst .nils)]),(.var [(.konst (.vec 3))]),(.row .page)],[]⟩) .lf .lf),.lf,[]⟩
theorem o91:OK 296 (g91.sem cS):=tk (E:=E91) (A:=A91) ⟨o83,⟨o77,tv,tv⟩,tv⟩ Tryz.func296 g91 (by kernel_rfl) fun x=>by kernel_rfl
def g92:Sig:=⟨⟨bu 0 [.agg [.list .page],.int .i64,.int .i64,.int .i64],[],[]⟩,.tup [.agg [.konst (.vec 0)],.int .i64],[.row .page],[],false,true,[(8,1,.page)],[]⟩
def E92:Tr Sem1:=(.nd 296 (g91.sem cS) (.nd 210 (g84.sem bF) (.nd 82 (g77.sem bi) .lf .lf) .lf) (.nd 297 (g90.sem eT) .lf .lf))
theorem o92:OK 236 (g92.sem bG):=tk (E:=E92) (A:=AN) ⟨o91,⟨o84,⟨o77,tv,tv⟩,tv⟩,⟨o90,tv,tv⟩⟩ Tryz.func236 g92 (by kernel_rfl) fun x=>by kernel_rfl
def g93:Sig:=⟨⟨bu 0 [.konst (.ptr 0 0),.int .i64,.int .i64,.int .i64],[B5,.row .page,.row .acc],[]⟩,.tup [],[B6,.konst .gone,.konst .gone,.row .page,.row .acc],[(1,0,big),(2,0,big),(0,3,4),(0,5,7)],false,false,[(0,4,.page),(0,6,.acc)],[1,2]⟩
def E93:Tr Sem1:=(.nd 236 (g92.sem bG) (.nd 183 (g78.sem aa) .lf .lf) .lf)
def A93:Anns:=⟨.lf,.lf,[(0,4,.page),(0,6,.acc)]⟩
theorem o93:OK 176 (g93.sem au):=tk (E:=E93) (A:=A93) ⟨o92,⟨o78,tv,tv⟩,tv⟩ Tryz.func176 g93 (by kernel_rfl) fun x=>by kernel_rfl
def E94:Tr Sem1:=(.nd 183 (g78.sem aa) (.nd 156 (g49.sem ap) .lf .lf) .lf)
def I94:Sem1:=wv E94 TT AN 1000000 Tryz.f168 false [(0,0,1)]
theorem o94:OK 168 I94:=in_ok ⟨tok,eqs,Tr.All.get (t:=E94) ⟨o78,⟨o49,tv,tv⟩,tv⟩,mix⟩ Tryz.func168 (by kernel_rfl) (by kernel_rfl) false [(0,0,1)]
def g95:Sig:=⟨⟨bu 0 [.konst (.ptr 0 0),V7,.int .i64,.int .i64],[B5,.row .page,.row .acc],[]⟩,.tup [],[B6,.konst .gone,.konst .gone,.row .page,.row .acc],[(1,0,big),(2,0,big),(0,0,1),(0,3,4),(0,5,7)],false,false,[(0,4,.page),(0,6,.acc)],[1,2]⟩
def E95:Tr Sem1:=(.nd 168 I94 (.nd 156 (g49.sem ap) (.nd 57 I80 .lf .lf) .lf) (.nd 183 (g78.sem aa) (.nd 176 (g93.sem au) .lf .lf) .lf))
def A95:Anns:=⟨.lf,.lf,[(0,4,.page),(0,6,.acc)]⟩
theorem o95:OK 163 (g95.sem aj):=tk (E:=E95) (A:=A95) ⟨o94,⟨o49,⟨o80,tv,tv⟩,tv⟩,⟨o78,⟨o93,tv,tv⟩,tv⟩⟩ Tryz.func163 g95 (by kernel_rfl) fun x=>by kernel_rfl
def g96:Sig:=⟨⟨bu 0 [.int .i64,.konst (.ptr 0 0)],[.var [.int .i64]],[]⟩,.one (.bool),[.var [.int .i64]],[],false,false,[],[]⟩
theorem o96:OK 229 (g96.sem bk):=tk (E:=Tr.lf) (A:=AN) tv Tryz.func229 g96 (by kernel_rfl) fun x=>by kernel_rfl
def g97:Sig:=⟨⟨bu 0 [.int .i64,.int .i64],[],[]⟩,.one (.bool),[],[],false,false,[],[]⟩
def E97:Tr Sem1:=(.nd 229 (g96.sem bk) .lf .lf)
theorem o97:OK 167 (g97.sem S_impl_holds):=tk (E:=E97) (A:=AN) ⟨o96,tv,tv⟩ Tryz.func167 g97 (by kernel_rfl) fun x=>by kernel_rfl
def g98:Sig:=⟨⟨bu 0 [.bool,.int .i64],[],[]⟩,.one (.int .i64),[],[],false,false,[],[]⟩
theorem o98:OK 166 (g98.sem aN):=tk (E:=Tr.lf) (A:=AN) tv Tryz.func166 g98 (by kernel_rfl) fun x=>by kernel_rfl
def g99:Sig:=⟨⟨bu 0 [.konst (.ptr 0 0),.el .ins],[B5,.row .page,.row .acc],[]⟩,.tup [],[B6,.konst .gone,.konst .gone,.row .page,.row .acc],[(1,0,big),(2,0,big),(0,0,1),(0,3,4),(0,5,7)],false,false,[(0,4,.page),(0,6,.acc)],[1,2]⟩
def E99:Tr Sem1:=(.nd 166 (g98.sem aN) (.nd 163 (g95.sem aj) (.nd 156 (g49.sem ap) (.nd 57 I80 .lf .lf) .lf) (.nd 165 (g51.sem ba) (.nd 164 (g89.sem an) .lf .lf) .lf)) (.nd 169 I79 (.nd 168 I94 (.nd 167 (g97.sem S_impl_holds) .lf .lf) .lf) (.nd 183 (g78.sem aa) .lf .lf)))
def A99:Anns:=⟨.lf,(.nd 262 ⟨[(0,(.konst (.ptr 0 0))),(3,(.konst (.ptr 5 0))),(6,(.int .i64))],[(B1),(.konst .gone),(.konst .gone),(.row .page),(.row .acc),(B0)],[]⟩ .lf .lf),[(0,4,.page),(0,6,.acc)]⟩
theorem o99:OK 114 (g99.sem aq):=tk (E:=E99) (A:=A99) ⟨o98,⟨o95,⟨o49,⟨o80,tv,tv⟩,tv⟩,⟨o51,⟨o89,tv,tv⟩,tv⟩⟩,⟨o79,⟨o94,⟨o97,tv,tv⟩,tv⟩,⟨o78,tv,tv⟩⟩⟩ Tryz.func114 g99 (by kernel_rfl) fun x=>by kernel_rfl
def g100:Sig:=⟨⟨bu 0 [.int .i64],[],[]⟩,.one (.int .i64),[],[],false,false,[],[]⟩
theorem o100:OK 170 (g100.sem fM):=tk (E:=Tr.lf) (A:=AN) tv Tryz.func170 g100 (by kernel_rfl) fun x=>by kernel_rfl
def g101:Sig:=⟨⟨bu 0 [.int .u64,.int .u64],[],[]⟩,.tup [.int .u64,.int .u64],[],[],false,false,[],[]⟩
theorem o101:OK 293 (g101.sem cV):=tk (E:=Tr.lf) (A:=AN) tv Tryz.func293 g101 (by kernel_rfl) fun x=>by kernel_rfl
def g102:Sig:=⟨⟨bu 0 [.int .i64,.int .i64],[],[]⟩,.tup [.int .i64,.int .i64],[],[],false,false,[],[]⟩
def E102:Tr Sem1:=(.nd 293 (g101.sem cV) .lf .lf)
theorem o102:OK 230 (g102.sem cG):=tk (E:=E102) (A:=AN) ⟨o101,tv,tv⟩ Tryz.func230 g102 (by kernel_rfl) fun x=>by kernel_rfl
def g103:Sig:=⟨⟨bu 0 [.int .i64,.int .i64],[],[]⟩,.one (.int .i64),[],[],false,false,[],[]⟩
def E103:Tr Sem1:=(.nd 230 (g102.sem cG) .lf .lf)
def A103:Anns:=⟨.lf,(.nd 28 ⟨[(0,(.int .i64)),(1,(.int .i64)),(5,(.int .i64))],[],[]⟩ .lf .lf),[]⟩
theorem o103:OK 231 (g103.sem cT):=tk (E:=E103) (A:=A103) ⟨o102,tv,tv⟩ Tryz.func231 g103 (by kernel_rfl) fun x=>by kernel_rfl
def g104:Sig:=⟨⟨bu 0 [.int .i64,.int .i64,.int .i64,.int .i64,.int .i64],[],[]⟩,.tup [.int .i64,.int .i64,.int .i64],[],[],false,false,[],[]⟩
def E104:Tr Sem1:=(.nd 183 (g78.sem aa) (.nd 166 (g98.sem aN) (.nd 165 (g51.sem ba) .lf .lf) .lf) (.nd 231 (g103.sem cT) (.nd 230 (g102.sem cG) .lf .lf) .lf))
def A104:Anns:=⟨.lf,(.nd 111 ⟨[(1,(.int .i64)),(4,(.int .i64)),(13,.bool),(16,(.int .i64)),(17,(.int .i64))],[],[]⟩ (.nd 85 ⟨[(1,(.int .i64)),(4,(.int .i64)),(13,.bool),(16,(.int .i64)),(17,(.int .i64))],[],[]⟩ (.nd 54 ⟨[(1,(.int .i64)),(4,(.int .i64)),(13,.bool),(14,(.int .i64)),(15,(.int .i64))],[],[]⟩ .lf .lf) .lf) (.nd 132 ⟨[(4,(.int .i64)),(16,(.int .i64)),(17,(.int .i64)),(18,.bool)],[],[]⟩ .lf .lf)),[]⟩
theorem o104:OK 171 (g104.sem cn):=tk (E:=E104) (A:=A104) ⟨o78,⟨o98,⟨o51,tv,tv⟩,tv⟩,⟨o103,⟨o102,tv,tv⟩,tv⟩⟩ Tryz.func171 g104 (by kernel_rfl) fun x=>by kernel_rfl
def g105:Sig:=⟨⟨bu 0 [.int .i64,.int .i64,.int .i64,.bool],[],[]⟩,.tup [.int .i64,.int .i64],[],[],false,false,[],[]⟩
def E105:Tr Sem1:=(.nd 183 (g78.sem aa) (.nd 165 (g51.sem ba) .lf .lf) .lf)
theorem o105:OK 232 (g105.sem eP):=tk (E:=E105) (A:=AN) ⟨o78,⟨o51,tv,tv⟩,tv⟩ Tryz.func232 g105 (by kernel_rfl) fun x=>by kernel_rfl
theorem o106:OK 294 rK:=zJ Tryz.func294 (by kernel_rfl) (by kernel_rfl) (by kernel_rfl) (by kernel_rfl)
def g107:Sig:=⟨⟨bu 0 [.int .i64,.int .i64],[],[]⟩,.tup [.int .i64,.int .i64],[],[],false,false,[],[]⟩
def E107:Tr Sem1:=(.nd 294 rK .lf .lf)
theorem o107:OK 233 (g107.sem dI):=tk (E:=E107) (A:=AN) ⟨o106,tv,tv⟩ Tryz.func233 g107 (by kernel_rfl) fun x=>by kernel_rfl
def g108:Sig:=⟨⟨bu 0 [.int .i64,.int .i64],[],[]⟩,.one (.bool),[],[],false,false,[],[]⟩
theorem o108:OK 235 (g108.sem cd):=tk (E:=Tr.lf) (A:=AN) tv Tryz.func235 g108 (by kernel_rfl) fun x=>by kernel_rfl
def g109:Sig:=⟨⟨bu 0 [.int .u64],[],[]⟩,.one (.int .i64),[],[],false,false,[],[]⟩
def A109:Anns:=⟨.lf,(.nd 16 ⟨[(0,(.int .u64)),(2,(.int .i64))],[],[]⟩ (.nd 8 ⟨[(0,(.int .u64)),(2,(.int .i64))],[],[]⟩ .lf .lf) (.nd 28 ⟨[(0,(.int .u64)),(2,(.int .i64))],[],[]⟩ .lf .lf)),[]⟩
theorem o109:OK 312 (g109.sem bx):=tk (E:=Tr.lf) (A:=A109) tv Tryz.func312 g109 (by kernel_rfl) fun x=>by kernel_rfl
def g110:Sig:=⟨⟨bu 0 [.int .u64],[],[]⟩,.one (.int .i64),[],[],false,false,[],[]⟩
def E110:Tr Sem1:=(.nd 312 (g109.sem bx) .lf .lf)
theorem o110:OK 330 (g110.sem bz):=tk (E:=E110) (A:=AN) ⟨o109,tv,tv⟩ Tryz.func330 g110 (by kernel_rfl) fun x=>by kernel_rfl
def g111:Sig:=⟨⟨bu 0 [.int .u64,.int .u64,.int .u64],[],[]⟩,.tup [.int .u64,.int .u64],[],[],false,false,[],[]⟩
def E111:Tr Sem1:=(.nd 330 (g110.sem bz) .lf .lf)
def A111:Anns:=⟨(.nd 2 (.loop ⟨[(2,(.int .u64)),(8,(.int .u64)),(9,(.int .u64)),(10,(.int .u64)),(14,(.int .u64)),(15,(.int .u64)),(16,(.int .u64)),(17,(.int .u64)),(18,(.int .u64))],[],[]⟩) (.nd 0 (.loop ⟨[(2,(.int .u64)),(8,(.int .u64)),(9,(.int .u64)),(10,(.int .u64)),(11,(.int .u64)),(13,(.int .u64)),(14,(.int .u64)),(15,(.int .u64)),(16,(.int .u64))],[],[]⟩) .lf .lf) .lf),(.nd 48 ⟨[(0,(.int .u64)),(1,(.int .u64)),(2,(.int .u64))],[],[]⟩ (.nd 40 ⟨[(0,(.int .u64)),(1,(.int .u64)),(2,(.int .u64))],[],[]⟩ .lf .lf) .lf),[]⟩
theorem o111:OK 295 (g111.sem cU):=tk (E:=E111) (A:=A111) ⟨o110,tv,tv⟩ Tryz.func295 g111 (by kernel_rfl) fun x=>by kernel_rfl
def g112:Sig:=⟨⟨bu 0 [.int .i64,.int .i64,.int .i64],[],[]⟩,.tup [.int .i64,.int .i64,.int .i64],[],[],false,false,[],[]⟩
def E112:Tr Sem1:=(.nd 295 (g111.sem cU) (.nd 235 (g108.sem cd) .lf .lf) .lf)
theorem o112:OK 234 (g112.sem cR):=tk (E:=E112) (A:=AN) ⟨o111,⟨o108,tv,tv⟩,tv⟩ Tryz.func234 g112 (by kernel_rfl) fun x=>by kernel_rfl
def g113:Sig:=⟨⟨bu 0 [.int .i64,.int .i64,.int .i64,.int .i64,.int .i64],[],[]⟩,.tup [.int .i64,.int .i64,.bool],[],[],false,false,[],[]⟩
def E113:Tr Sem1:=(.nd 233 (g107.sem dI) (.nd 183 (g78.sem aa) (.nd 165 (g51.sem ba) .lf .lf) (.nd 232 (g105.sem eP) .lf .lf)) (.nd 235 (g108.sem cd) (.nd 234 (g112.sem cR) .lf .lf) .lf))
def A113:Anns:=⟨.lf,(.nd 106 ⟨[(1,(.int .i64)),(2,(.int .i64)),(3,(.int .i64)),(4,(.int .i64)),(13,.bool),(14,.bool),(15,.bool)],[],[]⟩ (.nd 84 ⟨[(1,(.int .i64)),(2,(.int .i64)),(3,(.int .i64)),(4,(.int .i64)),(13,.bool),(14,.bool),(15,.bool)],[],[]⟩ (.nd 66 ⟨[(1,(.int .i64)),(2,(.int .i64)),(3,(.int .i64)),(4,(.int .i64)),(13,.bool)],[],[]⟩ .lf .lf) .lf) (.nd 190 ⟨[(1,(.int .i64)),(16,(.int .i64)),(17,(.int .i64))],[],[]⟩ (.nd 171 ⟨[(1,(.int .i64)),(14,.bool),(16,(.int .i64)),(17,(.int .i64))],[],[]⟩ .lf .lf) .lf)),[]⟩
theorem o113:OK 172 (g113.sem dS):=tk (E:=E113) (A:=A113) ⟨o107,⟨o78,⟨o51,tv,tv⟩,⟨o105,tv,tv⟩⟩,⟨o108,⟨o112,tv,tv⟩,tv⟩⟩ Tryz.func172 g113 (by kernel_rfl) fun x=>by kernel_rfl
def g114:Sig:=⟨⟨bu 0 [.konst (.ptr 0 0),.el .ins],[B5,.row .page,.row .acc],[]⟩,.tup [],[B6,.konst .gone,.konst .gone,.row .page,.row .acc],[(1,0,big),(2,0,big),(0,0,1),(0,2,3),(0,3,4),(0,5,7)],false,false,[(0,4,.page),(0,6,.acc)],[1,2]⟩
def E114:Tr Sem1:=(.nd 170 (g100.sem fM) (.nd 168 I94 (.nd 164 (g89.sem an) (.nd 156 (g49.sem ap) .lf .lf) .lf) (.nd 169 I79 .lf .lf)) (.nd 172 (g113.sem dS) (.nd 171 (g104.sem cn) .lf .lf) (.nd 183 (g78.sem aa) .lf .lf)))
def A114:Anns:=⟨.lf,(.nd 186 ⟨[(3,(.konst (.ptr 5 0))),(5,(.konst (.ptr 0 0))),(6,(.int .i64)),(10,(.int .i64)),(11,(.int .i64))],[(B1),(.konst .gone),(.konst .gone),(.row .page),(.row .acc),(B0)],[]⟩ .lf .lf),[(0,4,.page),(0,6,.acc)]⟩
theorem o114:OK 115 (g114.sem bR):=tk (E:=E114) (A:=A114) ⟨o100,⟨o94,⟨o89,⟨o49,tv,tv⟩,tv⟩,⟨o79,tv,tv⟩⟩,⟨o113,⟨o104,tv,tv⟩,⟨o78,tv,tv⟩⟩⟩ Tryz.func115 g114 (by kernel_rfl) fun x=>by kernel_rfl
def g115:Sig:=⟨⟨bu 0 [.konst (.ptr 0 0),.int .i64],[B5,.row .page,.row .acc],[]⟩,.tup [],[B6,.konst .gone,.konst .gone,.row .page,.row .acc],[(1,0,big),(2,0,big),(0,0,1),(0,3,4),(0,5,7)],false,false,[(0,4,.page),(0,6,.acc)],[1,2]⟩
def E115:Tr Sem1:=(.nd 176 (g93.sem au) .lf .lf)
def A115:Anns:=⟨.lf,.lf,[(0,4,.page),(0,6,.acc)]⟩
theorem o115:OK 173 (g115.sem bH):=tk (E:=E115) (A:=A115) ⟨o93,tv,tv⟩ Tryz.func173 g115 (by kernel_rfl) fun x=>by kernel_rfl
def g116:Sig:=⟨⟨bu 0 [.konst (.ptr 0 0)],[B5,.row .page,.row .acc],[]⟩,.one (.int .i64),[B6,.konst .gone,.konst .gone,.row .page,.row .acc],[(1,0,big),(2,0,big),(0,0,1),(0,3,4),(0,5,7)],false,false,[(0,4,.page),(0,6,.acc)],[1,2]⟩
def E116:Tr Sem1:=(.nd 177 (g88.sem aC) .lf .lf)
def A116:Anns:=⟨.lf,.lf,[(0,4,.page),(0,6,.acc)]⟩
theorem o116:OK 174 (g116.sem bM):=tk (E:=E116) (A:=A116) ⟨o88,tv,tv⟩ Tryz.func174 g116 (by kernel_rfl) fun x=>by kernel_rfl
def g117:Sig:=⟨⟨bu 0 [.konst (.ptr 0 0),.el .ins],[B5,.row .page,.row .acc],[]⟩,.one (.int .i64),[B6,.konst .gone,.konst .gone,.row .page,.row .acc],[(1,0,big),(2,0,big),(0,3,4),(0,5,7)],false,false,[(0,4,.page),(0,6,.acc)],[1,2]⟩
def E117:Tr Sem1:=(.nd 164 (g89.sem an) .lf .lf)
def A117:Anns:=⟨.lf,.lf,[(0,4,.page),(0,6,.acc)]⟩
theorem o117:OK 175 (g117.sem aY):=tk (E:=E117) (A:=A117) ⟨o89,tv,tv⟩ Tryz.func175 g117 (by kernel_rfl) fun x=>by kernel_rfl
def g118:Sig:=⟨⟨bu 0 [.konst (.ptr 0 0),.el .ins],[B5,.row .page,.row .acc],[]⟩,.tup [],[B6,.konst .gone,.konst .gone,.row .page,.row .acc],[(1,0,big),(2,0,big),(0,0,2),(0,3,4),(0,5,7)],false,false,[(0,4,.page),(0,6,.acc)],[1,2]⟩
def E118:Tr Sem1:=(.nd 174 (g116.sem bM) (.nd 167 (g97.sem S_impl_holds) (.nd 164 (g89.sem an) (.nd 163 (g95.sem aj) .lf .lf) .lf) (.nd 173 (g115.sem bH) .lf .lf)) (.nd 176 (g93.sem au) (.nd 175 (g117.sem aY) .lf .lf) (.nd 177 (g88.sem aC) .lf .lf)))
def A118:Anns:=⟨.lf,(.nd 276 ⟨[(0,(.konst (.ptr 0 0))),(138,.bool)],[(B1),(.konst .gone),(.konst .gone),(.row .page),(.row .acc)],[]⟩ .lf .lf),[(0,4,.page),(0,6,.acc)]⟩
theorem o118:OK 116 (g118.sem ah):=tk (E:=E118) (A:=A118) ⟨o116,⟨o97,⟨o89,⟨o95,tv,tv⟩,tv⟩,⟨o115,tv,tv⟩⟩,⟨o93,⟨o117,tv,tv⟩,⟨o88,tv,tv⟩⟩⟩ Tryz.func116 g118 (by kernel_rfl) fun x=>by kernel_rfl
def g119:Sig:=⟨⟨bu 0 [.int .i64],[],[]⟩,.one (.bool),[],[],false,false,[],[]⟩
def E119:Tr Sem1:=(.nd 58 (g39.sem ar) .lf .lf)
theorem o119:OK 178 (g119.sem fH):=tk (E:=E119) (A:=AN) ⟨o39,tv,tv⟩ Tryz.func178 g119 (by kernel_rfl) fun x=>by kernel_rfl
theorem o120:OK 299 th:=yh Tryz.func299 (by kernel_rfl) (by kernel_rfl) (by kernel_rfl) (by kernel_rfl)
def g121:Sig:=⟨⟨bu 0 [.int .i64,.int .i64],[],[]⟩,.one (.bool),[],[],false,false,[],[]⟩
theorem o121:OK 300 (g121.sem ch):=tk (E:=Tr.lf) (A:=AN) tv Tryz.func300 g121 (by kernel_rfl) fun x=>by kernel_rfl
def g122:Sig:=⟨⟨bu 0 [.int .u8],[],[]⟩,.one (.int .i64),[],[],false,false,[],[]⟩
theorem o122:OK 301 (g122.sem bQ):=tk (E:=Tr.lf) (A:=AN) tv Tryz.func301 g122 (by kernel_rfl) fun x=>by kernel_rfl
def g123:Sig:=⟨⟨bu 0 [.int .i64,.int .i64],[],[]⟩,.one (.int .i64),[],[],false,false,[],[]⟩
def E123:Tr Sem1:=(.nd 300 (g121.sem ch) (.nd 183 (g78.sem aa) (.nd 166 (g98.sem aN) .lf .lf) .lf) (.nd 301 (g122.sem bQ) .lf .lf))
theorem o123:OK 240 (g123.sem bw):=tk (E:=E123) (A:=AN) ⟨o121,⟨o78,⟨o98,tv,tv⟩,tv⟩,⟨o122,tv,tv⟩⟩ Tryz.func240 g123 (by kernel_rfl) fun x=>by kernel_rfl
def g124:Sig:=⟨⟨bu 0 [.int .i64,.int .i64,.int .i64,.int .i64],[],[]⟩,.tup [.int .i64,.int .i64],[],[],false,false,[],[]⟩
def E124:Tr Sem1:=(.nd 240 (g123.sem bw) (.nd 183 (g78.sem aa) (.nd 166 (g98.sem aN) .lf .lf) .lf) (.nd 300 (g121.sem ch) (.nd 299 th .lf .lf) .lf))
def A124:Anns:=⟨.lf,(.nd 54 ⟨[(0,(.int .i64)),(1,(.int .i64)),(2,(.int .i64)),(10,(.int .u64)),(12,.bool)],[],[]⟩ .lf .lf),[]⟩
theorem o124:OK 238 (g124.sem eK):=tk (E:=E124) (A:=A124) ⟨o123,⟨o78,⟨o98,tv,tv⟩,tv⟩,⟨o121,⟨o120,tv,tv⟩,tv⟩⟩ Tryz.func238 g124 (by kernel_rfl) fun x=>by kernel_rfl
def g125:Sig:=⟨⟨bu 0 [.int .i64,.int .i64,.int .i64,.int .i64],[],[]⟩,.tup [.int .i64,.int .i64],[],[],false,false,[],[]⟩
def E125:Tr Sem1:=(.nd 240 (g123.sem bw) (.nd 183 (g78.sem aa) (.nd 166 (g98.sem aN) .lf .lf) .lf) (.nd 300 (g121.sem ch) (.nd 294 rK .lf .lf) .lf))
theorem o125:OK 239 (g125.sem bj):=tk (E:=E125) (A:=AN) ⟨o123,⟨o78,⟨o98,tv,tv⟩,tv⟩,⟨o121,⟨o106,tv,tv⟩,tv⟩⟩ Tryz.func239 g125 (by kernel_rfl) fun x=>by kernel_rfl
def g126:Sig:=⟨⟨bu 0 [.int .i64,.int .i64,.int .i64,.int .i64,.int .i64],[],[]⟩,.tup [.int .i64,.int .i64],[],[],false,false,[],[]⟩
def E126:Tr Sem1:=(.nd 239 (g125.sem bj) (.nd 238 (g124.sem eK) (.nd 183 (g78.sem aa) .lf .lf) .lf) (.nd 240 (g123.sem bw) .lf .lf))
def A126:Anns:=⟨.lf,(.nd 157 ⟨[(1,(.int .i64)),(13,(.int .i64))],[],[]⟩ (.nd 147 ⟨[(1,(.int .i64)),(13,(.int .i64))],[],[]⟩ .lf .lf) .lf),[]⟩
theorem o126:OK 179 (g126.sem ij):=tk (E:=E126) (A:=A126) ⟨o125,⟨o124,⟨o78,tv,tv⟩,tv⟩,⟨o123,tv,tv⟩⟩ Tryz.func179 g126 (by kernel_rfl) fun x=>by kernel_rfl
def g127:Sig:=⟨⟨bu 0 [.int .i64],[],[]⟩,.one (.bool),[],[],false,false,[],[]⟩
theorem o127:OK 180 (g127.sem fJ):=tk (E:=Tr.lf) (A:=AN) tv Tryz.func180 g127 (by kernel_rfl) fun x=>by kernel_rfl
def g128:Sig:=⟨⟨bu 0 [.int .i64,.int .i64,.int .i64,.int .i64],[],[]⟩,.tup [.int .i64,.int .i64],[],[],false,false,[],[]⟩
def E128:Tr Sem1:=(.nd 238 (g124.sem eK) (.nd 183 (g78.sem aa) .lf .lf) (.nd 239 (g125.sem bj) .lf .lf))
def A128:Anns:=⟨.lf,(.nd 74 ⟨[(3,(.int .i64)),(10,(.int .i64)),(11,(.int .i64))],[],[]⟩ .lf .lf),[]⟩
theorem o128:OK 181 (g128.sem il):=tk (E:=E128) (A:=A128) ⟨o124,⟨o78,tv,tv⟩,⟨o125,tv,tv⟩⟩ Tryz.func181 g128 (by kernel_rfl) fun x=>by kernel_rfl
def g129:Sig:=⟨⟨bu 0 [.int .i64,.int .i64,.int .i64,.int .i64],[],[]⟩,.tup [.int .i64,.int .i64],[],[],false,false,[],[]⟩
def E129:Tr Sem1:=(.nd 240 (g123.sem bw) (.nd 183 (g78.sem aa) (.nd 166 (g98.sem aN) .lf .lf) .lf) (.nd 300 (g121.sem ch) .lf .lf))
def A129:Anns:=⟨.lf,(.nd 135 ⟨[(0,(.int .i64)),(1,(.int .i64)),(3,(.int .i64)),(13,(.int .i64)),(14,.bool),(15,.bool)],[],[]⟩ (.nd 97 ⟨[(0,(.int .i64)),(1,(.int .i64)),(3,(.int .i64)),(13,(.int .i64)),(14,.bool),(15,.bool)],[],[]⟩ (.nd 96 ⟨[(0,(.int .i64)),(1,(.int .i64)),(2,(.int .i64)),(3,(.int .i64)),(10,.bool),(11,.bool),(12,(.int .i64)),(14,.bool),(15,.bool),(28,(.int .i64)),(48,.bool)],[],[]⟩ .lf .lf) (.nd 112 ⟨[(0,(.int .i64)),(1,(.int .i64)),(3,(.int .i64)),(10,.bool),(13,(.int .i64))],[],[]⟩ .lf .lf)) (.nd 188 ⟨[(13,(.int .i64)),(14,.bool),(15,.bool),(16,(.int .i64))],[],[]⟩ (.nd 149 ⟨[(0,(.int .i64)),(1,(.int .i64)),(3,(.int .i64)),(13,(.int .i64)),(14,.bool),(15,.bool)],[],[]⟩ .lf .lf) .lf)),[]⟩
theorem o129:OK 241 (g129.sem dq):=tk (E:=E129) (A:=A129) ⟨o123,⟨o78,⟨o98,tv,tv⟩,tv⟩,⟨o121,tv,tv⟩⟩ Tryz.func241 g129 (by kernel_rfl) fun x=>by kernel_rfl
def g130:Sig:=⟨⟨bu 0 [.int .i64,.int .i64,.int .i64,.int .i64,.int .i64],[],[]⟩,.tup [.int .i64,.int .i64],[],[],false,false,[],[]⟩
def E130:Tr Sem1:=(.nd 183 (g78.sem aa) (.nd 166 (g98.sem aN) .lf .lf) (.nd 241 (g129.sem dq) .lf .lf))
def A130:Anns:=⟨(.nd 0 (.loop ⟨[(0,(.int .i64)),(1,(.int .i64)),(2,(.int .i64)),(4,(.int .i64)),(21,(.int .i64)),(22,(.int .i64))],[],[]⟩) .lf .lf),.lf,[]⟩
theorem o130:OK 182 (g130.sem fL):=tk (E:=E130) (A:=A130) ⟨o78,⟨o98,tv,tv⟩,⟨o129,tv,tv⟩⟩ Tryz.func182 g130 (by kernel_rfl) fun x=>by kernel_rfl
def g131:Sig:=⟨⟨bu 0 [.konst (.ptr 0 0),.el .ins],[B5,.row .page,.row .acc],[]⟩,.tup [],[B6,.konst .gone,.konst .gone,.row .page,.row .acc],[(1,0,big),(2,0,big),(0,0,1),(0,2,4),(0,5,7)],false,false,[(0,4,.page),(0,6,.acc)],[1,2]⟩
def E131:Tr Sem1:=(.nd 178 (g119.sem fH) (.nd 163 (g95.sem aj) (.nd 102 (g42.sem aW) (.nd 100 (g56.sem bD) .lf .lf) .lf) (.nd 171 (g104.sem cn) (.nd 164 (g89.sem an) .lf .lf) .lf)) (.nd 181 (g128.sem il) (.nd 180 (g127.sem fJ) (.nd 179 (g126.sem ij) .lf .lf) .lf) (.nd 183 (g78.sem aa) (.nd 182 (g130.sem fL) .lf .lf) .lf)))
def A131:Anns:=⟨.lf,(.nd 127 ⟨[(0,(.konst (.ptr 0 0))),(3,(.konst (.ptr 5 0))),(7,(.int .i64))],[(B1),(.konst .gone),(.konst .gone),(.row .page),(.row .acc),(B0)],[]⟩ (.nd 89 ⟨[(0,(.konst (.ptr 0 0))),(3,(.konst (.ptr 5 0))),(7,(.int .i64))],[(B1),(.konst .gone),(.konst .gone),(.row .page),(.row .acc),(B0)],[]⟩ (.nd 42 ⟨[(0,(.konst (.ptr 0 0))),(3,(.konst (.ptr 5 0))),(4,(.konst (.ptr 0 17))),(5,(.int .i64)),(6,(.int .i64))],[(B1),(.konst .gone),(.konst .gone),(.row .page),(.row .acc),(B0)],[]⟩ .lf .lf) .lf) (.nd 163 ⟨[(0,(.konst (.ptr 0 0))),(3,(.konst (.ptr 5 0))),(7,(.int .i64))],[(B1),(.konst .gone),(.konst .gone),(.row .page),(.row .acc),(B0)],[]⟩ .lf .lf)),[(0,4,.page),(0,6,.acc)]⟩
theorem o131:OK 117 (g131.sem bK):=tk (E:=E131) (A:=A131) ⟨o119,⟨o95,⟨o42,⟨o56,tv,tv⟩,tv⟩,⟨o104,⟨o89,tv,tv⟩,tv⟩⟩,⟨o128,⟨o127,⟨o126,tv,tv⟩,tv⟩,⟨o78,⟨o130,tv,tv⟩,tv⟩⟩⟩ Tryz.func117 g131 (by kernel_rfl) fun x=>by kernel_rfl
def g132:Sig:=⟨⟨bu 0 [.agg [.arr .i 16,.int .i64,.int .i64],.agg [.list .page],.el .ins],[],[]⟩,.tup [.agg [.arr .i 16,.int .i64,.int .i64],.agg [.konst (.vec 0)],.konst (.vec 1),.int .i64],[.row .page,.row .acc],[],false,true,[(7,1,.page),(8,0,.acc)],[]⟩
def E132:Tr Sem1:=(.nd 115 (g114.sem bR) (.nd 114 (g99.sem aq) (.nd 82 (g77.sem bi) .lf .lf) .lf) (.nd 117 (g131.sem bK) (.nd 116 (g118.sem ah) .lf .lf) .lf))
def A132:Anns:=⟨.lf,(.nd 95 ⟨[(3,(.konst (.ptr 0 0))),(4,(.konst (.ptr 1 0))),(6,(.konst (.ptr 2 0))),(7,(.konst (.ptr 3 0))),(10,(.konst (.ptr 4 0)))],[(B8),(.var [(.list .page)]),(B8),(.var [(.konst .nils)]),(B2),(.row .page),(.row .acc)],[]⟩ (.nd 69 ⟨[(3,(.konst (.ptr 0 0))),(4,(.konst (.ptr 1 0))),(6,(.konst (.ptr 2 0))),(7,(.konst (.ptr 3 0))),(10,(.konst (.ptr 4 0)))],[(B8),(.var [(.list .page)]),(B8),(.var [(.konst .nils)]),(B2),(.row .page),(.row .acc)],[]⟩ (.nd 68 ⟨[(3,(.konst (.ptr 0 0))),(4,(.konst (.ptr 1 0))),(5,(.konst (.ptr 2 0))),(6,(.konst (.ptr 3 0))),(7,(.konst (.ptr 4 0))),(10,(.konst (.ptr 5 0))),(30,(.int .i64)),(34,.bool)],[(B8),(.var [(.list .page)]),(B0),(B8),(.var [(.konst .nils)]),(B3),(.row .page),(.row .acc)],[]⟩ .lf .lf) (.nd 94 ⟨[(3,(.konst (.ptr 0 0))),(4,(.konst (.ptr 1 0))),(5,(.konst (.ptr 2 0))),(6,(.konst (.ptr 3 0))),(7,(.konst (.ptr 4 0))),(10,(.konst (.ptr 5 0))),(30,(.int .i64)),(47,.bool)],[(B8),(.var [(.list .page)]),(B0),(B8),(.var [(.konst .nils)]),(B3),(.row .page),(.row .acc)],[]⟩ .lf .lf)) (.nd 111 ⟨[(3,(.konst (.ptr 0 0))),(4,(.konst (.ptr 1 0))),(6,(.konst (.ptr 2 0))),(7,(.konst (.ptr 3 0))),(10,(.konst (.ptr 4 0)))],[(B8),(.var [(.list .page)]),(B8),(.var [(.konst .nils)]),(B2),(.row .page),(.row .acc)],[]⟩ (.nd 110 ⟨[(3,(.konst (.ptr 0 0))),(4,(.konst (.ptr 1 0))),(5,(.konst (.ptr 2 0))),(6,(.konst (.ptr 3 0))),(7,(.konst (.ptr 4 0))),(10,(.konst (.ptr 5 0))),(55,.bool)],[(B8),(.var [(.list .page)]),(B0),(B8),(.var [(.konst .nils)]),(B3),(.row .page),(.row .acc)],[]⟩ .lf .lf) .lf)),[(20,4,.page),(20,6,.acc)]⟩
theorem o132:OK 55 (g132.sem gz):=tk (E:=E132) (A:=A132) ⟨o114,⟨o99,⟨o77,tv,tv⟩,tv⟩,⟨o131,⟨o118,tv,tv⟩,tv⟩⟩ Tryz.func55 g132 (by kernel_rfl) fun x=>by kernel_rfl
def g133:Sig:=⟨⟨bu 0 [.agg [.arr .i 16,.int .i64,.int .i64],.agg [.list .page],.el .ins],[],[]⟩,.tup [.agg [.arr .i 16,.int .i64,.int .i64],.agg [.konst (.vec 0)],.konst (.vec 1),.int .i64],[.row .page,.row .acc],[],false,true,[(7,1,.page),(8,0,.acc)],[]⟩
def E133:Tr Sem1:=(.nd 54 (g75.sem dE) (.nd 53 (g72.sem dD) (.nd 49 (g66.sem aV) .lf .lf) .lf) (.nd 55 (g132.sem gz) .lf .lf))
theorem o133:OK 15 (g133.sem dl):=tk (E:=E133) (A:=AN) ⟨o75,⟨o72,⟨o66,tv,tv⟩,tv⟩,⟨o132,tv,tv⟩⟩ Tryz.func15 g133 (by kernel_rfl) fun x=>by kernel_rfl
def g134:Sig:=⟨⟨bu 0 [.int .i64,.int .i64],[],[]⟩,.one (.int .i64),[],[],false,false,[],[]⟩
theorem o134:OK 17 (g134.sem fu):=tk (E:=Tr.lf) (A:=AN) tv Tryz.func17 g134 (by kernel_rfl) fun x=>by kernel_rfl
def g135:Sig:=⟨⟨bu 0 [.agg [.arr .i 16,.int .i64,.int .i64],V7,.int .i64],[],[]⟩,.tup [.int .i64,.int .i64],[],[],false,false,[],[]⟩
def E135:Tr Sem1:=(.nd 56 (g53.sem bo) (.nd 53 (g72.sem dD) .lf .lf) (.nd 57 I80 .lf .lf))
theorem o135:OK 16 (g135.sem dj):=tk (E:=E135) (A:=AN) ⟨o53,⟨o72,tv,tv⟩,⟨o80,tv,tv⟩⟩ Tryz.func16 g135 (by kernel_rfl) fun x=>by kernel_rfl
def g136:Sig:=⟨⟨bu 0 [.int .i64],[],[]⟩,.tup [.int .i64,.int .i64],[],[],false,false,[],[]⟩
def E136:Tr Sem1:=(.nd 93 (g40.sem eF) .lf .lf)
def A136:Anns:=⟨.lf,(.nd 24 ⟨[(12,.bool)],[],[]⟩ (.nd 16 ⟨[(7,(.int .i64)),(8,.bool)],[],[]⟩ .lf .lf) .lf),[]⟩
theorem o136:OK 119 (g136.sem du):=tk (E:=E136) (A:=A136) ⟨o40,tv,tv⟩ Tryz.func119 g136 (by kernel_rfl) fun x=>by kernel_rfl
def g137:Sig:=⟨⟨bu 0 [.el .ins,.int .i64],[],[]⟩,.tup [.int .i64,.bool],[],[],false,false,[],[]⟩
def E137:Tr Sem1:=(.nd 119 (g136.sem du) .lf .lf)
theorem o137:OK 59 (g137.sem gf):=tk (E:=E137) (A:=AN) ⟨o136,tv,tv⟩ Tryz.func59 g137 (by kernel_rfl) fun x=>by kernel_rfl
def g138:Sig:=⟨⟨bu 0 [.el .ins,.int .i64],[],[]⟩,.tup [.int .i64,.bool,.int .i64],[],[],false,false,[],[]⟩
def E138:Tr Sem1:=(.nd 58 (g39.sem ar) (.nd 49 (g66.sem aV) .lf .lf) (.nd 59 (g137.sem gf) .lf .lf))
theorem o138:OK 18 (g138.sem eM):=tk (E:=E138) (A:=AN) ⟨o39,⟨o66,tv,tv⟩,⟨o137,tv,tv⟩⟩ Tryz.func18 g138 (by kernel_rfl) fun x=>by kernel_rfl
def g139:Sig:=⟨⟨bu 0 [.int .i64],[],[]⟩,.one (.int .i64),[],[],false,false,[],[]⟩
def A139:Anns:=⟨.lf,(.nd 16 ⟨[(8,.bool)],[],[]⟩ (.nd 8 ⟨[(3,(.int .i64)),(4,.bool)],[],[]⟩ .lf .lf) .lf),[]⟩
theorem o139:OK 184 (g139.sem eX):=tk (E:=Tr.lf) (A:=A139) tv Tryz.func184 g139 (by kernel_rfl) fun x=>by kernel_rfl
def g140:Sig:=⟨⟨bu 0 [.int .i64],[],[]⟩,.one (.bool),[],[],false,false,[],[]⟩
def E140:Tr Sem1:=(.nd 184 (g139.sem eX) .lf .lf)
theorem o140:OK 120 (g140.sem cK):=tk (E:=E140) (A:=AN) ⟨o139,tv,tv⟩ Tryz.func120 g140 (by kernel_rfl) fun x=>by kernel_rfl
def g141:Sig:=⟨⟨bu 0 [.el .ins,.int .i64],[],[]⟩,.tup [.int .i64,.bool],[],[],false,false,[],[]⟩
def E141:Tr Sem1:=(.nd 120 (g140.sem cK) .lf .lf)
theorem o141:OK 61 (g141.sem fE):=tk (E:=E141) (A:=AN) ⟨o140,tv,tv⟩ Tryz.func61 g141 (by kernel_rfl) fun x=>by kernel_rfl
def g142:Sig:=⟨⟨bu 0 [.el .ins,.int .i64],[],[]⟩,.tup [.int .i64,.bool,.int .i64],[],[],false,false,[],[]⟩
def E142:Tr Sem1:=(.nd 60 (g20.sem aA) (.nd 51 (g34.sem bt) .lf .lf) (.nd 61 (g141.sem fE) .lf .lf))
theorem o142:OK 19 (g142.sem eW):=tk (E:=E142) (A:=AN) ⟨o20,⟨o34,tv,tv⟩,⟨o141,tv,tv⟩⟩ Tryz.func19 g142 (by kernel_rfl) fun x=>by kernel_rfl
def g143:Sig:=⟨⟨bu 0 [.el .ins],[],[]⟩,.tup [V7,.bool],[],[],false,false,[],[]⟩
theorem o143:OK 62 (g143.sem eo):=tk (E:=Tr.lf) (A:=AN) tv Tryz.func62 g143 (by kernel_rfl) fun x=>by kernel_rfl
def g144:Sig:=⟨⟨bu 0 [.el .ins],[],[]⟩,.tup [V7,.bool,.int .i64],[],[],false,false,[],[]⟩
def E144:Tr Sem1:=(.nd 62 (g143.sem eo) (.nd 49 (g66.sem aV) .lf .lf) .lf)
theorem o144:OK 20 (g144.sem dm):=tk (E:=E144) (A:=AN) ⟨o143,⟨o66,tv,tv⟩,tv⟩ Tryz.func20 g144 (by kernel_rfl) fun x=>by kernel_rfl
def g145:Sig:=⟨⟨bu 0 [.el .ins],[],[]⟩,.tup [V7,.bool],[],[],false,false,[],[]⟩
def E145:Tr Sem1:=(.nd 120 (g140.sem cK) .lf .lf)
theorem o145:OK 63 (g145.sem dV):=tk (E:=E145) (A:=AN) ⟨o140,tv,tv⟩ Tryz.func63 g145 (by kernel_rfl) fun x=>by kernel_rfl
def g146:Sig:=⟨⟨bu 0 [.el .ins],[],[]⟩,.tup [V7,.bool,.int .i64],[],[],false,false,[],[]⟩
def E146:Tr Sem1:=(.nd 63 (g145.sem dV) (.nd 51 (g34.sem bt) .lf .lf) .lf)
theorem o146:OK 21 (g146.sem dr):=tk (E:=E146) (A:=AN) ⟨o145,⟨o34,tv,tv⟩,tv⟩ Tryz.func21 g146 (by kernel_rfl) fun x=>by kernel_rfl
def g147:Sig:=⟨⟨bu 0 [.list .u,.list .u],[],[]⟩,.one (.bool),[],[],false,false,[],[]⟩
def E147:Tr Sem1:=(.nd 15 (g133.sem dl) (.nd 12 (g38.sem jc) (.nd 10 (g12.sem bY) (.nd 9 (g9.sem dJ) .lf .lf) (.nd 11 (g37.sem cz) .lf .lf)) (.nd 14 (g70.sem dK) (.nd 13 (g68.sem dF) .lf .lf) .lf)) (.nd 19 (g142.sem eW) (.nd 17 (g134.sem fu) (.nd 16 (g135.sem dj) .lf .lf) (.nd 18 (g138.sem eM) .lf .lf)) (.nd 21 (g146.sem dr) (.nd 20 (g144.sem dm) .lf .lf) .lf)))
def A147:Anns:=⟨.lf,(.nd 184 ⟨[(5,(.konst (.ptr 0 0))),(7,(.konst (.ptr 1 0))),(14,(.konst (.ptr 2 0))),(17,(.int .i64))],[(B8),(B0),(B8)],[]⟩ .lf .lf),[]⟩
theorem o147:OK 3 (g147.sem bL):=tk (E:=E147) (A:=A147) ⟨o133,⟨o38,⟨o12,⟨o9,tv,tv⟩,⟨o37,tv,tv⟩⟩,⟨o70,⟨o68,tv,tv⟩,tv⟩⟩,⟨o142,⟨o134,⟨o135,tv,tv⟩,⟨o138,tv,tv⟩⟩,⟨o146,⟨o144,tv,tv⟩,tv⟩⟩⟩ Tryz.func3 g147 (by kernel_rfl) fun x=>by kernel_rfl
end Go.Proofs.YtmpliclmlpjopaaGreat.Operands
