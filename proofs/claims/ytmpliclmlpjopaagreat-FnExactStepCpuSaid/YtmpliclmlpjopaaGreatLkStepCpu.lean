/- Theory for the proofs of this claim: see its last text. -/
import Derived.Test.YtmpliclmlpjopaaGreatFnStepCpu
import Derived.Test.YtmpliclmlpjopaaGreatDenF
import Derived.Test.YtmpliclmlpjopaaGreatShl
import Derived.Test.YtmpliclmlpjopaaGreatProg
import Derived.KernelRfl
set_option maxRecDepth 100000
set_option maxHeartbeats 4000000
set_option linter.unusedVariables false
noncomputable section
namespace Go.Proofs.YtmpliclmlpjopaaGreat.StepCpu
open Go Go.Den Go.Den.G Go.Proofs Go.Proofs.YtmpliclmlpjopaaGreat
abbrev B17:BT:= .var [(.arr .i 16),(.int .i64),(.int .i64)]
abbrev B16:BT:= .var [.str,.int .i64,.int .i64,.bool,.int .i64]
abbrev V15:VT:= .agg [.int .i64,.int .i64,.int .i64,.bool,.int .i64]
abbrev B14:BT:= .var [.str,(.int .i64),(.int .i64),.bool,(.int .i64)]
abbrev B13:BT:= .var [(.int .i64),(.int .i64),(.int .i64),.bool,(.int .i64)]
abbrev V12:VT:= .agg [.int .i64,.int .i64,.int .i64,.int .i64,.int .i64,.int .i64,.int .i64]
abbrev B11:BT:= .var [.arr .i 16,.int .i64,.int .i64,.list .page,.int .i64,.konst (.vec 2),.int .i64]
abbrev B10:BT:= .var [.arr .i 16,.int .i64,.int .i64,.list .page,.int .i64,.konst (.vec 1),.int .i64]
abbrev B9:BT:= .var [.arr .i 16,.int .i64,.int .i64,.konst (.vec 3),.int .i64,.konst (.vec 4),.int .i64]
abbrev B8:BT:= .var [.arr .i 16,.int .i64,.int .i64,.konst (.vec 1),.int .i64,.konst (.vec 2),.int .i64]
abbrev B7:BT:= .var [(.int .i64),(.int .i64),(.int .i64),(.int .i64),(.int .i64),(.int .i64),(.int .i64)]
abbrev B6:BT:= .var [(.arr .i 16),(.int .i64),(.int .i64),(.list .page),(.int .i64),(.konst (.vec 2)),(.int .i64)]
abbrev B5:BT:= .var [(.arr .i 16),(.int .i64),(.int .i64),(.konst (.vec 6)),(.int .i64),(.konst (.vec 7)),(.int .i64)]
abbrev B4:BT:= .var [(.arr .i 16),(.int .i64),(.int .i64),(.konst (.vec 5)),(.int .i64),(.konst (.vec 6)),(.int .i64)]
abbrev B3:BT:= .var [(.arr .i 16),(.int .i64),(.int .i64),(.konst (.vec 3)),(.int .i64),(.konst (.vec 4)),(.int .i64)]
abbrev B2:BT:= .var [(.int .i64),(.int .i64),(.int .i64),(.int .i64),(.int .i64),(.int .i64),(.int .i64),(.int .i64),(.int .i64),(.int .i64),(.int .i64),(.int .i64),(.int .i64),(.int .i64),(.int .i64),(.int .i64),(.int .i64),(.int .i64),(.int .i64)]
abbrev B1:BT:= .var [.str,.int .i64,.int .i64,.bool,.int .i64,.bool,.int .i64,.int .i64,.int .i64,.int .i64,.bool,.int .i64,.int .i64,.int .i64,.int .i64,.int .i64,.int .i64,.int .i64,.int .i64,.int .i64,.int .i64,.int .i64,.int .i64,.int .i64,.int .i64,.int .i64,.int .i64,.int .i64,.int .i64,.int .i64,.int .i64,.int .i64,.int .i64,.int .i64]
abbrev B0:BT:= .var [.str,(.int .i64),(.int .i64),.bool,(.int .i64),.bool,(.int .i64),(.int .i64),(.int .i64),(.int .i64),.bool,(.int .i64),(.int .i64),(.int .i64),(.int .i64),(.int .i64),(.int .i64),(.int .i64),(.int .i64),(.int .i64),(.int .i64),(.int .i64),(.int .i64),(.int .i64),(.int .i64),(.int .i64),(.int .i64),(.int .i64),(.int .i64),(.int .i64),(.int .i64),(.int .i64),(.int .i64),(.int .i64)]
def Ly:Lay:=[]
def TT:Tr TI:=(.nd 139 ⟨.fn,1,8,[.nilf],none,false⟩ (.nd 70 ⟨.fn,1,8,[.nilf],none,false⟩ (.nd 32 ⟨.struct [(0,3),(1,3),(2,3),(3,3),(4,3),(5,3),(6,3)],7,56,[.int .i64 0,.int .i64 0,.int .i64 0,.int .i64 0,.int .i64 0,.int .i64 0,.int .i64 0],none,true⟩ (.nd 16 ⟨.ptr 263,1,8,[.nilp],none,false⟩ (.nd 8 ⟨.struct [(0,2),(1,3),(2,4),(3,6)],4,24,[.int .i64 0,.int .i64 0,.bool false,.int .u8 0],none,false⟩ (.nd 4 ⟨.bool,1,1,[.bool false],some .b,false⟩ (.nd 2 ⟨.int .i64,1,8,[.int .i64 0],some .i,false⟩ (.nd 1 ⟨.fn,1,8,[.nilf],none,false⟩ .lf .lf) (.nd 3 ⟨.int .i64,1,8,[.int .i64 0],some .i,false⟩ .lf .lf)) (.nd 6 ⟨.int .u8,1,1,[.int .u8 0],some .u,false⟩ (.nd 5 ⟨.int .u8,1,1,[.int .u8 0],some .u,false⟩ .lf .lf) (.nd 7 ⟨.struct [(0,2),(1,3),(2,4),(3,6)],4,24,[.int .i64 0,.int .i64 0,.bool false,.int .u8 0],none,false⟩ .lf .lf))) (.nd 12 ⟨.int .u64,1,8,[.int .u64 0],none,false⟩ (.nd 10 ⟨.str,1,16,[.str []],some .s,false⟩ (.nd 9 ⟨.str,1,16,[.str []],some .s,false⟩ .lf .lf) (.nd 11 ⟨.str,1,16,[.str []],some .s,false⟩ .lf .lf)) (.nd 14 ⟨.struct [(0,9),(1,12)],2,24,[.str [],.int .u64 0],none,false⟩ (.nd 13 ⟨.struct [(0,9),(1,12)],2,24,[.str [],.int .u64 0],none,false⟩ .lf .lf) (.nd 15 ⟨.ptr 260,1,8,[.nilp],none,false⟩ .lf .lf)))) (.nd 24 ⟨.struct [(0,23),(16,3),(17,3)],18,144,[.arr .i 16 [],.int .i64 0,.int .i64 0],none,false⟩ (.nd 20 ⟨.iface,1,16,[.err true],none,false⟩ (.nd 18 ⟨.struct [(0,17)],1,8,[.nilp],none,false⟩ (.nd 17 ⟨.ptr 271,1,8,[.nilp],none,false⟩ .lf .lf) (.nd 19 ⟨.struct [(0,17)],1,8,[.nilp],none,false⟩ .lf .lf)) (.nd 22 ⟨.slice 5,1,24,[.nils],none,false⟩ (.nd 21 ⟨.int .i32,1,4,[.int .i32 0],none,false⟩ .lf .lf) (.nd 23 ⟨.array 16 3,16,128,[.arr .i 16 []],none,false⟩ .lf .lf))) (.nd 28 ⟨.struct [(0,27)],1,24,[.nils],none,false⟩ (.nd 26 ⟨.fn,1,8,[.nilf],none,false⟩ (.nd 25 ⟨.struct [(0,23),(16,3),(17,3)],18,144,[.arr .i 16 [],.int .i64 0,.int .i64 0],none,true⟩ .lf .lf) (.nd 27 ⟨.slice 103,1,24,[.nils],none,false⟩ .lf .lf)) (.nd 30 ⟨.fn,1,8,[.nilf],none,false⟩ (.nd 29 ⟨.struct [(0,27)],1,24,[.nils],none,false⟩ .lf .lf) (.nd 31 ⟨.struct [(0,3),(1,3),(2,3),(3,3),(4,3),(5,3),(6,3)],7,56,[.int .i64 0,.int .i64 0,.int .i64 0,.int .i64 0,.int .i64 0,.int .i64 0,.int .i64 0],none,false⟩ .lf .lf))))) (.nd 52 ⟨.struct [(0,50),(1,4),(2,4),(3,4)],4,32,[.nils,.bool false,.bool false,.bool false],none,false⟩ (.nd 43 ⟨.fn,1,8,[.nilf],none,false⟩ (.nd 36 ⟨.fn,1,8,[.nilf],none,false⟩ (.nd 34 ⟨.struct [(0,3),(1,3),(2,3),(3,3),(4,32),(11,32),(18,3)],19,152,[.int .i64 0,.int .i64 0,.int .i64 0,.int .i64 0,.int .i64 0,.int .i64 0,.int .i64 0,.int .i64 0,.int .i64 0,.int .i64 0,.int .i64 0,.int .i64 0,.int .i64 0,.int .i64 0,.int .i64 0,.int .i64 0,.int .i64 0,.int .i64 0,.int .i64 0],some .ins,false⟩ (.nd 33 ⟨.struct [(0,3),(1,3),(2,3),(3,3),(4,32),(11,32),(18,3)],19,152,[.int .i64 0,.int .i64 0,.int .i64 0,.int .i64 0,.int .i64 0,.int .i64 0,.int .i64 0,.int .i64 0,.int .i64 0,.int .i64 0,.int .i64 0,.int .i64 0,.int .i64 0,.int .i64 0,.int .i64 0,.int .i64 0,.int .i64 0,.int .i64 0,.int .i64 0],none,false⟩ .lf .lf) (.nd 35 ⟨.fn,1,8,[.nilf],none,false⟩ .lf .lf)) (.nd 39 ⟨.slice 46,1,24,[.nils],none,false⟩ (.nd 38 ⟨.fn,1,8,[.nilf],none,false⟩ .lf .lf) (.nd 41 ⟨.fn,1,8,[.nilf],none,false⟩ .lf .lf))) (.nd 48 ⟨.fn,1,8,[.nilf],none,false⟩ (.nd 45 ⟨.struct [(0,3),(1,3),(2,3),(3,3)],4,32,[.int .i64 0,.int .i64 0,.int .i64 0,.int .i64 0],none,false⟩ (.nd 44 ⟨.fn,1,8,[.nilf],none,false⟩ .lf .lf) (.nd 46 ⟨.struct [(0,3),(1,3),(2,3),(3,3)],4,32,[.int .i64 0,.int .i64 0,.int .i64 0,.int .i64 0],some .acc,true⟩ .lf .lf)) (.nd 50 ⟨.slice 3,1,24,[.nils],none,false⟩ (.nd 49 ⟨.fn,1,8,[.nilf],none,false⟩ .lf .lf) (.nd 51 ⟨.struct [(0,50),(1,4),(2,4),(3,4)],4,32,[.nils,.bool false,.bool false,.bool false],none,false⟩ .lf .lf)))) (.nd 62 ⟨.struct [(0,61)],1,24,[.nils],none,false⟩ (.nd 58 ⟨.fn,1,8,[.nilf],none,false⟩ (.nd 55 ⟨.fn,1,8,[.nilf],none,false⟩ (.nd 54 ⟨.fn,1,8,[.nilf],none,false⟩ .lf .lf) (.nd 57 ⟨.fn,1,8,[.nilf],none,false⟩ .lf .lf)) (.nd 60 ⟨.struct [(0,23),(16,3),(17,3)],18,144,[.arr .i 16 [],.int .i64 0,.int .i64 0],none,true⟩ (.nd 59 ⟨.fn,1,8,[.nilf],none,false⟩ .lf .lf) (.nd 61 ⟨.slice 140,1,24,[.nils],none,false⟩ .lf .lf))) (.nd 66 ⟨.struct [(0,3),(1,3),(2,3),(3,3),(4,64),(11,64),(18,3)],19,152,[.int .i64 0,.int .i64 0,.int .i64 0,.int .i64 0,.int .i64 0,.int .i64 0,.int .i64 0,.int .i64 0,.int .i64 0,.int .i64 0,.int .i64 0,.int .i64 0,.int .i64 0,.int .i64 0,.int .i64 0,.int .i64 0,.int .i64 0,.int .i64 0,.int .i64 0],some .ins,false⟩ (.nd 64 ⟨.struct [(0,3),(1,3),(2,3),(3,3),(4,3),(5,3),(6,3)],7,56,[.int .i64 0,.int .i64 0,.int .i64 0,.int .i64 0,.int .i64 0,.int .i64 0,.int .i64 0],none,true⟩ (.nd 63 ⟨.struct [(0,61)],1,24,[.nils],none,false⟩ .lf .lf) (.nd 65 ⟨.struct [(0,3),(1,3),(2,3),(3,3),(4,64),(11,64),(18,3)],19,152,[.int .i64 0,.int .i64 0,.int .i64 0,.int .i64 0,.int .i64 0,.int .i64 0,.int .i64 0,.int .i64 0,.int .i64 0,.int .i64 0,.int .i64 0,.int .i64 0,.int .i64 0,.int .i64 0,.int .i64 0,.int .i64 0,.int .i64 0,.int .i64 0,.int .i64 0],none,false⟩ .lf .lf)) (.nd 68 ⟨.fn,1,8,[.nilf],none,false⟩ (.nd 67 ⟨.fn,1,8,[.nilf],none,false⟩ .lf .lf) (.nd 69 ⟨.fn,1,8,[.nilf],none,false⟩ .lf .lf)))))) (.nd 106 ⟨.fn,1,8,[.nilf],none,false⟩ (.nd 88 ⟨.fn,1,8,[.nilf],none,false⟩ (.nd 79 ⟨.fn,1,8,[.nilf],none,false⟩ (.nd 74 ⟨.fn,1,8,[.nilf],none,false⟩ (.nd 72 ⟨.fn,1,8,[.nilf],none,false⟩ (.nd 71 ⟨.fn,1,8,[.nilf],none,false⟩ .lf .lf) (.nd 73 ⟨.fn,1,8,[.nilf],none,false⟩ .lf .lf)) (.nd 77 ⟨.fn,1,8,[.nilf],none,false⟩ (.nd 75 ⟨.fn,1,8,[.nilf],none,false⟩ .lf .lf) (.nd 78 ⟨.fn,1,8,[.nilf],none,false⟩ .lf .lf))) (.nd 84 ⟨.fn,1,8,[.nilf],none,false⟩ (.nd 82 ⟨.fn,1,8,[.nilf],none,false⟩ (.nd 80 ⟨.fn,1,8,[.nilf],none,false⟩ .lf .lf) (.nd 83 ⟨.ptr 116,1,8,[.nilp],none,false⟩ .lf .lf)) (.nd 86 ⟨.fn,1,8,[.nilf],none,false⟩ (.nd 85 ⟨.fn,1,8,[.nilf],none,false⟩ .lf .lf) (.nd 87 ⟨.fn,1,8,[.nilf],none,false⟩ .lf .lf)))) (.nd 98 ⟨.fn,1,8,[.nilf],none,false⟩ (.nd 93 ⟨.fn,1,8,[.nilf],none,false⟩ (.nd 91 ⟨.fn,1,8,[.nilf],none,false⟩ (.nd 90 ⟨.fn,1,8,[.nilf],none,false⟩ .lf .lf) (.nd 92 ⟨.fn,1,8,[.nilf],none,false⟩ .lf .lf)) (.nd 95 ⟨.int .u64,1,8,[.int .u64 0],none,false⟩ (.nd 94 ⟨.fn,1,8,[.nilf],none,false⟩ .lf .lf) (.nd 96 ⟨.fn,1,8,[.nilf],none,false⟩ .lf .lf))) (.nd 102 ⟨.struct [(0,3),(1,3),(2,9)],3,32,[.int .i64 0,.int .i64 0,.str []],none,false⟩ (.nd 100 ⟨.fn,1,8,[.nilf],none,false⟩ (.nd 99 ⟨.fn,1,8,[.nilf],none,false⟩ .lf .lf) (.nd 101 ⟨.fn,1,8,[.nilf],none,false⟩ .lf .lf)) (.nd 104 ⟨.fn,1,8,[.nilf],none,false⟩ (.nd 103 ⟨.struct [(0,3),(1,3),(2,9)],3,32,[.int .i64 0,.int .i64 0,.str []],some .page,true⟩ .lf .lf) (.nd 105 ⟨.fn,1,8,[.nilf],none,false⟩ .lf .lf))))) (.nd 123 ⟨.fn,1,8,[.nilf],none,false⟩ (.nd 114 ⟨.fn,1,8,[.nilf],none,false⟩ (.nd 110 ⟨.fn,1,8,[.nilf],none,false⟩ (.nd 108 ⟨.fn,1,8,[.nilf],none,false⟩ (.nd 107 ⟨.fn,1,8,[.nilf],none,false⟩ .lf .lf) (.nd 109 ⟨.fn,1,8,[.nilf],none,false⟩ .lf .lf)) (.nd 112 ⟨.fn,1,8,[.nilf],none,false⟩ (.nd 111 ⟨.fn,1,8,[.nilf],none,false⟩ .lf .lf) (.nd 113 ⟨.fn,1,8,[.nilf],none,false⟩ .lf .lf))) (.nd 118 ⟨.fn,1,8,[.nilf],none,false⟩ (.nd 116 ⟨.struct [(0,22),(1,3),(2,3)],3,40,[.nils,.int .i64 0,.int .i64 0],none,false⟩ (.nd 115 ⟨.struct [(0,22),(1,3),(2,3)],3,40,[.nils,.int .i64 0,.int .i64 0],none,false⟩ .lf .lf) (.nd 117 ⟨.fn,1,8,[.nilf],none,false⟩ .lf .lf)) (.nd 120 ⟨.fn,1,8,[.nilf],none,false⟩ (.nd 119 ⟨.fn,1,8,[.nilf],none,false⟩ .lf .lf) (.nd 122 ⟨.fn,1,8,[.nilf],none,false⟩ .lf .lf)))) (.nd 132 ⟨.struct [(0,25),(18,29),(19,3),(20,39),(21,3)],22,208,[.arr .i 16 [],.int .i64 0,.int .i64 0,.nils,.int .i64 0,.nils,.int .i64 0],none,false⟩ (.nd 127 ⟨.fn,1,8,[.nilf],none,false⟩ (.nd 125 ⟨.fn,1,8,[.nilf],none,false⟩ (.nd 124 ⟨.fn,1,8,[.nilf],none,false⟩ .lf .lf) (.nd 126 ⟨.fn,1,8,[.nilf],none,false⟩ .lf .lf)) (.nd 130 ⟨.fn,1,8,[.nilf],none,false⟩ (.nd 128 ⟨.fn,1,8,[.nilf],none,false⟩ .lf .lf) (.nd 131 ⟨.ptr 133,1,8,[.nilp],none,false⟩ .lf .lf))) (.nd 136 ⟨.ptr 25,1,8,[.nilp],none,false⟩ (.nd 134 ⟨.fn,1,8,[.nilf],none,false⟩ (.nd 133 ⟨.struct [(0,25),(18,29),(19,3),(20,39),(21,3)],22,208,[.arr .i 16 [],.int .i64 0,.int .i64 0,.nils,.int .i64 0,.nils,.int .i64 0],none,false⟩ .lf .lf) (.nd 135 ⟨.fn,1,8,[.nilf],none,false⟩ .lf .lf)) (.nd 138 ⟨.fn,1,8,[.nilf],none,false⟩ (.nd 137 ⟨.fn,1,8,[.nilf],none,false⟩ .lf .lf) .lf)))))) (.nd 208 ⟨.fn,1,8,[.nilf],none,false⟩ (.nd 175 ⟨.fn,1,8,[.nilf],none,false⟩ (.nd 157 ⟨.fn,1,8,[.nilf],none,false⟩ (.nd 149 ⟨.fn,1,8,[.nilf],none,false⟩ (.nd 143 ⟨.struct [(0,25),(18,29),(19,3),(20,39),(21,3)],22,208,[.arr .i 16 [],.int .i64 0,.int .i64 0,.nils,.int .i64 0,.nils,.int .i64 0],none,false⟩ (.nd 141 ⟨.ptr 143,1,8,[.nilp],none,false⟩ (.nd 140 ⟨.struct [(0,3),(1,3),(2,9)],3,32,[.int .i64 0,.int .i64 0,.str []],some .page,true⟩ .lf .lf) (.nd 142 ⟨.struct [(0,25),(18,29),(19,3),(20,39),(21,3)],22,208,[.arr .i 16 [],.int .i64 0,.int .i64 0,.nils,.int .i64 0,.nils,.int .i64 0],none,false⟩ .lf .lf)) (.nd 145 ⟨.fn,1,8,[.nilf],none,false⟩ (.nd 144 ⟨.fn,1,8,[.nilf],none,false⟩ .lf .lf) (.nd 147 ⟨.fn,1,8,[.nilf],none,false⟩ .lf .lf))) (.nd 153 ⟨.struct [(0,34),(19,3),(20,4),(21,9)],22,184,[.int .i64 0,.int .i64 0,.int .i64 0,.int .i64 0,.int .i64 0,.int .i64 0,.int .i64 0,.int .i64 0,.int .i64 0,.int .i64 0,.int .i64 0,.int .i64 0,.int .i64 0,.int .i64 0,.int .i64 0,.int .i64 0,.int .i64 0,.int .i64 0,.int .i64 0,.int .i64 0,.bool false,.str []],none,false⟩ (.nd 151 ⟨.ptr 153,1,8,[.nilp],none,false⟩ (.nd 150 ⟨.fn,1,8,[.nilf],none,false⟩ .lf .lf) (.nd 152 ⟨.struct [(0,34),(19,3),(20,4),(21,9)],22,184,[.int .i64 0,.int .i64 0,.int .i64 0,.int .i64 0,.int .i64 0,.int .i64 0,.int .i64 0,.int .i64 0,.int .i64 0,.int .i64 0,.int .i64 0,.int .i64 0,.int .i64 0,.int .i64 0,.int .i64 0,.int .i64 0,.int .i64 0,.int .i64 0,.int .i64 0,.int .i64 0,.bool false,.str []],none,false⟩ .lf .lf)) (.nd 155 ⟨.fn,1,8,[.nilf],none,false⟩ (.nd 154 ⟨.int .u64,1,8,[.int .u64 0],none,false⟩ .lf .lf) (.nd 156 ⟨.fn,1,8,[.nilf],none,false⟩ .lf .lf)))) (.nd 167 ⟨.fn,1,8,[.nilf],none,false⟩ (.nd 161 ⟨.fn,1,8,[.nilf],none,false⟩ (.nd 159 ⟨.slice 9,1,24,[.nils],none,false⟩ (.nd 158 ⟨.fn,1,8,[.nilf],none,false⟩ .lf .lf) (.nd 160 ⟨.fn,1,8,[.nilf],none,false⟩ .lf .lf)) (.nd 164 ⟨.fn,1,8,[.nilf],none,false⟩ (.nd 162 ⟨.fn,1,8,[.nilf],none,false⟩ .lf .lf) (.nd 166 ⟨.fn,1,8,[.nilf],none,false⟩ .lf .lf))) (.nd 171 ⟨.fn,1,8,[.nilf],none,false⟩ (.nd 169 ⟨.fn,1,8,[.nilf],none,false⟩ (.nd 168 ⟨.ptr 3,1,8,[.nilp],none,false⟩ .lf .lf) (.nd 170 ⟨.fn,1,8,[.nilf],none,false⟩ .lf .lf)) (.nd 173 ⟨.array 16 4,16,16,[.arr .b 16 []],none,false⟩ (.nd 172 ⟨.fn,1,8,[.nilf],none,false⟩ .lf .lf) (.nd 174 ⟨.fn,1,8,[.nilf],none,false⟩ .lf .lf))))) (.nd 192 ⟨.struct [(0,9),(1,3),(2,3),(3,4),(4,3),(5,4),(6,3),(7,182),(12,3),(13,3),(14,3),(15,34)],34,280,[.str [],.int .i64 0,.int .i64 0,.bool false,.int .i64 0,.bool false,.int .i64 0,.int .i64 0,.int .i64 0,.int .i64 0,.bool false,.int .i64 0,.int .i64 0,.int .i64 0,.int .i64 0,.int .i64 0,.int .i64 0,.int .i64 0,.int .i64 0,.int .i64 0,.int .i64 0,.int .i64 0,.int .i64 0,.int .i64 0,.int .i64 0,.int .i64 0,.int .i64 0,.int .i64 0,.int .i64 0,.int .i64 0,.int .i64 0,.int .i64 0,.int .i64 0,.int .i64 0],none,false⟩ (.nd 184 ⟨.fn,1,8,[.nilf],none,false⟩ (.nd 179 ⟨.struct [(0,9),(1,3),(2,3),(3,4),(4,3)],5,48,[.str [],.int .i64 0,.int .i64 0,.bool false,.int .i64 0],none,false⟩ (.nd 177 ⟨.fn,1,8,[.nilf],none,false⟩ (.nd 176 ⟨.fn,1,8,[.nilf],none,false⟩ .lf .lf) (.nd 178 ⟨.ptr 180,1,8,[.nilp],none,false⟩ .lf .lf)) (.nd 181 ⟨.struct [(0,3),(1,3),(2,3),(3,4),(4,3)],5,40,[.int .i64 0,.int .i64 0,.int .i64 0,.bool false,.int .i64 0],none,false⟩ (.nd 180 ⟨.struct [(0,9),(1,3),(2,3),(3,4),(4,3)],5,48,[.str [],.int .i64 0,.int .i64 0,.bool false,.int .i64 0],none,true⟩ .lf .lf) (.nd 182 ⟨.struct [(0,3),(1,3),(2,3),(3,4),(4,3)],5,40,[.int .i64 0,.int .i64 0,.int .i64 0,.bool false,.int .i64 0],none,true⟩ .lf .lf))) (.nd 188 ⟨.fn,1,8,[.nilf],none,false⟩ (.nd 186 ⟨.fn,1,8,[.nilf],none,false⟩ (.nd 185 ⟨.fn,1,8,[.nilf],none,false⟩ .lf .lf) (.nd 187 ⟨.fn,1,8,[.nilf],none,false⟩ .lf .lf)) (.nd 190 ⟨.ptr 192,1,8,[.nilp],none,false⟩ (.nd 189 ⟨.fn,1,8,[.nilf],none,false⟩ .lf .lf) (.nd 191 ⟨.struct [(0,9),(1,3),(2,3),(3,4),(4,3),(5,4),(6,3),(7,182),(12,3),(13,3),(14,3),(15,34)],34,280,[.str [],.int .i64 0,.int .i64 0,.bool false,.int .i64 0,.bool false,.int .i64 0,.int .i64 0,.int .i64 0,.int .i64 0,.bool false,.int .i64 0,.int .i64 0,.int .i64 0,.int .i64 0,.int .i64 0,.int .i64 0,.int .i64 0,.int .i64 0,.int .i64 0,.int .i64 0,.int .i64 0,.int .i64 0,.int .i64 0,.int .i64 0,.int .i64 0,.int .i64 0,.int .i64 0,.int .i64 0,.int .i64 0,.int .i64 0,.int .i64 0,.int .i64 0,.int .i64 0],none,false⟩ .lf .lf)))) (.nd 200 ⟨.fn,1,8,[.nilf],none,false⟩ (.nd 196 ⟨.fn,1,8,[.nilf],none,false⟩ (.nd 194 ⟨.fn,1,8,[.nilf],none,false⟩ (.nd 193 ⟨.slice 1,1,24,[.nils],none,false⟩ .lf .lf) (.nd 195 ⟨.fn,1,8,[.nilf],none,false⟩ .lf .lf)) (.nd 198 ⟨.slice 4,1,24,[.nils],none,false⟩ (.nd 197 ⟨.fn,1,8,[.nilf],none,false⟩ .lf .lf) (.nd 199 ⟨.fn,1,8,[.nilf],none,false⟩ .lf .lf))) (.nd 205 ⟨.fn,1,8,[.nilf],none,false⟩ (.nd 203 ⟨.fn,1,8,[.nilf],none,false⟩ (.nd 201 ⟨.fn,1,8,[.nilf],none,false⟩ .lf .lf) (.nd 204 ⟨.fn,1,8,[.nilf],none,false⟩ .lf .lf)) (.nd 207 ⟨.fn,1,8,[.nilf],none,false⟩ (.nd 206 ⟨.fn,1,8,[.nilf],none,false⟩ .lf .lf) .lf))))) (.nd 242 ⟨.fn,1,8,[.nilf],none,false⟩ (.nd 225 ⟨.fn,1,8,[.nilf],none,false⟩ (.nd 217 ⟨.fn,1,8,[.nilf],none,false⟩ (.nd 213 ⟨.fn,1,8,[.nilf],none,false⟩ (.nd 211 ⟨.fn,1,8,[.nilf],none,false⟩ (.nd 210 ⟨.fn,1,8,[.nilf],none,false⟩ .lf .lf) (.nd 212 ⟨.fn,1,8,[.nilf],none,false⟩ .lf .lf)) (.nd 215 ⟨.fn,1,8,[.nilf],none,false⟩ (.nd 214 ⟨.fn,1,8,[.nilf],none,false⟩ .lf .lf) (.nd 216 ⟨.fn,1,8,[.nilf],none,false⟩ .lf .lf))) (.nd 221 ⟨.fn,1,8,[.nilf],none,false⟩ (.nd 219 ⟨.fn,1,8,[.nilf],none,false⟩ (.nd 218 ⟨.ptr 34,1,8,[.nilp],none,false⟩ .lf .lf) (.nd 220 ⟨.fn,1,8,[.nilf],none,false⟩ .lf .lf)) (.nd 223 ⟨.fn,1,8,[.nilf],none,false⟩ (.nd 222 ⟨.fn,1,8,[.nilf],none,false⟩ .lf .lf) (.nd 224 ⟨.fn,1,8,[.nilf],none,false⟩ .lf .lf)))) (.nd 234 ⟨.int .u32,1,4,[.int .u32 0],none,false⟩ (.nd 230 ⟨.fn,1,8,[.nilf],none,false⟩ (.nd 227 ⟨.int .i64,1,8,[.int .i64 0],some .i,false⟩ (.nd 226 ⟨.fn,1,8,[.nilf],none,false⟩ .lf .lf) (.nd 229 ⟨.fn,1,8,[.nilf],none,false⟩ .lf .lf)) (.nd 232 ⟨.fn,1,8,[.nilf],none,false⟩ (.nd 231 ⟨.fn,1,8,[.nilf],none,false⟩ .lf .lf) (.nd 233 ⟨.fn,1,8,[.nilf],none,false⟩ .lf .lf))) (.nd 238 ⟨.fn,1,8,[.nilf],none,false⟩ (.nd 236 ⟨.fn,1,8,[.nilf],none,false⟩ (.nd 235 ⟨.fn,1,8,[.nilf],none,false⟩ .lf .lf) (.nd 237 ⟨.fn,1,8,[.nilf],none,false⟩ .lf .lf)) (.nd 240 ⟨.fn,1,8,[.nilf],none,false⟩ (.nd 239 ⟨.fn,1,8,[.nilf],none,false⟩ .lf .lf) (.nd 241 ⟨.fn,1,8,[.nilf],none,false⟩ .lf .lf))))) (.nd 259 ⟨.struct [(0,17),(1,17),(2,17),(3,9)],4,40,[.nilp,.nilp,.nilp,.str []],none,false⟩ (.nd 251 ⟨.fn,1,8,[.nilf],none,false⟩ (.nd 247 ⟨.iface,1,16,[.err true],none,false⟩ (.nd 244 ⟨.fn,1,8,[.nilf],none,false⟩ (.nd 243 ⟨.fn,1,8,[.nilf],none,false⟩ .lf .lf) (.nd 246 ⟨.fn,1,8,[.nilf],none,false⟩ .lf .lf)) (.nd 249 ⟨.ptr 103,1,8,[.nilp],none,false⟩ (.nd 248 ⟨.iface,1,16,[.err true],none,false⟩ .lf .lf) (.nd 250 ⟨.int .u64,1,8,[.int .u64 0],none,false⟩ .lf .lf))) (.nd 255 ⟨.fn,1,8,[.nilf],none,false⟩ (.nd 253 ⟨.fn,1,8,[.nilf],none,false⟩ (.nd 252 ⟨.fn,1,8,[.nilf],none,false⟩ .lf .lf) (.nd 254 ⟨.fn,1,8,[.nilf],none,false⟩ .lf .lf)) (.nd 257 ⟨.fn,1,8,[.nilf],none,false⟩ (.nd 256 ⟨.ptr 250,1,8,[.nilp],none,false⟩ .lf .lf) (.nd 258 ⟨.ptr 273,1,8,[.nilp],none,false⟩ .lf .lf)))) (.nd 267 ⟨.ptr 5,1,8,[.nilp],none,false⟩ (.nd 263 ⟨.struct [(0,261)],0,0,[],none,false⟩ (.nd 261 ⟨.array 0 16,0,0,[],none,false⟩ (.nd 260 ⟨.struct [(0,17),(1,17),(2,17),(3,9)],4,40,[.nilp,.nilp,.nilp,.str []],none,false⟩ .lf .lf) (.nd 262 ⟨.struct [(0,261)],0,0,[],none,false⟩ .lf .lf)) (.nd 265 ⟨.int .u8,1,1,[.int .u8 0],some .u,false⟩ (.nd 264 ⟨.int .u8,1,1,[.int .u8 0],some .u,false⟩ .lf .lf) (.nd 266 ⟨.fn,1,8,[.nilf],none,false⟩ .lf .lf))) (.nd 271 ⟨.struct [(0,12),(1,12),(2,234),(3,264),(4,5),(5,5),(6,265),(7,266),(8,267),(9,268),(10,269)],11,48,[.int .u64 0,.int .u64 0,.int .u32 0,.int .u8 0,.int .u8 0,.int .u8 0,.int .u8 0,.nilf,.nilp,.int .i32 0,.int .i32 0],none,false⟩ (.nd 269 ⟨.int .i32,1,4,[.int .i32 0],none,false⟩ (.nd 268 ⟨.int .i32,1,4,[.int .i32 0],none,false⟩ .lf .lf) (.nd 270 ⟨.struct [(0,12),(1,12),(2,234),(3,264),(4,5),(5,5),(6,265),(7,266),(8,267),(9,268),(10,269)],11,48,[.int .u64 0,.int .u64 0,.int .u32 0,.int .u8 0,.int .u8 0,.int .u8 0,.int .u8 0,.nilf,.nilp,.int .i32 0,.int .i32 0],none,false⟩ .lf .lf)) (.nd 273 ⟨.struct [(0,9)],1,16,[.str []],none,false⟩ (.nd 272 ⟨.struct [(0,9)],1,16,[.str []],none,false⟩ .lf .lf) .lf)))))))
abbrev OK (n:Nat)(S:Sem1):Prop:=pH Tryz.prog Ly n S
def AN:Anns:=⟨.lf,.lf,[]⟩
theorem tok:TOK Tryz.prog TT:=by unfold TOK;kernel_rfl
theorem eqs:zh Tryz.prog TT:=D4 (by kernel_rfl)
theorem mix:Tryz.prog.follows .mixedOrders=true:=by kernel_rfl
theorem tv:True:=trivial
theorem tk {E:Tr Sem1}(h:E.All (fun n S=>OK n S)){n:FuncId}{fn:Func}(hf:Tryz.prog.funcs[n]? =some fn)(h1:(fn.name== "runtime.NumGoroutine")=false)(h2:(match fn.body with|some c=>lu fn.ntmps c|none=>false)=true)(g:Sig)(h3:Nat.ble (lenN g.D.ts) fn.ntmps=true){A:Anns}{S:g.D.Ty→Option (g.r.Ty×BTL.Ty g.ks)}(hS:∀x,g.den E TT A F fn x=S x):OK n (g.sem S):=Di ⟨tok,eqs,h.get,mix⟩ hf h1 h2 g h3 S hS
def g0:Sig:=⟨⟨bv 0 [.el .page,.int .i64],[],[]⟩,.one (.int .i64),[],[],false,false,[],[]⟩
theorem k0 x:g0.den Tr.lf TT AN F Tryz.f125 x=gk x:=by kernel_rfl
theorem o0:OK 125 (g0.sem gk):=tk (E:=Tr.lf) tv Tryz.func125 (by kernel_rfl) (by kernel_rfl) g0 rfl k0
def g1:Sig:=⟨⟨bv 0 [.list .page,.int .i64],[],[]⟩,.one (.int .i64),[],[],false,false,[],[]⟩
def E1:Tr Sem1:=(.nd 125 (g0.sem gk) .lf .lf)
def A1:Anns:=⟨(.nd 0 (.loop ⟨[(0,(.list .page)),(1,(.int .i64)),(5,(.int .i64))],[],[]⟩) .lf .lf),.lf,[]⟩
theorem k1 x:g1.den E1 TT A1 F Tryz.f68 x=fE x:=by kernel_rfl
theorem o1:OK 68 (g1.sem fE):=tk (E:=E1) ⟨o0,tv,tv⟩ Tryz.func68 (by kernel_rfl) (by kernel_rfl) g1 rfl k1
def g2:Sig:=⟨⟨bv 0 [.agg [.list .page],.int .i64],[],[]⟩,.one (.int .i64),[],[],false,false,[],[]⟩
def E2:Tr Sem1:=(.nd 68 (g1.sem fE) .lf .lf)
theorem k2 x:g2.den E2 TT AN F Tryz.f28 x=eP x:=by kernel_rfl
theorem o2:OK 28 (g2.sem eP):=tk (E:=E2) ⟨o1,tv,tv⟩ Tryz.func28 (by kernel_rfl) (by kernel_rfl) g2 rfl k2
def g3:Sig:=⟨⟨bv 0 [.agg [.arr .i 16]],[],[]⟩,.one (.agg [.arr .i 16]),[],[],false,false,[],[]⟩
def A3:Anns:=⟨(.nd 0 (.loop ⟨[(1,(.konst (.ptr 0 0))),(2,(.konst (.ptr 1 0))),(3,(.konst (.ptr 2 0))),(4,(.int .i64))],[(.var [(.arr .i 16)]),(.var [(.arr .i 16)]),(.var [(.arr .i 16)])],[]⟩) .lf .lf),.lf,[]⟩
theorem k3 x:g3.den Tr.lf TT A3 F Tryz.f73 x=eQ x:=by kernel_rfl
theorem o3:OK 73 (g3.sem eQ):=tk (E:=Tr.lf) tv Tryz.func73 (by kernel_rfl) (by kernel_rfl) g3 rfl k3
def g4:Sig:=⟨⟨bv 0 [.agg [.arr .i 16,.int .i64,.int .i64]],[],[]⟩,.one (.agg [.arr .i 16,.int .i64,.int .i64]),[],[],false,false,[],[]⟩
def E4:Tr Sem1:=(.nd 73 (g3.sem eQ) .lf .lf)
theorem k4 x:g4.den E4 TT AN F Tryz.f30 x=fm x:=by kernel_rfl
theorem o4:OK 30 (g4.sem fm):=tk (E:=E4) ⟨o3,tv,tv⟩ Tryz.func30 (by kernel_rfl) (by kernel_rfl) g4 rfl k4
def g5:Sig:=⟨⟨bv 0 [.el .page],[],[]⟩,.one (.el .page),[],[],false,false,[],[]⟩
theorem k5 x:g5.den Tr.lf TT AN F Tryz.f131 x=ip x:=by kernel_rfl
theorem o5:OK 131 (g5.sem ip):=tk (E:=Tr.lf) tv Tryz.func131 (by kernel_rfl) (by kernel_rfl) g5 rfl k5
def g6:Sig:=⟨⟨bv 0 [.list .page],[],[]⟩,.one (.konst (.vec 0)),[.row .page],[],false,true,[(2,0,.page)],[]⟩
def E6:Tr Sem1:=(.nd 131 (g5.sem ip) .lf .lf)
def A6:Anns:=⟨(.nd 0 (.loop ⟨[(0,(.list .page)),(3,(.konst (.vec 0))),(4,(.int .i64))],[(.row .page)],[]⟩) .lf .lf),.lf,[]⟩
theorem k6 x:g6.den E6 TT A6 F Tryz.f74 x=fF x:=by kernel_rfl
theorem o6:OK 74 (g6.sem fF):=tk (E:=E6) ⟨o5,tv,tv⟩ Tryz.func74 (by kernel_rfl) (by kernel_rfl) g6 rfl k6
def g7:Sig:=⟨⟨bv 0 [.agg [.list .page]],[],[]⟩,.one (.agg [.konst (.vec 0)]),[.row .page],[],false,true,[(2,1,.page)],[]⟩
def E7:Tr Sem1:=(.nd 74 (g6.sem fF) .lf .lf)
theorem k7 x:g7.den E7 TT AN F Tryz.f31 x=cP x:=by kernel_rfl
theorem o7:OK 31 (g7.sem cP):=tk (E:=E7) ⟨o6,tv,tv⟩ Tryz.func31 (by kernel_rfl) (by kernel_rfl) g7 rfl k7
def g8:Sig:=⟨⟨bv 0 [.int .i64],[],[]⟩,.one (.bool),[],[],false,false,[],[]⟩
theorem k8 x:g8.den Tr.lf TT AN F Tryz.f126 x=fZ x:=by kernel_rfl
theorem o8:OK 126 (g8.sem fZ):=tk (E:=Tr.lf) tv Tryz.func126 (by kernel_rfl) (by kernel_rfl) g8 rfl k8
def g9:Sig:=⟨⟨bv 0 [.agg [.arr .i 16,.int .i64,.int .i64]],[],[]⟩,.one (.bool),[],[],false,false,[],[]⟩
def E9:Tr Sem1:=(.nd 126 (g8.sem fZ) .lf .lf)
theorem k9 x:g9.den E9 TT AN F Tryz.f69 x=ib x:=by kernel_rfl
theorem o9:OK 69 (g9.sem ib):=tk (E:=E9) ⟨o8,tv,tv⟩ Tryz.func69 (by kernel_rfl) (by kernel_rfl) g9 rfl k9
def g10:Sig:=⟨⟨bv 0 [.int .i64,.int .i64,.int .i64],[],[]⟩,.one (.bool),[],[],false,false,[],[]⟩
theorem k10 x:g10.den Tr.lf TT AN F Tryz.f60 x=bj x:=by kernel_rfl
theorem o10:OK 60 (g10.sem bj):=tk (E:=Tr.lf) tv Tryz.func60 (by kernel_rfl) (by kernel_rfl) g10 rfl k10
def g11:Sig:=⟨⟨bv 0 [.int .i64],[],[]⟩,.one (.bool),[],[],false,false,[],[]⟩
def E11:Tr Sem1:=(.nd 60 (g10.sem bj) .lf .lf)
theorem k11 x:g11.den E11 TT AN F Tryz.f127 x=fH x:=by kernel_rfl
theorem o11:OK 127 (g11.sem fH):=tk (E:=E11) ⟨o10,tv,tv⟩ Tryz.func127 (by kernel_rfl) (by kernel_rfl) g11 rfl k11
def g12:Sig:=⟨⟨bv 0 [.int .i64],[],[]⟩,.one (.bool),[],[],false,false,[],[]⟩
def E12:Tr Sem1:=(.nd 60 (g10.sem bj) .lf .lf)
theorem k12 x:g12.den E12 TT AN F Tryz.f128 x=fK x:=by kernel_rfl
theorem o12:OK 128 (g12.sem fK):=tk (E:=E12) ⟨o10,tv,tv⟩ Tryz.func128 (by kernel_rfl) (by kernel_rfl) g12 rfl k12
def g13:Sig:=⟨⟨bv 0 [.agg [.list .page]],[],[]⟩,.one (.bool),[],[],false,false,[],[]⟩
def E13:Tr Sem1:=(.nd 128 (g12.sem fK) (.nd 127 (g11.sem fH) .lf .lf) .lf)
def A13:Anns:=⟨(.nd 0 (.loop ⟨[(1,(.konst (.ptr 0 0))),(3,(.int .i64))],[(.var [(.list .page)])],[]⟩) .lf .lf),.lf,[]⟩
theorem k13 x:g13.den E13 TT A13 F Tryz.f70 x=eR x:=by kernel_rfl
theorem o13:OK 70 (g13.sem eR):=tk (E:=E13) ⟨o12,⟨o11,tv,tv⟩,tv⟩ Tryz.func70 (by kernel_rfl) (by kernel_rfl) g13 rfl k13
def g14:Sig:=⟨⟨bv 0 [.agg [.list .page],.int .i64],[],[]⟩,.one (.int .i64),[],[],false,false,[],[]⟩
def A14:Anns:=⟨(.nd 0 (.loop ⟨[(1,(.int .i64)),(2,(.konst (.ptr 0 0))),(5,(.int .i64))],[(.var [(.list .page)])],[]⟩) .lf .lf),.lf,[]⟩
theorem k14 x:g14.den Tr.lf TT A14 F Tryz.f141 x=cL x:=by kernel_rfl
theorem o14:OK 141 (g14.sem cL):=tk (E:=Tr.lf) tv Tryz.func141 (by kernel_rfl) (by kernel_rfl) g14 rfl k14
def g15:Sig:=⟨⟨bv 0 [.agg [.list .page],.int .i64,.int .i64,.int .i64],[],[]⟩,.one (.int .i64),[],[],false,false,[],[]⟩
def E15:Tr Sem1:=(.nd 141 (g14.sem cL) (.nd 60 (g10.sem bj) .lf .lf) .lf)
def A15:Anns:=⟨(.nd 0 (.loop ⟨[(1,(.int .i64)),(2,(.int .i64)),(3,(.int .i64)),(4,(.konst (.ptr 0 0))),(9,(.int .i64))],[(.var [(.list .page)])],[]⟩) .lf .lf),.lf,[]⟩
theorem k15 x:g15.den E15 TT A15 F Tryz.f199 x=bE x:=by kernel_rfl
theorem o15:OK 199 (g15.sem bE):=tk (E:=E15) ⟨o14,⟨o10,tv,tv⟩,tv⟩ Tryz.func199 (by kernel_rfl) (by kernel_rfl) g15 rfl k15
def g16:Sig:=⟨⟨bv 0 [.agg [.list .page],.int .i64,.int .i64],[],[]⟩,.one (.str),[],[],false,false,[],[]⟩
def E16:Tr Sem1:=(.nd 141 (g14.sem cL) .lf .lf)
def A16:Anns:=⟨(.nd 0 (.loop ⟨[(1,(.int .i64)),(2,(.int .i64)),(3,(.konst (.ptr 0 0))),(7,(.konst (.vec 1))),(8,(.int .i64))],[(.var [(.list .page)]),(.row .u)],[]⟩) .lf .lf),.lf,[]⟩
theorem k16 x:g16.den E16 TT A16 F Tryz.f200 x=dC x:=by kernel_rfl
theorem o16:OK 200 (g16.sem dC):=tk (E:=E16) ⟨o14,tv,tv⟩ Tryz.func200 (by kernel_rfl) (by kernel_rfl) g16 rfl k16
def g17:Sig:=⟨⟨bv 0 [.agg [.list .page],.int .i64],[],[]⟩,.tup [.str,.int .i64],[],[],false,false,[],[]⟩
def E17:Tr Sem1:=(.nd 200 (g16.sem dC) (.nd 199 (g15.sem bE) .lf .lf) .lf)
def A17:Anns:=⟨(.nd 0 (.loop ⟨[(1,(.int .i64)),(2,(.konst (.ptr 0 0))),(7,(.int .i64))],[(.var [(.list .page)])],[]⟩) .lf .lf),.lf,[]⟩
theorem k17 x:g17.den E17 TT A17 F Tryz.f134 x=eT x:=by kernel_rfl
theorem o17:OK 134 (g17.sem eT):=tk (E:=E17) ⟨o16,⟨o15,tv,tv⟩,tv⟩ Tryz.func134 (by kernel_rfl) (by kernel_rfl) g17 rfl k17
def g18:Sig:=⟨⟨bv 0 [.konst (.ptr 0 0),.int .i64],[B16],[]⟩,.tup [],[B16],[(0,4,5)],false,false,[],[]⟩
theorem k18 x:g18.den Tr.lf TT AN F Tryz.f205 x=bF x:=by kernel_rfl
theorem o18:OK 205 (g18.sem bF):=tk (E:=Tr.lf) tv Tryz.func205 (by kernel_rfl) (by kernel_rfl) g18 rfl k18
def g19:Sig:=⟨⟨bv 0 [.str,.int .i64,.int .i64],[],[]⟩,.one (.int .i64),[],[],false,false,[],[]⟩
def A19:Anns:=⟨(.nd 0 (.loop ⟨[(0,.str),(1,(.int .i64)),(7,(.int .u64)),(8,(.int .i64))],[],[]⟩) .lf .lf),.lf,[]⟩
theorem k19 x:g19.den Tr.lf TT A19 F Tryz.f322 x=cK x:=by kernel_rfl
theorem o19:OK 322 (g19.sem cK):=tk (E:=Tr.lf) tv Tryz.func322 (by kernel_rfl) (by kernel_rfl) g19 rfl k19
def g20:Sig:=⟨⟨bv 0 [.int .i64,.int .i64],[],[]⟩,.one (.int .i64),[],[],false,false,[],[]⟩
theorem k20 x:g20.den Tr.lf TT AN F Tryz.f255 x=aN x:=by kernel_rfl
theorem o20:OK 255 (g20.sem aN):=tk (E:=Tr.lf) tv Tryz.func255 (by kernel_rfl) (by kernel_rfl) g20 rfl k20
def g21:Sig:=⟨⟨bv 0 [.int .i64,.int .i64],[],[]⟩,.one (.int .i64),[],[],false,false,[],[]⟩
def E21:Tr Sem1:=(.nd 255 (g20.sem aN) .lf .lf)
def A21:Anns:=⟨(.nd 0 (.loop ⟨[(0,(.int .i64)),(1,(.int .i64)),(5,(.int .u64)),(6,(.int .i64))],[],[]⟩) .lf .lf),.lf,[]⟩
theorem k21 x:g21.den E21 TT A21 F Tryz.f196 x=aT x:=by kernel_rfl
theorem o21:OK 196 (g21.sem aT):=tk (E:=E21) ⟨o20,tv,tv⟩ Tryz.func196 (by kernel_rfl) (by kernel_rfl) g21 rfl k21
def g22:Sig:=⟨⟨bv 0 [.konst (.ptr 0 0),.int .i64],[B16],[]⟩,.one (.int .i64),[B16],[(0,1,2),(0,4,5)],false,false,[],[]⟩
def E22:Tr Sem1:=(.nd 205 (g18.sem bF) (.nd 196 (g21.sem aT) .lf .lf) (.nd 322 (g19.sem cK) .lf .lf))
theorem k22 x:g22.den E22 TT AN F Tryz.f265 x=aV x:=by kernel_rfl
theorem o22:OK 265 (g22.sem aV):=tk (E:=E22) ⟨o18,⟨o21,tv,tv⟩,⟨o19,tv,tv⟩⟩ Tryz.func265 (by kernel_rfl) (by kernel_rfl) g22 rfl k22
def g23:Sig:=⟨⟨bv 0 [.int .i64,.int .i64],[],[]⟩,.one (.int .i64),[],[],false,false,[],[]⟩
def E23:Tr Sem1:=(.nd 255 (g20.sem aN) .lf .lf)
def A23:Anns:=⟨(.nd 0 (.loop ⟨[(0,(.int .i64)),(5,(.int .u64)),(6,(.int .i64))],[],[]⟩) .lf .lf),.lf,[]⟩
theorem k23 x:g23.den E23 TT A23 F Tryz.f247 x=ak x:=by kernel_rfl
theorem o23:OK 247 (g23.sem ak):=tk (E:=E23) ⟨o20,tv,tv⟩ Tryz.func247 (by kernel_rfl) (by kernel_rfl) g23 rfl k23
def g24:Sig:=⟨⟨bv 0 [.konst (.ptr 0 0)],[B16],[]⟩,.one (.int .i64),[B16],[(0,1,2),(0,4,5)],false,false,[],[]⟩
def E24:Tr Sem1:=(.nd 265 (g22.sem aV) (.nd 247 (g23.sem ak) .lf .lf) .lf)
theorem k24 x:g24.den E24 TT AN F Tryz.f203 x=bf x:=by kernel_rfl
theorem o24:OK 203 (g24.sem bf):=tk (E:=E24) ⟨o22,⟨o23,tv,tv⟩,tv⟩ Tryz.func203 (by kernel_rfl) (by kernel_rfl) g24 rfl k24
def g25:Sig:=⟨⟨bv 0 [.int .i64],[],[]⟩,.one (.bool),[],[],false,false,[],[]⟩
def A25:Anns:=⟨.lf,(.nd 8 ⟨[(4,.bool)],[],[]⟩ .lf .lf),[]⟩
theorem k25 x:g25.den Tr.lf TT A25 F Tryz.f263 x=d9 x:=by kernel_rfl
theorem o25:OK 263 (g25.sem d9):=tk (E:=Tr.lf) tv Tryz.func263 (by kernel_rfl) (by kernel_rfl) g25 rfl k25
def g26:Sig:=⟨⟨bv 0 [.int .i64],[],[]⟩,.one (V15),[],[],false,false,[],[]⟩
def E26:Tr Sem1:=(.nd 60 (g10.sem bj) .lf .lf)
theorem k26 x:g26.den E26 TT AN F Tryz.f320 x=gL x:=by kernel_rfl
theorem o26:OK 320 (g26.sem gL):=tk (E:=E26) ⟨o10,tv,tv⟩ Tryz.func320 (by kernel_rfl) (by kernel_rfl) g26 rfl k26
def g27:Sig:=⟨⟨bv 0 [.int .i64],[],[]⟩,.one (V15),[],[],false,false,[],[]⟩
def E27:Tr Sem1:=(.nd 60 (g10.sem bj) .lf .lf)
def A27:Anns:=⟨.lf,(.nd 192 ⟨[(2,(.konst (.ptr 0 0))),(3,.bool),(40,(.int .i64)),(96,.bool)],[(B13)],[]⟩ (.nd 126 ⟨[(2,(.konst (.ptr 0 0))),(3,.bool),(40,(.int .i64)),(63,.bool)],[(B13)],[]⟩ (.nd 116 ⟨[(2,(.konst (.ptr 0 0))),(3,.bool),(40,(.int .i64)),(58,.bool)],[(B13)],[]⟩ (.nd 100 ⟨[(2,(.konst (.ptr 0 0))),(3,.bool),(40,(.int .i64)),(50,.bool)],[(B13)],[]⟩ .lf .lf) .lf) (.nd 146 ⟨[(2,(.konst (.ptr 0 0))),(3,.bool),(40,(.int .i64)),(73,.bool)],[(B13)],[]⟩ (.nd 136 ⟨[(2,(.konst (.ptr 0 0))),(3,.bool),(40,(.int .i64)),(68,.bool)],[(B13)],[]⟩ .lf .lf) .lf)) (.nd 240 ⟨[(2,(.konst (.ptr 0 0))),(3,.bool),(40,(.int .i64)),(120,.bool)],[(B13)],[]⟩ (.nd 224 ⟨[(2,(.konst (.ptr 0 0))),(3,.bool),(40,(.int .i64)),(112,.bool)],[(B13)],[]⟩ (.nd 208 ⟨[(2,(.konst (.ptr 0 0))),(3,.bool),(40,(.int .i64)),(104,.bool)],[(B13)],[]⟩ .lf .lf) .lf) (.nd 284 ⟨[(2,(.konst (.ptr 0 0))),(3,.bool),(40,(.int .i64)),(142,.bool)],[(B13)],[]⟩ (.nd 250 ⟨[(2,(.konst (.ptr 0 0))),(3,.bool),(40,(.int .i64)),(125,.bool)],[(B13)],[]⟩ .lf .lf) .lf))),[]⟩
theorem k27 x:g27.den E27 TT A27 F Tryz.f321 x=iq x:=by kernel_rfl
theorem o27:OK 321 (g27.sem iq):=tk (E:=E27) ⟨o10,tv,tv⟩ Tryz.func321 (by kernel_rfl) (by kernel_rfl) g27 rfl k27
def g28:Sig:=⟨⟨bv 0 [.bool,.int .i64],[],[]⟩,.one (V15),[],[],false,false,[],[]⟩
def E28:Tr Sem1:=(.nd 321 (g27.sem iq) (.nd 320 (g26.sem gL) .lf .lf) .lf)
theorem k28 x:g28.den E28 TT AN F Tryz.f264 x=cx x:=by kernel_rfl
theorem o28:OK 264 (g28.sem cx):=tk (E:=E28) ⟨o27,⟨o26,tv,tv⟩,tv⟩ Tryz.func264 (by kernel_rfl) (by kernel_rfl) g28 rfl k28
def g29:Sig:=⟨⟨bv 0 [.konst (.ptr 0 0)],[B16],[]⟩,.tup [V15,.int .i64],[B16],[(0,1,5)],false,false,[],[]⟩
def E29:Tr Sem1:=(.nd 263 (g25.sem d9) (.nd 205 (g18.sem bF) (.nd 203 (g24.sem bf) .lf .lf) .lf) (.nd 264 (g28.sem cx) .lf .lf))
def A29:Anns:=⟨(.nd 0 (.loop ⟨[(0,(.konst (.ptr 0 0))),(2,(.konst (.ptr 1 0))),(4,(.int .i64))],[(B14),(B13)],[]⟩) .lf .lf),(.nd 124 ⟨[(0,(.konst (.ptr 0 0))),(2,(.konst (.ptr 1 0))),(4,(.int .i64)),(5,.bool)],[(B14),(B13)],[]⟩ (.nd 92 ⟨[(0,(.konst (.ptr 0 0))),(2,(.konst (.ptr 1 0))),(4,(.int .i64))],[(B14),(B13)],[]⟩ (.nd 58 ⟨[(0,(.konst (.ptr 0 0))),(2,(.konst (.ptr 1 0)))],[(B14),(B13)],[]⟩ .lf .lf) .lf) (.nd 140 ⟨[(2,(.konst (.ptr 1 0))),(4,(.int .i64)),(6,(.konst (.ptr 2 0)))],[(B14),(B13),(B13)],[]⟩ .lf .lf)),[]⟩
theorem k29 x:g29.den E29 TT A29 F Tryz.f201 x=dN x:=by kernel_rfl
theorem o29:OK 201 (g29.sem dN):=tk (E:=E29) ⟨o25,⟨o18,⟨o24,tv,tv⟩,tv⟩,⟨o28,tv,tv⟩⟩ Tryz.func201 (by kernel_rfl) (by kernel_rfl) g29 rfl k29
def g30:Sig:=⟨⟨bv 0 [.int .i64],[],[]⟩,.one (.bool),[],[],false,false,[],[]⟩
def A30:Anns:=⟨.lf,(.nd 8 ⟨[(4,.bool)],[],[]⟩ .lf .lf),[]⟩
theorem k30 x:g30.den Tr.lf TT A30 F Tryz.f202 x=cR x:=by kernel_rfl
theorem o30:OK 202 (g30.sem cR):=tk (E:=Tr.lf) tv Tryz.func202 (by kernel_rfl) (by kernel_rfl) g30 rfl k30
def g31:Sig:=⟨⟨bv 0 [.int .i64,.int .i64],[],[]⟩,.one (.int .i64),[],[],false,false,[],[]⟩
theorem k31 x:g31.den Tr.lf TT AN F Tryz.f204 x=eW x:=by kernel_rfl
theorem o31:OK 204 (g31.sem eW):=tk (E:=Tr.lf) tv Tryz.func204 (by kernel_rfl) (by kernel_rfl) g31 rfl k31
def g32:Sig:=⟨⟨bv 0 [.konst (.ptr 0 0),V15,.int .i64],[B16],[]⟩,.one (.int .i64),[B16],[],false,false,[],[]⟩
def E32:Tr Sem1:=(.nd 255 (g20.sem aN) .lf .lf)
def A32:Anns:=⟨.lf,(.nd 26 ⟨[(0,(.konst (.ptr 0 0))),(4,(.konst (.ptr 1 0))),(13,.bool)],[(B14),(B13)],[]⟩ (.nd 16 ⟨[(0,(.konst (.ptr 0 0))),(4,(.konst (.ptr 1 0))),(7,(.int .i64)),(8,.bool)],[(B14),(B13)],[]⟩ .lf .lf) .lf),[]⟩
theorem k32 x:g32.den E32 TT A32 F Tryz.f206 x=dO x:=by kernel_rfl
theorem o32:OK 206 (g32.sem dO):=tk (E:=E32) ⟨o20,tv,tv⟩ Tryz.func206 (by kernel_rfl) (by kernel_rfl) g32 rfl k32
def g33:Sig:=⟨⟨bv 0 [V15,.int .i64],[],[]⟩,.one (.bool),[],[],false,false,[],[]⟩
def A33:Anns:=⟨.lf,(.nd 12 ⟨[(2,(.konst (.ptr 0 0))),(6,.bool)],[(B13)],[]⟩ .lf .lf),[]⟩
theorem k33 x:g33.den Tr.lf TT A33 F Tryz.f266 x=fL x:=by kernel_rfl
theorem o33:OK 266 (g33.sem fL):=tk (E:=Tr.lf) tv Tryz.func266 (by kernel_rfl) (by kernel_rfl) g33 rfl k33
def g34:Sig:=⟨⟨bv 0 [.el .ins,V15,.bool],[],[]⟩,.one (.bool),[],[],false,false,[],[]⟩
def E34:Tr Sem1:=(.nd 266 (g33.sem fL) .lf .lf)
theorem k34 x:g34.den E34 TT AN F Tryz.f207 x=eX x:=by kernel_rfl
theorem o34:OK 207 (g34.sem eX):=tk (E:=E34) ⟨o33,tv,tv⟩ Tryz.func207 (by kernel_rfl) (by kernel_rfl) g34 rfl k34
def g35:Sig:=⟨⟨bv 0 [.konst (.ptr 0 0),.int .i64],[B16],[]⟩,.one (.int .i64),[B16],[],false,false,[],[]⟩
def E35:Tr Sem1:=(.nd 255 (g20.sem aN) .lf .lf)
theorem k35 x:g35.den E35 TT AN F Tryz.f268 x=bb x:=by kernel_rfl
theorem o35:OK 268 (g35.sem bb):=tk (E:=E35) ⟨o20,tv,tv⟩ Tryz.func268 (by kernel_rfl) (by kernel_rfl) g35 rfl k35
def g36:Sig:=⟨⟨bv 0 [.konst (.ptr 0 0),.int .i64,.int .i64],[B16],[]⟩,.one (V12),[B16],[],false,false,[],[]⟩
def A36:Anns:=⟨.lf,(.nd 38 ⟨[(1,(.int .i64)),(6,(.konst (.ptr 1 0)))],[(B14),(B7)],[]⟩ .lf .lf),[]⟩
theorem k36 x:g36.den Tr.lf TT A36 F Tryz.f267 x=cy x:=by kernel_rfl
theorem o36:OK 267 (g36.sem cy):=tk (E:=Tr.lf) tv Tryz.func267 (by kernel_rfl) (by kernel_rfl) g36 rfl k36
def g37:Sig:=⟨⟨bv 0 [.konst (.ptr 0 0),.int .i64,.int .i64],[B16],[]⟩,.one (V12),[B16],[(0,1,2),(0,4,5)],false,false,[],[]⟩
def E37:Tr Sem1:=(.nd 265 (g22.sem aV) (.nd 203 (g24.sem bf) .lf .lf) (.nd 268 (g35.sem bb) .lf .lf))
def A37:Anns:=⟨.lf,(.nd 92 ⟨[(0,(.konst (.ptr 0 0))),(1,(.int .i64)),(6,(.konst (.ptr 1 0))),(7,(.konst (.ptr 2 0)))],[(B14),(B7),(B7)],[]⟩ (.nd 64 ⟨[(0,(.konst (.ptr 0 0))),(1,(.int .i64)),(6,(.konst (.ptr 1 0))),(7,(.konst (.ptr 2 0))),(8,(.int .i64))],[(B14),(B7),(B7)],[]⟩ (.nd 33 ⟨[(0,(.konst (.ptr 0 0))),(1,(.int .i64)),(6,(.konst (.ptr 1 0))),(7,(.konst (.ptr 2 0)))],[(B14),(B7),(B7)],[]⟩ .lf .lf) .lf) (.nd 124 ⟨[(0,(.konst (.ptr 0 0))),(1,(.int .i64)),(6,(.konst (.ptr 1 0))),(7,(.konst (.ptr 2 0)))],[(B14),(B7),(B7)],[]⟩ (.nd 112 ⟨[(0,(.konst (.ptr 0 0))),(1,(.int .i64)),(6,(.konst (.ptr 1 0))),(7,(.konst (.ptr 2 0)))],[(B14),(B7),(B7)],[]⟩ .lf .lf) .lf)),[]⟩
theorem k37 x:g37.den E37 TT A37 F Tryz.f269 x=db x:=by kernel_rfl
theorem o37:OK 269 (g37.sem db):=tk (E:=E37) ⟨o22,⟨o24,tv,tv⟩,⟨o35,tv,tv⟩⟩ Tryz.func269 (by kernel_rfl) (by kernel_rfl) g37 rfl k37
def g38:Sig:=⟨⟨bv 0 [.konst (.ptr 0 0),.int .i64],[B16],[]⟩,.one (V12),[B16],[(0,1,2),(0,4,5)],false,false,[],[]⟩
def E38:Tr Sem1:=(.nd 265 (g22.sem aV) .lf .lf)
theorem k38 x:g38.den E38 TT AN F Tryz.f270 x=bB x:=by kernel_rfl
theorem o38:OK 270 (g38.sem bB):=tk (E:=E38) ⟨o22,tv,tv⟩ Tryz.func270 (by kernel_rfl) (by kernel_rfl) g38 rfl k38
def g39:Sig:=⟨⟨bv 0 [.el .ins,V12],[],[]⟩,.one (.el .ins),[],[],false,false,[],[]⟩
def A39:Anns:=⟨.lf,(.nd 14 ⟨[(2,(.konst (.ptr 0 0))),(3,(.konst (.ptr 1 0))),(4,(.konst (.ptr 2 0))),(7,.bool)],[(B2),(B7),(B2)],[]⟩ .lf .lf),[]⟩
theorem k39 x:g39.den Tr.lf TT A39 F Tryz.f271 x=gm x:=by kernel_rfl
theorem o39:OK 271 (g39.sem gm):=tk (E:=Tr.lf) tv Tryz.func271 (by kernel_rfl) (by kernel_rfl) g39 rfl k39
def g40:Sig:=⟨⟨bv 0 [.konst (.ptr 0 0),.el .ins,V15,.int .i64],[B16],[]⟩,.one (.el .ins),[B16],[(0,1,2),(0,4,5)],false,false,[],[]⟩
def E40:Tr Sem1:=(.nd 269 (g37.sem db) (.nd 267 (g36.sem cy) (.nd 203 (g24.sem bf) .lf .lf) (.nd 268 (g35.sem bb) .lf .lf)) (.nd 271 (g39.sem gm) (.nd 270 (g38.sem bB) .lf .lf) .lf))
def A40:Anns:=⟨.lf,(.nd 65 ⟨[(0,(.konst (.ptr 0 0))),(5,(.konst (.ptr 1 0))),(6,(.konst (.ptr 2 0))),(8,(.konst (.ptr 3 0))),(10,(.konst (.ptr 4 0))),(11,(.konst (.ptr 5 0)))],[(B14),(B2),(B13),(B2),(B7),(B7)],[]⟩ (.nd 32 ⟨[(0,(.konst (.ptr 0 0))),(3,(.int .i64)),(5,(.konst (.ptr 1 0))),(6,(.konst (.ptr 2 0))),(8,(.konst (.ptr 3 0))),(9,(.int .i64))],[(B14),(B2),(B13),(B2)],[]⟩ .lf .lf) (.nd 132 ⟨[(0,(.konst (.ptr 0 0))),(5,(.konst (.ptr 1 0))),(8,(.konst (.ptr 2 0))),(10,(.konst (.ptr 3 0))),(11,(.konst (.ptr 4 0))),(48,(.int .i64)),(66,.bool)],[(B14),(B2),(B2),(B7),(B7)],[]⟩ .lf .lf)),[]⟩
theorem k40 x:g40.den E40 TT A40 F Tryz.f208 x=dq x:=by kernel_rfl
theorem o40:OK 208 (g40.sem dq):=tk (E:=E40) ⟨o37,⟨o36,⟨o24,tv,tv⟩,⟨o35,tv,tv⟩⟩,⟨o39,⟨o38,tv,tv⟩,tv⟩⟩ Tryz.func208 (by kernel_rfl) (by kernel_rfl) g40 rfl k40
def g41:Sig:=⟨⟨bv 0 [.konst (.ptr 0 0),.el .ins,V15,.int .i64],[B16],[]⟩,.one (.el .ins),[B16],[(0,1,2),(0,4,5)],false,false,[],[]⟩
def E41:Tr Sem1:=(.nd 267 (g36.sem cy) (.nd 265 (g22.sem aV) (.nd 247 (g23.sem ak) .lf .lf) .lf) (.nd 270 (g38.sem bB) (.nd 268 (g35.sem bb) .lf .lf) .lf))
def A41:Anns:=⟨.lf,(.nd 118 ⟨[(0,(.konst (.ptr 0 0))),(5,(.konst (.ptr 1 0))),(8,(.konst (.ptr 2 0))),(11,(.int .i64)),(59,.bool)],[(B14),(B2),(B2)],[]⟩ .lf .lf),[]⟩
theorem k41 x:g41.den E41 TT A41 F Tryz.f209 x=dr x:=by kernel_rfl
theorem o41:OK 209 (g41.sem dr):=tk (E:=E41) ⟨o36,⟨o22,⟨o23,tv,tv⟩,tv⟩,⟨o38,⟨o35,tv,tv⟩,tv⟩⟩ Tryz.func209 (by kernel_rfl) (by kernel_rfl) g41 rfl k41
def g42:Sig:=⟨⟨bv 0 [.str,.int .i64],[],[]⟩,.tup [.el .ins,.int .i64],[],[],false,false,[],[]⟩
def E42:Tr Sem1:=(.nd 205 (g18.sem bF) (.nd 203 (g24.sem bf) (.nd 202 (g30.sem cR) (.nd 201 (g29.sem dN) .lf .lf) .lf) (.nd 204 (g31.sem eW) .lf .lf)) (.nd 208 (g40.sem dq) (.nd 207 (g34.sem eX) (.nd 206 (g32.sem dO) .lf .lf) .lf) (.nd 209 (g41.sem dr) .lf .lf)))
def A42:Anns:=⟨.lf,(.nd 118 ⟨[(1,(.int .i64)),(4,(.konst (.ptr 0 0))),(6,(.konst (.ptr 1 0))),(7,(.konst (.ptr 2 0))),(8,(.int .i64)),(9,(.konst (.ptr 3 0))),(10,(.int .i64))],[(B2),(B14),(B13),(B2)],[]⟩ (.nd 98 ⟨[(1,(.int .i64)),(4,(.konst (.ptr 0 0))),(6,(.konst (.ptr 1 0))),(7,(.konst (.ptr 2 0))),(8,(.int .i64)),(9,(.konst (.ptr 3 0))),(10,(.int .i64))],[(B2),(B14),(B13),(B2)],[]⟩ (.nd 74 ⟨[(1,(.int .i64)),(4,(.konst (.ptr 0 0))),(6,(.konst (.ptr 1 0))),(7,(.konst (.ptr 2 0))),(8,(.int .i64)),(9,(.konst (.ptr 3 0))),(10,(.int .i64))],[(B2),(B14),(B13),(B2)],[]⟩ .lf .lf) .lf) (.nd 229 ⟨[(1,(.int .i64)),(4,(.konst (.ptr 0 0))),(6,(.konst (.ptr 1 0))),(9,(.konst (.ptr 2 0)))],[(B2),(B14),(B2)],[]⟩ (.nd 216 ⟨[(1,(.int .i64)),(4,(.konst (.ptr 0 0))),(6,(.konst (.ptr 1 0))),(7,(.konst (.ptr 2 0))),(8,(.int .i64)),(9,(.konst (.ptr 3 0))),(10,(.int .i64))],[(B2),(B14),(B13),(B2)],[]⟩ .lf .lf) .lf)),[]⟩
theorem k42 x:g42.den E42 TT A42 F Tryz.f135 x=d8 x:=by kernel_rfl
theorem o42:OK 135 (g42.sem d8):=tk (E:=E42) ⟨o18,⟨o24,⟨o30,⟨o29,tv,tv⟩,tv⟩,⟨o31,tv,tv⟩⟩,⟨o40,⟨o34,⟨o32,tv,tv⟩,tv⟩,⟨o41,tv,tv⟩⟩⟩ Tryz.func135 (by kernel_rfl) (by kernel_rfl) g42 rfl k42
def g43:Sig:=⟨⟨bv 0 [.int .i64,.int .i64],[],[]⟩,.one (.int .i64),[],[],false,false,[],[]⟩
theorem k43 x:g43.den Tr.lf TT AN F Tryz.f129 x=aX x:=by kernel_rfl
theorem o43:OK 129 (g43.sem aX):=tk (E:=Tr.lf) tv Tryz.func129 (by kernel_rfl) (by kernel_rfl) g43 rfl k43
def g44:Sig:=⟨⟨bv 0 [.agg [.arr .i 16,.int .i64,.int .i64],.int .i64,.int .i64],[],[]⟩,.one (.int .i64),[],[],false,false,[],[]⟩
def E44:Tr Sem1:=(.nd 247 (g23.sem ak) .lf .lf)
theorem k44 x:g44.den E44 TT AN F Tryz.f244 x=dD x:=by kernel_rfl
theorem o44:OK 244 (g44.sem dD):=tk (E:=E44) ⟨o23,tv,tv⟩ Tryz.func244 (by kernel_rfl) (by kernel_rfl) g44 rfl k44
def g45:Sig:=⟨⟨bv 0 [.agg [.arr .i 16,.int .i64,.int .i64],V12,.int .i64],[],[]⟩,.one (.int .i64),[],[],false,false,[],[]⟩
def E45:Tr Sem1:=(.nd 129 (g43.sem aX) .lf .lf)
def A45:Anns:=⟨.lf,(.nd 36 ⟨[(3,(.konst (.ptr 0 0))),(4,(.konst (.ptr 1 0))),(7,(.int .i64))],[(B17),(B7)],[]⟩ (.nd 25 ⟨[(3,(.konst (.ptr 0 0))),(4,(.konst (.ptr 1 0))),(7,(.int .i64))],[(B17),(B7)],[]⟩ .lf .lf) .lf),[]⟩
theorem k45 x:g45.den E45 TT A45 F Tryz.f195 x=bS x:=by kernel_rfl
theorem o45:OK 195 (g45.sem bS):=tk (E:=E45) ⟨o43,tv,tv⟩ Tryz.func195 (by kernel_rfl) (by kernel_rfl) g45 rfl k45
def g46:Sig:=⟨⟨bv 0 [.agg [.list .page],.int .i64,.int .i64],[],[]⟩,.tup [.int .i64,.int .i64],[],[],false,false,[],[]⟩
def E46:Tr Sem1:=(.nd 200 (g16.sem dC) (.nd 199 (g15.sem bE) .lf .lf) (.nd 322 (g19.sem cK) .lf .lf))
theorem k46 x:g46.den E46 TT AN F Tryz.f313 x=fJ x:=by kernel_rfl
theorem o46:OK 313 (g46.sem fJ):=tk (E:=E46) ⟨o16,⟨o15,tv,tv⟩,⟨o19,tv,tv⟩⟩ Tryz.func313 (by kernel_rfl) (by kernel_rfl) g46 rfl k46
def g47:Sig:=⟨⟨bv 0 [.konst (.ptr 0 0),.int .i64,.int .i64],[B10,.row .acc],[]⟩,.one (.int .i64),[B11,.konst .gone,.row .acc],[(1,0,big),(0,5,7)],false,false,[(0,6,.acc)],[1]⟩
def E47:Tr Sem1:=(.nd 313 (g46.sem fJ) .lf .lf)
def A47:Anns:=⟨.lf,.lf,[(0,6,.acc)]⟩
theorem k47 x:g47.den E47 TT A47 F Tryz.f245 x=bm x:=by kernel_rfl
theorem o47:OK 245 (g47.sem bm):=tk (E:=E47) ⟨o46,tv,tv⟩ Tryz.func245 (by kernel_rfl) (by kernel_rfl) g47 rfl k47
def g48:Sig:=⟨⟨bv 0 [.konst (.ptr 0 0),V12,.int .i64],[B10,.row .acc],[]⟩,.one (.int .i64),[B11,.konst .gone,.row .acc],[(1,0,big),(0,5,7)],false,false,[(0,6,.acc)],[1]⟩
def E48:Tr Sem1:=(.nd 244 (g44.sem dD) (.nd 195 (g45.sem bS) .lf .lf) (.nd 245 (g47.sem bm) .lf .lf))
def A48:Anns:=⟨.lf,.lf,[(0,6,.acc)]⟩
theorem k48 x:g48.den E48 TT A48 F Tryz.f189 x=aw x:=by kernel_rfl
theorem o48:OK 189 (g48.sem aw):=tk (E:=E48) ⟨o44,⟨o45,tv,tv⟩,⟨o47,tv,tv⟩⟩ Tryz.func189 (by kernel_rfl) (by kernel_rfl) g48 rfl k48
def g49:Sig:=⟨⟨bv 0 [.bool],[],[]⟩,.one (.int .i64),[],[],false,false,[],[]⟩
theorem k49 x:g49.den Tr.lf TT AN F Tryz.f258 x=ef x:=by kernel_rfl
theorem o49:OK 258 (g49.sem ef):=tk (E:=Tr.lf) tv Tryz.func258 (by kernel_rfl) (by kernel_rfl) g49 rfl k49
def g50:Sig:=⟨⟨bv 0 [.bool,.int .i64],[],[]⟩,.one (.int .i64),[],[],false,false,[],[]⟩
theorem k50 x:g50.den Tr.lf TT AN F Tryz.f254 x=bU x:=by kernel_rfl
theorem o50:OK 254 (g50.sem bU):=tk (E:=Tr.lf) tv Tryz.func254 (by kernel_rfl) (by kernel_rfl) g50 rfl k50
def g51:Sig:=⟨⟨bv 0 [.int .i64,.int .i64],[],[]⟩,.one (.int .i64),[],[],false,false,[],[]⟩
def E51:Tr Sem1:=(.nd 254 (g50.sem bU) (.nd 247 (g23.sem ak) .lf .lf) (.nd 255 (g20.sem aN) .lf .lf))
def A51:Anns:=⟨(.nd 0 (.loop ⟨[(0,(.int .i64)),(1,(.int .i64)),(5,(.int .i64)),(6,(.int .i64))],[],[]⟩) .lf .lf),.lf,[]⟩
theorem k51 x:g51.den E51 TT A51 F Tryz.f248 x=cT x:=by kernel_rfl
theorem o51:OK 248 (g51.sem cT):=tk (E:=E51) ⟨o50,⟨o23,tv,tv⟩,⟨o20,tv,tv⟩⟩ Tryz.func248 (by kernel_rfl) (by kernel_rfl) g51 rfl k51
def g52:Sig:=⟨⟨bv 0 [.int .i64,.int .i64,.int .i64,.int .i64,.bool],[],[]⟩,.tup [.int .i64,.int .i64],[],[],false,false,[],[]⟩
def E52:Tr Sem1:=(.nd 255 (g20.sem aN) (.nd 254 (g50.sem bU) (.nd 248 (g51.sem cT) .lf .lf) .lf) (.nd 258 (g49.sem ef) .lf .lf))
def A52:Anns:=⟨(.nd 0 (.loop ⟨[(0,(.int .i64)),(1,(.int .i64)),(2,(.int .i64)),(4,.bool),(12,(.int .u64)),(13,(.int .i64)),(14,(.int .i64)),(15,(.int .i64))],[],[]⟩) .lf .lf),(.nd 79 ⟨[(0,(.int .i64)),(1,(.int .i64)),(2,(.int .i64)),(4,.bool),(12,(.int .u64)),(13,(.int .i64)),(14,(.int .i64)),(15,(.int .i64)),(18,(.int .i64))],[],[]⟩ .lf .lf),[]⟩
theorem k52 x:g52.den E52 TT A52 F Tryz.f246 x=bW x:=by kernel_rfl
theorem o52:OK 246 (g52.sem bW):=tk (E:=E52) ⟨o20,⟨o50,⟨o51,tv,tv⟩,tv⟩,⟨o49,tv,tv⟩⟩ Tryz.func246 (by kernel_rfl) (by kernel_rfl) g52 rfl k52
def g53:Sig:=⟨⟨bv 0 [.int .i64,.int .i64,.int .i64],[],[]⟩,.one (.int .i64),[],[],false,false,[],[]⟩
theorem k53 x:g53.den Tr.lf TT AN F Tryz.f249 x=fO x:=by kernel_rfl
theorem o53:OK 249 (g53.sem fO):=tk (E:=Tr.lf) tv Tryz.func249 (by kernel_rfl) (by kernel_rfl) g53 rfl k53
def g54:Sig:=⟨⟨bv 0 [.int .i64,.int .i64,.int .i64,.int .i64,.int .i64],[],[]⟩,.tup [.int .i64,.int .i64],[],[],false,false,[],[]⟩
def E54:Tr Sem1:=(.nd 248 (g51.sem cT) (.nd 247 (g23.sem ak) (.nd 246 (g52.sem bW) .lf .lf) .lf) (.nd 249 (g53.sem fO) .lf .lf))
theorem k54 x:g54.den E54 TT AN F Tryz.f190 x=gn x:=by kernel_rfl
theorem o54:OK 190 (g54.sem gn):=tk (E:=E54) ⟨o51,⟨o23,⟨o52,tv,tv⟩,tv⟩,⟨o53,tv,tv⟩⟩ Tryz.func190 (by kernel_rfl) (by kernel_rfl) g54 rfl k54
def g55:Sig:=⟨⟨bv 0 [.agg [.arr .i 16,.int .i64,.int .i64],.int .i64,.int .i64,.int .i64],[],[]⟩,.one (.agg [.arr .i 16,.int .i64,.int .i64]),[],[],false,false,[],[]⟩
def E55:Tr Sem1:=(.nd 247 (g23.sem ak) .lf .lf)
def A55:Anns:=⟨.lf,(.nd 30 ⟨[(1,(.int .i64)),(2,(.int .i64)),(3,(.int .i64)),(4,(.konst (.ptr 0 0))),(8,(.konst (.ptr 1 0))),(9,(.int .i64))],[(B17),(B17)],[]⟩ .lf .lf),[]⟩
theorem k55 x:g55.den E55 TT A55 F Tryz.f250 x=cz x:=by kernel_rfl
theorem o55:OK 250 (g55.sem cz):=tk (E:=E55) ⟨o23,tv,tv⟩ Tryz.func250 (by kernel_rfl) (by kernel_rfl) g55 rfl k55
def g56:Sig:=⟨⟨bv 0 [.int .i64,.int .i64],[],[]⟩,.one (.str),[],[],false,false,[],[]⟩
def A56:Anns:=⟨(.nd 0 (.loop ⟨[(0,(.int .i64)),(1,(.int .i64)),(5,(.konst (.vec 0))),(6,(.int .i64))],[(.row .u)],[]⟩) .lf .lf),.lf,[]⟩
theorem k56 x:g56.den Tr.lf TT A56 F Tryz.f218 x=dZ x:=by kernel_rfl
theorem o56:OK 218 (g56.sem dZ):=tk (E:=Tr.lf) tv Tryz.func218 (by kernel_rfl) (by kernel_rfl) g56 rfl k56
def g57:Sig:=⟨⟨bv 0 [.agg [.list .page]],[],[]⟩,.one (.agg [.konst (.vec 0)]),[.row .page],[],false,true,[(2,1,.page)],[]⟩
theorem k57 x:g57.den Tr.lf TT AN F Tryz.f72 x=ed x:=by kernel_rfl
theorem o57:OK 72 (g57.sem ed):=tk (E:=Tr.lf) tv Tryz.func72 (by kernel_rfl) (by kernel_rfl) g57 rfl k57
def g58:Sig:=⟨⟨bv 0 [.agg [.list .page],.int .i64,.str],[],[]⟩,.one (.agg [.list .page]),[],[],false,false,[],[]⟩
def E58:Tr Sem1:=(.nd 141 (g14.sem cL) (.nd 72 (g57.sem ed) .lf .lf) .lf)
def A58:Anns:=⟨(.nd 0 (.loop ⟨[(1,(.int .i64)),(2,.str),(3,(.konst (.ptr 0 0))),(6,(.konst (.ptr 2 0)))],[(.var [(.konst (.vec 1))]),(.row .page),(.var [(.konst .nils)])],[]⟩) .lf .lf),.lf,[]⟩
theorem k58 x:g58.den E58 TT A58 F Tryz.f86 x=gl x:=by kernel_rfl
theorem o58:OK 86 (g58.sem gl):=tk (E:=E58) ⟨o14,⟨o57,tv,tv⟩,tv⟩ Tryz.func86 (by kernel_rfl) (by kernel_rfl) g58 rfl k58
def g59:Sig:=⟨⟨bv 0 [.agg [.list .page],.int .i64,.int .i64,.int .i64],[],[]⟩,.tup [.agg [.list .page],.int .i64],[],[],false,false,[],[]⟩
def E59:Tr Sem1:=(.nd 199 (g15.sem bE) (.nd 86 (g58.sem gl) .lf .lf) (.nd 218 (g56.sem dZ) .lf .lf))
theorem k59 x:g59.den E59 TT AN F Tryz.f314 x=eU x:=by kernel_rfl
theorem o59:OK 314 (g59.sem eU):=tk (E:=E59) ⟨o15,⟨o58,tv,tv⟩,⟨o56,tv,tv⟩⟩ Tryz.func314 (by kernel_rfl) (by kernel_rfl) g59 rfl k59
def g60:Sig:=⟨⟨bv 0 [.konst (.ptr 0 0),.int .i64,.int .i64,.int .i64],[B10,.row .acc],[]⟩,.tup [],[B11,.konst .gone,.row .acc],[(1,0,big),(0,3,4),(0,5,7)],false,false,[(0,6,.acc)],[1]⟩
def E60:Tr Sem1:=(.nd 314 (g59.sem eU) (.nd 247 (g23.sem ak) .lf .lf) .lf)
def A60:Anns:=⟨.lf,.lf,[(0,6,.acc)]⟩
theorem k60 x:g60.den E60 TT A60 F Tryz.f251 x=aW x:=by kernel_rfl
theorem o60:OK 251 (g60.sem aW):=tk (E:=E60) ⟨o59,⟨o23,tv,tv⟩,tv⟩ Tryz.func251 (by kernel_rfl) (by kernel_rfl) g60 rfl k60
def g61:Sig:=⟨⟨bv 0 [.konst (.ptr 0 0),V12,.int .i64,.int .i64],[B10,.row .acc],[]⟩,.tup [],[B11,.konst .gone,.row .acc],[(1,0,big),(0,0,4),(0,5,7)],false,false,[(0,6,.acc)],[1]⟩
def E61:Tr Sem1:=(.nd 250 (g55.sem cz) (.nd 195 (g45.sem bS) .lf .lf) (.nd 251 (g60.sem aW) .lf .lf))
def A61:Anns:=⟨.lf,.lf,[(0,6,.acc)]⟩
theorem k61 x:g61.den E61 TT A61 F Tryz.f191 x=aK x:=by kernel_rfl
theorem o61:OK 191 (g61.sem aK):=tk (E:=E61) ⟨o55,⟨o45,tv,tv⟩,⟨o60,tv,tv⟩⟩ Tryz.func191 (by kernel_rfl) (by kernel_rfl) g61 rfl k61
def g62:Sig:=⟨⟨bv 0 [.int .i64,.int .i64,.int .i64,.int .i64],[],[]⟩,.tup [.int .i64,.int .i64],[],[],false,false,[],[]⟩
def E62:Tr Sem1:=(.nd 247 (g23.sem ak) (.nd 246 (g52.sem bW) .lf .lf) .lf)
theorem k62 x:g62.den E62 TT AN F Tryz.f192 x=gp x:=by kernel_rfl
theorem o62:OK 192 (g62.sem gp):=tk (E:=E62) ⟨o23,⟨o52,tv,tv⟩,tv⟩ Tryz.func192 (by kernel_rfl) (by kernel_rfl) g62 rfl k62
def g63:Sig:=⟨⟨bv 0 [.int .i64,.int .i64,.int .i64,.int .i64],[],[]⟩,.tup [.int .i64,.int .i64],[],[],false,false,[],[]⟩
def E63:Tr Sem1:=(.nd 254 (g50.sem bU) (.nd 248 (g51.sem cT) (.nd 247 (g23.sem ak) .lf .lf) .lf) (.nd 255 (g20.sem aN) .lf .lf))
def A63:Anns:=⟨.lf,(.nd 137 ⟨[(0,(.int .i64)),(1,(.int .i64)),(3,(.int .i64)),(13,(.int .i64)),(14,(.int .i64)),(15,(.int .i64))],[],[]⟩ (.nd 111 ⟨[(0,(.int .i64)),(1,(.int .i64)),(3,(.int .i64)),(13,(.int .i64)),(14,(.int .i64)),(15,(.int .i64))],[],[]⟩ (.nd 81 ⟨[(0,(.int .i64)),(1,(.int .i64)),(3,(.int .i64)),(13,(.int .i64)),(14,(.int .i64)),(15,(.int .i64))],[],[]⟩ .lf .lf) .lf) (.nd 216 ⟨[(13,(.int .i64)),(14,(.int .i64)),(15,(.int .i64)),(16,(.int .i64))],[],[]⟩ (.nd 183 ⟨[(0,(.int .i64)),(1,(.int .i64)),(3,(.int .i64)),(13,(.int .i64)),(14,(.int .i64)),(15,(.int .i64))],[],[]⟩ .lf .lf) .lf)),[]⟩
theorem k63 x:g63.den E63 TT A63 F Tryz.f252 x=fN x:=by kernel_rfl
theorem o63:OK 252 (g63.sem fN):=tk (E:=E63) ⟨o50,⟨o51,⟨o23,tv,tv⟩,tv⟩,⟨o20,tv,tv⟩⟩ Tryz.func252 (by kernel_rfl) (by kernel_rfl) g63 rfl k63
def g64:Sig:=⟨⟨bv 0 [.int .i64,.int .i64,.int .i64,.int .i64,.int .i64],[],[]⟩,.tup [.int .i64,.int .i64],[],[],false,false,[],[]⟩
def E64:Tr Sem1:=(.nd 252 (g63.sem fN) (.nd 247 (g23.sem ak) .lf .lf) .lf)
def A64:Anns:=⟨(.nd 0 (.loop ⟨[(0,(.int .i64)),(1,(.int .i64)),(4,(.int .i64)),(12,(.int .i64)),(13,(.int .i64)),(14,(.int .i64))],[],[]⟩) .lf .lf),(.nd 44 ⟨[(0,(.int .i64)),(1,(.int .i64)),(2,(.int .i64)),(4,(.int .i64)),(12,(.int .i64))],[],[]⟩ .lf .lf),[]⟩
theorem k64 x:g64.den E64 TT A64 F Tryz.f193 x=eY x:=by kernel_rfl
theorem o64:OK 193 (g64.sem eY):=tk (E:=E64) ⟨o63,⟨o23,tv,tv⟩,tv⟩ Tryz.func193 (by kernel_rfl) (by kernel_rfl) g64 rfl k64
def g65:Sig:=⟨⟨bv 0 [.int .u64,.int .u64],[],[]⟩,.tup [.int .u64,.int .u64],[],[],false,false,[],[]⟩
def A65:Anns:=⟨(.nd 0 (.loop ⟨[(0,(.int .u64)),(1,(.int .u64)),(6,(.int .u64)),(7,(.int .u64)),(8,(.int .i64))],[],[]⟩) .lf .lf),(.nd 66 ⟨[(0,(.int .u64)),(1,(.int .u64)),(6,(.int .u64)),(7,(.int .u64)),(8,(.int .i64))],[],[]⟩ (.nd 52 ⟨[(0,(.int .u64)),(1,(.int .u64)),(6,(.int .u64)),(7,(.int .u64)),(8,(.int .i64))],[],[]⟩ .lf .lf) .lf),[]⟩
theorem k65 x:g65.den Tr.lf TT A65 F Tryz.f315 x=dH x:=by kernel_rfl
theorem o65:OK 315 (g65.sem dH):=tk (E:=Tr.lf) tv Tryz.func315 (by kernel_rfl) (by kernel_rfl) g65 rfl k65
def g66:Sig:=⟨⟨bv 0 [.int .i64],[],[]⟩,.one (.int .u64),[],[],false,false,[],[]⟩
theorem k66 x:g66.den Tr.lf TT AN F Tryz.f316 x=dg x:=by kernel_rfl
theorem o66:OK 316 (g66.sem dg):=tk (E:=Tr.lf) tv Tryz.func316 (by kernel_rfl) (by kernel_rfl) g66 rfl k66
def g67:Sig:=⟨⟨bv 0 [.int .i64,.int .i64,.bool],[],[]⟩,.tup [.int .u64,.int .u64],[],[],false,false,[],[]⟩
def E67:Tr Sem1:=(.nd 316 (g66.sem dg) (.nd 315 (g65.sem dH) .lf .lf) .lf)
def A67:Anns:=⟨.lf,(.nd 74 ⟨[(8,(.int .u64)),(9,(.int .u64))],[],[]⟩ (.nd 62 ⟨[(8,(.int .u64)),(9,(.int .u64))],[],[]⟩ .lf .lf) .lf),[]⟩
theorem k67 x:g67.den E67 TT A67 F Tryz.f253 x=dP x:=by kernel_rfl
theorem o67:OK 253 (g67.sem dP):=tk (E:=E67) ⟨o66,⟨o65,tv,tv⟩,tv⟩ Tryz.func253 (by kernel_rfl) (by kernel_rfl) g67 rfl k67
def g68:Sig:=⟨⟨bv 0 [.int .i64,.int .i64,.int .i64,.int .i64,.int .i64],[],[]⟩,.tup [.int .i64,.int .i64,.int .i64],[],[],false,false,[],[]⟩
def E68:Tr Sem1:=(.nd 253 (g67.sem dP) (.nd 247 (g23.sem ak) (.nd 196 (g21.sem aT) .lf .lf) .lf) (.nd 254 (g50.sem bU) .lf .lf))
def A68:Anns:=⟨.lf,(.nd 102 ⟨[(1,(.int .i64)),(4,(.int .i64)),(13,.bool),(18,(.int .i64)),(19,(.int .i64))],[],[]⟩ (.nd 60 ⟨[(1,(.int .i64)),(4,(.int .i64)),(13,.bool),(14,(.int .i64)),(15,(.int .i64))],[],[]⟩ .lf .lf) (.nd 124 ⟨[(4,(.int .i64)),(18,(.int .i64)),(19,(.int .i64)),(20,.bool)],[],[]⟩ .lf .lf)),[]⟩
theorem k68 x:g68.den E68 TT A68 F Tryz.f194 x=cr x:=by kernel_rfl
theorem o68:OK 194 (g68.sem cr):=tk (E:=E68) ⟨o67,⟨o23,⟨o21,tv,tv⟩,tv⟩,⟨o50,tv,tv⟩⟩ Tryz.func194 (by kernel_rfl) (by kernel_rfl) g68 rfl k68
def g69:Sig:=⟨⟨bv 0 [.int .i64],[],[]⟩,.one (.int .i64),[],[],false,false,[],[]⟩
theorem k69 x:g69.den Tr.lf TT AN F Tryz.f256 x=eZ x:=by kernel_rfl
theorem o69:OK 256 (g69.sem eZ):=tk (E:=Tr.lf) tv Tryz.func256 (by kernel_rfl) (by kernel_rfl) g69 rfl k69
def g70:Sig:=⟨⟨bv 0 [.int .i64,.int .i64,.int .i64,.bool],[],[]⟩,.tup [.int .u64,.int .u64],[],[],false,false,[],[]⟩
def E70:Tr Sem1:=(.nd 255 (g20.sem aN) (.nd 247 (g23.sem ak) .lf .lf) .lf)
def A70:Anns:=⟨.lf,(.nd 80 ⟨[(10,(.int .u64))],[],[]⟩ .lf .lf),[]⟩
theorem k70 x:g70.den E70 TT A70 F Tryz.f317 x=fM x:=by kernel_rfl
theorem o70:OK 317 (g70.sem fM):=tk (E:=E70) ⟨o20,⟨o23,tv,tv⟩,tv⟩ Tryz.func317 (by kernel_rfl) (by kernel_rfl) g70 rfl k70
def g71:Sig:=⟨⟨bv 0 [.int .u64,.int .u64,.int .u64],[],[]⟩,.tup [.int .u64,.int .u64],[],[],false,false,[],[]⟩
def A71:Anns:=⟨(.nd 0 (.loop ⟨[(1,(.int .u64)),(2,(.int .u64)),(8,(.int .u64)),(9,(.int .u64)),(10,(.int .i64))],[],[]⟩) .lf .lf),(.nd 70 ⟨[(1,(.int .u64)),(2,(.int .u64)),(8,(.int .u64)),(9,(.int .u64)),(10,(.int .i64))],[],[]⟩ .lf .lf),[]⟩
theorem k71 x:g71.den Tr.lf TT A71 F Tryz.f318 x=dY x:=by kernel_rfl
theorem o71:OK 318 (g71.sem dY):=tk (E:=Tr.lf) tv Tryz.func318 (by kernel_rfl) (by kernel_rfl) g71 rfl k71
def g72:Sig:=⟨⟨bv 0 [.int .i64,.int .i64,.int .i64,.int .i64,.int .i64],[],[]⟩,.tup [.int .i64,.int .i64,.bool],[],[],false,false,[],[]⟩
def E72:Tr Sem1:=(.nd 316 (g66.sem dg) (.nd 247 (g23.sem ak) (.nd 196 (g21.sem aT) .lf .lf) .lf) (.nd 318 (g71.sem dY) (.nd 317 (g70.sem fM) .lf .lf) .lf))
def A72:Anns:=⟨.lf,(.nd 112 ⟨[(1,(.int .i64)),(13,.bool),(14,(.int .u64)),(15,(.int .u64)),(16,(.int .u64)),(17,.bool),(18,.bool)],[],[]⟩ (.nd 100 ⟨[(1,(.int .i64)),(13,.bool),(14,(.int .u64)),(15,(.int .u64)),(16,(.int .u64)),(17,.bool),(18,.bool)],[],[]⟩ (.nd 72 ⟨[(1,(.int .i64)),(13,.bool),(14,(.int .u64)),(15,(.int .u64)),(16,(.int .u64)),(17,.bool),(18,.bool)],[],[]⟩ .lf .lf) .lf) (.nd 210 ⟨[(1,(.int .i64)),(19,(.int .u64)),(20,(.int .u64))],[],[]⟩ (.nd 204 ⟨[(1,(.int .i64)),(17,.bool),(19,(.int .u64)),(20,(.int .u64))],[],[]⟩ .lf .lf) .lf)),[]⟩
theorem k72 x:g72.den E72 TT A72 F Tryz.f257 x=dz x:=by kernel_rfl
theorem o72:OK 257 (g72.sem dz):=tk (E:=E72) ⟨o66,⟨o23,⟨o21,tv,tv⟩,tv⟩,⟨o71,⟨o70,tv,tv⟩,tv⟩⟩ Tryz.func257 (by kernel_rfl) (by kernel_rfl) g72 rfl k72
def g73:Sig:=⟨⟨bv 0 [.konst (.ptr 0 0),.el .ins],[B10,.row .acc],[]⟩,.tup [],[B11,.konst .gone,.row .acc],[(1,0,big),(0,0,3),(0,5,7)],false,false,[(0,6,.acc)],[1]⟩
def E73:Tr Sem1:=(.nd 250 (g55.sem cz) (.nd 194 (g68.sem cr) (.nd 189 (g48.sem aw) .lf .lf) (.nd 244 (g44.sem dD) .lf .lf)) (.nd 257 (g72.sem dz) (.nd 256 (g69.sem eZ) .lf .lf) .lf))
def A73:Anns:=⟨.lf,(.nd 87 ⟨[(0,(.konst (.ptr 0 0))),(3,(.konst (.ptr 3 0))),(6,(.int .i64)),(7,(.int .i64)),(8,(.int .i64))],[(B6),(.konst .gone),(.row .acc),(B2)],[]⟩ .lf .lf),[(0,6,.acc)]⟩
theorem k73 x:g73.den E73 TT A73 F Tryz.f197 x=du x:=by kernel_rfl
theorem o73:OK 197 (g73.sem du):=tk (E:=E73) ⟨o55,⟨o68,⟨o48,tv,tv⟩,⟨o44,tv,tv⟩⟩,⟨o72,⟨o69,tv,tv⟩,tv⟩⟩ Tryz.func197 (by kernel_rfl) (by kernel_rfl) g73 rfl k73
def g74:Sig:=⟨⟨bv 0 [.int .i64,.int .i64],[],[]⟩,.one (.bool),[],[],false,false,[],[]⟩
theorem k74 x:g74.den Tr.lf TT AN F Tryz.f259 x=cS x:=by kernel_rfl
theorem o74:OK 259 (g74.sem cS):=tk (E:=Tr.lf) tv Tryz.func259 (by kernel_rfl) (by kernel_rfl) g74 rfl k74
def g75:Sig:=⟨⟨bv 0 [.konst (.ptr 0 0),.int .i64],[B10,.row .acc],[]⟩,.tup [],[B11,.konst .gone,.row .acc],[(1,0,big),(0,0,1),(0,3,4),(0,5,7)],false,false,[(0,6,.acc)],[1]⟩
def E75:Tr Sem1:=(.nd 251 (g60.sem aW) (.nd 129 (g43.sem aX) .lf .lf) .lf)
def A75:Anns:=⟨.lf,.lf,[(0,6,.acc)]⟩
theorem k75 x:g75.den E75 TT A75 F Tryz.f260 x=bY x:=by kernel_rfl
theorem o75:OK 260 (g75.sem bY):=tk (E:=E75) ⟨o60,⟨o43,tv,tv⟩,tv⟩ Tryz.func260 (by kernel_rfl) (by kernel_rfl) g75 rfl k75
def g76:Sig:=⟨⟨bv 0 [.konst (.ptr 0 0)],[B10,.row .acc],[]⟩,.one (.int .i64),[B11,.konst .gone,.row .acc],[(1,0,big),(0,0,1),(0,5,7)],false,false,[(0,6,.acc)],[1]⟩
def E76:Tr Sem1:=(.nd 245 (g47.sem bm) (.nd 129 (g43.sem aX) .lf .lf) .lf)
def A76:Anns:=⟨.lf,.lf,[(0,6,.acc)]⟩
theorem k76 x:g76.den E76 TT A76 F Tryz.f261 x=cm x:=by kernel_rfl
theorem o76:OK 261 (g76.sem cm):=tk (E:=E76) ⟨o47,⟨o43,tv,tv⟩,tv⟩ Tryz.func261 (by kernel_rfl) (by kernel_rfl) g76 rfl k76
def g77:Sig:=⟨⟨bv 0 [.konst (.ptr 0 0),.el .ins],[B10,.row .acc],[]⟩,.one (.int .i64),[B11,.konst .gone,.row .acc],[(1,0,big),(0,5,7)],false,false,[(0,6,.acc)],[1]⟩
def E77:Tr Sem1:=(.nd 189 (g48.sem aw) (.nd 129 (g43.sem aX) .lf .lf) .lf)
def A77:Anns:=⟨.lf,.lf,[(0,6,.acc)]⟩
theorem k77 x:g77.den E77 TT A77 F Tryz.f319 x=bC x:=by kernel_rfl
theorem o77:OK 319 (g77.sem bC):=tk (E:=E77) ⟨o48,⟨o43,tv,tv⟩,tv⟩ Tryz.func319 (by kernel_rfl) (by kernel_rfl) g77 rfl k77
def g78:Sig:=⟨⟨bv 0 [.konst (.ptr 0 0),.el .ins],[B10,.row .acc],[]⟩,.tup [],[B11,.konst .gone,.row .acc],[(1,0,big),(0,0,1),(0,3,7)],false,false,[(0,6,.acc)],[1]⟩
def E78:Tr Sem1:=(.nd 261 (g76.sem cm) (.nd 260 (g75.sem bY) (.nd 259 (g74.sem cS) .lf .lf) .lf) (.nd 319 (g77.sem bC) .lf .lf))
def A78:Anns:=⟨.lf,.lf,[(0,6,.acc)]⟩
theorem k78 x:g78.den E78 TT A78 F Tryz.f262 x=bX x:=by kernel_rfl
theorem o78:OK 262 (g78.sem bX):=tk (E:=E78) ⟨o76,⟨o75,⟨o74,tv,tv⟩,tv⟩,⟨o77,tv,tv⟩⟩ Tryz.func262 (by kernel_rfl) (by kernel_rfl) g78 rfl k78
def g79:Sig:=⟨⟨bv 0 [.konst (.ptr 0 0),.el .ins],[B10,.row .acc],[]⟩,.tup [],[B11,.konst .gone,.row .acc],[(1,0,big),(0,0,big)],false,false,[(0,6,.acc)],[1]⟩
def E79:Tr Sem1:=(.nd 251 (g60.sem aW) (.nd 196 (g21.sem aT) (.nd 189 (g48.sem aw) (.nd 129 (g43.sem aX) .lf .lf) (.nd 191 (g61.sem aK) .lf .lf)) (.nd 250 (g55.sem cz) (.nd 245 (g47.sem bm) .lf .lf) .lf)) (.nd 260 (g75.sem bY) (.nd 259 (g74.sem cS) (.nd 258 (g49.sem ef) .lf .lf) .lf) (.nd 262 (g78.sem bX) (.nd 261 (g76.sem cm) .lf .lf) .lf)))
def A79:Anns:=⟨.lf,(.nd 384 ⟨[(0,(.konst (.ptr 0 0))),(3,(.konst (.ptr 3 0))),(192,.bool)],[(B6),(.konst .gone),(.row .acc),(B2)],[]⟩ (.nd 84 ⟨[(0,(.konst (.ptr 0 0))),(3,(.konst (.ptr 3 0))),(4,(.int .i64))],[(B6),(.konst .gone),(.row .acc),(B2)],[]⟩ .lf .lf) .lf),[(0,6,.acc)]⟩
theorem k79 x:g79.den E79 TT A79 F Tryz.f198 x=aD x:=by kernel_rfl
theorem o79:OK 198 (g79.sem aD):=tk (E:=E79) ⟨o60,⟨o21,⟨o48,⟨o43,tv,tv⟩,⟨o61,tv,tv⟩⟩,⟨o55,⟨o47,tv,tv⟩,tv⟩⟩,⟨o75,⟨o74,⟨o49,tv,tv⟩,tv⟩,⟨o78,⟨o76,tv,tv⟩,tv⟩⟩⟩ Tryz.func198 (by kernel_rfl) (by kernel_rfl) g79 rfl k79
def g80:Sig:=⟨⟨bv 0 [.konst (.ptr 0 0),.el .ins],[B10,.row .acc],[]⟩,.tup [],[B11,.konst .gone,.row .acc],[(1,0,big),(0,0,big)],false,false,[(0,6,.acc)],[1]⟩
def E80:Tr Sem1:=(.nd 193 (g64.sem eY) (.nd 190 (g54.sem gn) (.nd 189 (g48.sem aw) (.nd 60 (g10.sem bj) .lf .lf) .lf) (.nd 192 (g62.sem gp) (.nd 191 (g61.sem aK) .lf .lf) .lf)) (.nd 196 (g21.sem aT) (.nd 195 (g45.sem bS) (.nd 194 (g68.sem cr) .lf .lf) .lf) (.nd 198 (g79.sem aD) (.nd 197 (g73.sem du) .lf .lf) .lf)))
def A80:Anns:=⟨.lf,(.nd 150 ⟨[(0,(.konst (.ptr 0 0))),(3,(.konst (.ptr 3 0))),(75,.bool)],[(B6),(.konst .gone),(.row .acc),(B2)],[]⟩ (.nd 42 ⟨[(0,(.konst (.ptr 0 0))),(3,(.konst (.ptr 3 0))),(21,.bool)],[(B6),(.konst .gone),(.row .acc),(B2)],[]⟩ .lf .lf) .lf),[(0,6,.acc)]⟩
theorem k80 x:g80.den E80 TT A80 F Tryz.f130 x=aR x:=by kernel_rfl
theorem o80:OK 130 (g80.sem aR):=tk (E:=E80) ⟨o64,⟨o54,⟨o48,⟨o10,tv,tv⟩,tv⟩,⟨o62,⟨o61,tv,tv⟩,tv⟩⟩,⟨o21,⟨o45,⟨o68,tv,tv⟩,tv⟩,⟨o79,⟨o73,tv,tv⟩,tv⟩⟩⟩ Tryz.func130 (by kernel_rfl) (by kernel_rfl) g80 rfl k80
def g81:Sig:=⟨⟨bv 0 [.agg [.arr .i 16,.int .i64,.int .i64],.agg [.list .page],.el .ins],[],[]⟩,.tup [.agg [.arr .i 16,.int .i64,.int .i64],.agg [.list .page],.list .acc,.int .i64],[],[],false,false,[],[]⟩
def E81:Tr Sem1:=(.nd 130 (g80.sem aR) (.nd 129 (g43.sem aX) .lf .lf) .lf)
def A81:Anns:=⟨.lf,.lf,[(20,6,.acc)]⟩
theorem k81 x:g81.den E81 TT A81 F Tryz.f71 x=fP x:=by kernel_rfl
theorem o81:OK 71 (g81.sem fP):=tk (E:=E81) ⟨o80,⟨o43,tv,tv⟩,tv⟩ Tryz.func71 (by kernel_rfl) (by kernel_rfl) g81 rfl k81
def g82:Sig:=⟨⟨bv 0 [.agg [.arr .i 16,.int .i64,.int .i64],.agg [.list .page]],[],[]⟩,.tup [.agg [.arr .i 16,.int .i64,.int .i64],.agg [.list .page],.list .acc,.int .i64],[],[],false,false,[],[]⟩
def E82:Tr Sem1:=(.nd 134 (g17.sem eT) (.nd 71 (g81.sem fP) .lf .lf) (.nd 135 (g42.sem d8) .lf .lf))
theorem k82 x:g82.den E82 TT AN F Tryz.f81 x=fQ x:=by kernel_rfl
theorem o82:OK 81 (g82.sem fQ):=tk (E:=E82) ⟨o17,⟨o81,tv,tv⟩,⟨o42,tv,tv⟩⟩ Tryz.func81 (by kernel_rfl) (by kernel_rfl) g82 rfl k82
def g83:Sig:=⟨⟨bv 0 [.agg [.arr .i 16,.int .i64,.int .i64],.agg [.list .page]],[],[]⟩,.tup [.agg [.arr .i 16,.int .i64,.int .i64],.agg [.list .page],.list .acc,.int .i64],[],[],false,false,[],[]⟩
def E83:Tr Sem1:=(.nd 72 (g57.sem ed) (.nd 70 (g13.sem eR) (.nd 69 (g9.sem ib) .lf .lf) .lf) (.nd 81 (g82.sem fQ) .lf .lf))
theorem k83 x:g83.den E83 TT AN F Tryz.f42 x=fG x:=by kernel_rfl
theorem o83:OK 42 (g83.sem fG):=tk (E:=E83) ⟨o57,⟨o13,⟨o9,tv,tv⟩,tv⟩,⟨o82,tv,tv⟩⟩ Tryz.func42 (by kernel_rfl) (by kernel_rfl) g83 rfl k83
def g84:Sig:=⟨⟨bv 0 [.int .i64],[],[]⟩,.one (.bool),[],[],false,false,[],[]⟩
theorem k84 x:g84.den Tr.lf TT AN F Tryz.f111 x=fY x:=by kernel_rfl
theorem o84:OK 111 (g84.sem fY):=tk (E:=Tr.lf) tv Tryz.func111 (by kernel_rfl) (by kernel_rfl) g84 rfl k84
def g85:Sig:=⟨⟨bv 0 [.agg [.arr .i 16,.int .i64,.int .i64]],[],[]⟩,.one (.bool),[],[],false,false,[],[]⟩
def E85:Tr Sem1:=(.nd 111 (g84.sem fY) .lf .lf)
theorem k85 x:g85.den E85 TT AN F Tryz.f53 x=gX x:=by kernel_rfl
theorem o85:OK 53 (g85.sem gX):=tk (E:=E85) ⟨o84,tv,tv⟩ Tryz.func53 (by kernel_rfl) (by kernel_rfl) g85 rfl k85
def g86:Sig:=⟨⟨bv 0 [.int .i64,.int .i64,.int .i64],[],[]⟩,.one (.bool),[],[],false,false,[],[]⟩
theorem k86 x:g86.den Tr.lf TT AN F Tryz.f58 x=aA x:=by kernel_rfl
theorem o86:OK 58 (g86.sem aA):=tk (E:=Tr.lf) tv Tryz.func58 (by kernel_rfl) (by kernel_rfl) g86 rfl k86
def g87:Sig:=⟨⟨bv 0 [.int .i64],[],[]⟩,.one (.bool),[],[],false,false,[],[]⟩
def E87:Tr Sem1:=(.nd 58 (g86.sem aA) .lf .lf)
theorem k87 x:g87.den E87 TT AN F Tryz.f112 x=im x:=by kernel_rfl
theorem o87:OK 112 (g87.sem im):=tk (E:=E87) ⟨o86,tv,tv⟩ Tryz.func112 (by kernel_rfl) (by kernel_rfl) g87 rfl k87
def g88:Sig:=⟨⟨bv 0 [.int .i64],[],[]⟩,.one (.bool),[],[],false,false,[],[]⟩
def E88:Tr Sem1:=(.nd 58 (g86.sem aA) .lf .lf)
theorem k88 x:g88.den E88 TT AN F Tryz.f113 x=io x:=by kernel_rfl
theorem o88:OK 113 (g88.sem io):=tk (E:=E88) ⟨o86,tv,tv⟩ Tryz.func113 (by kernel_rfl) (by kernel_rfl) g88 rfl k88
def g89:Sig:=⟨⟨bv 0 [.agg [.list .page]],[],[]⟩,.one (.bool),[],[],false,false,[],[]⟩
def E89:Tr Sem1:=(.nd 113 (g88.sem io) (.nd 112 (g87.sem im) .lf .lf) .lf)
def A89:Anns:=⟨(.nd 0 (.loop ⟨[(1,(.konst (.ptr 0 0))),(6,(.list .page)),(7,(.int .i64)),(8,(.int .i64))],[(.var [(.list .page)])],[]⟩) .lf .lf),.lf,[]⟩
theorem k89 x:g89.den E89 TT A89 F Tryz.f54 x=di x:=by kernel_rfl
theorem o89:OK 54 (g89.sem di):=tk (E:=E89) ⟨o88,⟨o87,tv,tv⟩,tv⟩ Tryz.func54 (by kernel_rfl) (by kernel_rfl) g89 rfl k89
def g90:Sig:=⟨⟨bv 0 [.el .page,.konst (.ptr 0 0)],[.var [.int .i64]],[]⟩,.one (.bool),[.var [.int .i64]],[],false,false,[],[]⟩
theorem k90 x:g90.den Tr.lf TT AN F Tryz.f324 x=cY x:=by kernel_rfl
theorem o90:OK 324 (g90.sem cY):=tk (E:=Tr.lf) tv Tryz.func324 (by kernel_rfl) (by kernel_rfl) g90 rfl k90
def g91:Sig:=⟨⟨bv 0 [.list .page,.konst (.func (.func 324) [] [.ptr 0 0])],[.var [.int .i64]],[]⟩,.one (.int .i64),[.var [.int .i64]],[],false,false,[],[]⟩
def E91:Tr Sem1:=(.nd 324 (g90.sem cY) .lf .lf)
def A91:Anns:=⟨(.nd 0 (.loop ⟨[(0,(.list .page)),(1,(.konst (.func (.func 324) [] [(.ptr 0 0)]))),(7,(.int .i64)),(8,(.int .i64))],[(.var [(.int .i64)])],[]⟩) .lf .lf),.lf,[]⟩
theorem k91 x:g91.den E91 TT A91 F Tryz.f323 x=aJ x:=by kernel_rfl
theorem o91:OK 323 (g91.sem aJ):=tk (E:=E91) ⟨o90,tv,tv⟩ Tryz.func323 (by kernel_rfl) (by kernel_rfl) g91 rfl k91
def g92:Sig:=⟨⟨bv 0 [.agg [.list .page],.int .i64],[],[]⟩,.one (.int .i64),[],[],false,false,[],[]⟩
def E92:Tr Sem1:=(.nd 323 (g91.sem aJ) (.nd 58 (g86.sem aA) .lf .lf) .lf)
theorem k92 x:g92.den E92 TT AN F Tryz.f272 x=bz x:=by kernel_rfl
theorem o92:OK 272 (g92.sem bz):=tk (E:=E92) ⟨o91,⟨o86,tv,tv⟩,tv⟩ Tryz.func272 (by kernel_rfl) (by kernel_rfl) g92 rfl k92
def g93:Sig:=⟨⟨bv 0 [.agg [.list .page],.int .i64,.int .i64,.int .i64],[],[]⟩,.one (.int .i64),[],[],false,false,[],[]⟩
def E93:Tr Sem1:=(.nd 272 (g92.sem bz) .lf .lf)
def A93:Anns:=⟨(.nd 0 (.loop ⟨[(1,(.int .i64)),(3,(.int .i64)),(4,(.konst (.ptr 0 0))),(11,(.int .i64)),(12,(.int .i64))],[(.var [(.list .page)])],[]⟩) .lf .lf),.lf,[]⟩
theorem k93 x:g93.den E93 TT A93 F Tryz.f210 x=be x:=by kernel_rfl
theorem o93:OK 210 (g93.sem be):=tk (E:=E93) ⟨o92,tv,tv⟩ Tryz.func210 (by kernel_rfl) (by kernel_rfl) g93 rfl k93
def g94:Sig:=⟨⟨bv 0 [.agg [.list .page],.int .i64,.int .i64],[],[]⟩,.one (.str),[],[],false,false,[],[]⟩
def E94:Tr Sem1:=(.nd 272 (g92.sem bz) .lf .lf)
def A94:Anns:=⟨(.nd 0 (.loop ⟨[(1,(.int .i64)),(3,(.konst (.ptr 0 0))),(7,(.konst (.vec 1))),(12,(.int .i64)),(13,(.int .i64))],[(.var [(.list .page)]),(.row .u)],[]⟩) .lf .lf),.lf,[]⟩
theorem k94 x:g94.den E94 TT A94 F Tryz.f211 x=bN x:=by kernel_rfl
theorem o94:OK 211 (g94.sem bN):=tk (E:=E94) ⟨o92,tv,tv⟩ Tryz.func211 (by kernel_rfl) (by kernel_rfl) g94 rfl k94
def g95:Sig:=⟨⟨bv 0 [.agg [.list .page],.int .i64],[],[]⟩,.tup [.str,.int .i64],[],[],false,false,[],[]⟩
def E95:Tr Sem1:=(.nd 210 (g93.sem be) (.nd 54 (g89.sem di) .lf .lf) (.nd 211 (g94.sem bN) .lf .lf))
def A95:Anns:=⟨(.nd 0 (.loop ⟨[(1,(.int .i64)),(2,(.konst (.ptr 0 0))),(7,(.int .i64))],[(.var [(.list .page)])],[]⟩) .lf .lf),.lf,[]⟩
theorem k95 x:g95.den E95 TT A95 F Tryz.f137 x=fy x:=by kernel_rfl
theorem o95:OK 137 (g95.sem fy):=tk (E:=E95) ⟨o93,⟨o89,tv,tv⟩,⟨o94,tv,tv⟩⟩ Tryz.func137 (by kernel_rfl) (by kernel_rfl) g95 rfl k95
def g96:Sig:=⟨⟨bv 0 [.konst (.ptr 0 0),.int .i64,.int .i64],[B1],[]⟩,.one (.bool),[B1],[],false,false,[],[]⟩
def E96:Tr Sem1:=(.nd 58 (g86.sem aA) .lf .lf)
theorem k96 x:g96.den E96 TT AN F Tryz.f273 x=bO x:=by kernel_rfl
theorem o96:OK 273 (g96.sem bO):=tk (E:=E96) ⟨o86,tv,tv⟩ Tryz.func273 (by kernel_rfl) (by kernel_rfl) g96 rfl k96
def g97:Sig:=⟨⟨bv 0 [.konst (.ptr 0 0),.bool,.int .i64],[B1],[]⟩,.tup [],[B1],[(0,2,3)],false,false,[],[]⟩
theorem k97 x:g97.den Tr.lf TT AN F Tryz.f275 x=aF x:=by kernel_rfl
theorem o97:OK 275 (g97.sem aF):=tk (E:=Tr.lf) tv Tryz.func275 (by kernel_rfl) (by kernel_rfl) g97 rfl k97
def g98:Sig:=⟨⟨bv 0 [.str],[],[]⟩,.one (.int .i64),[],[],false,false,[],[]⟩
def A98:Anns:=⟨(.nd 0 (.loop ⟨[(0,.str),(3,(.int .i64)),(6,(.int .i64)),(7,(.int .i64))],[],[]⟩) .lf .lf),.lf,[]⟩
theorem k98 x:g98.den Tr.lf TT A98 F Tryz.f298 x=fp x:=by kernel_rfl
theorem o98:OK 298 (g98.sem fp):=tk (E:=Tr.lf) tv Tryz.func298 (by kernel_rfl) (by kernel_rfl) g98 rfl k98
def g99:Sig:=⟨⟨bv 0 [.konst (.ptr 0 0),.int .i64],[B1],[]⟩,.one (.int .i64),[B1],[(0,1,3)],false,false,[],[]⟩
def E99:Tr Sem1:=(.nd 298 (g98.sem fp) (.nd 275 (g97.sem aF) .lf .lf) .lf)
theorem k99 x:g99.den E99 TT AN F Tryz.f274 x=aL x:=by kernel_rfl
theorem o99:OK 274 (g99.sem aL):=tk (E:=E99) ⟨o98,⟨o97,tv,tv⟩,tv⟩ Tryz.func274 (by kernel_rfl) (by kernel_rfl) g99 rfl k99
def g100:Sig:=⟨⟨bv 0 [.konst (.ptr 0 0)],[B1],[]⟩,.one (.bool),[B1],[],false,false,[],[]⟩
def E100:Tr Sem1:=(.nd 273 (g96.sem bO) .lf .lf)
def A100:Anns:=⟨(.nd 0 (.loop ⟨[(0,(.konst (.ptr 0 0))),(5,(.konst (.vec 1))),(6,(.int .i64)),(7,(.int .i64))],[(B0),(.row .i)],[]⟩) .lf .lf),.lf,[]⟩
theorem k100 x:g100.den E100 TT A100 F Tryz.f276 x=ci x:=by kernel_rfl
theorem o100:OK 276 (g100.sem ci):=tk (E:=E100) ⟨o96,tv,tv⟩ Tryz.func276 (by kernel_rfl) (by kernel_rfl) g100 rfl k100
def g101:Sig:=⟨⟨bv 0 [.konst (.ptr 0 0)],[B1],[]⟩,.tup [],[B1],[(0,1,6)],false,false,[],[]⟩
def E101:Tr Sem1:=(.nd 275 (g97.sem aF) (.nd 274 (g99.sem aL) (.nd 273 (g96.sem bO) .lf .lf) .lf) (.nd 276 (g100.sem ci) .lf .lf))
def A101:Anns:=⟨.lf,(.nd 6 ⟨[(0,(.konst (.ptr 0 0)))],[(B0)],[]⟩ .lf .lf),[]⟩
theorem k101 x:g101.den E101 TT A101 F Tryz.f212 x=cl x:=by kernel_rfl
theorem o101:OK 212 (g101.sem cl):=tk (E:=E101) ⟨o97,⟨o99,⟨o96,tv,tv⟩,tv⟩,⟨o100,tv,tv⟩⟩ Tryz.func212 (by kernel_rfl) (by kernel_rfl) g101 rfl k101
def g102:Sig:=⟨⟨bv 0 [.int .i64],[],[]⟩,.one (.bool),[],[],false,false,[],[]⟩
def E102:Tr Sem1:=(.nd 58 (g86.sem aA) .lf .lf)
theorem k102 x:g102.den E102 TT AN F Tryz.f155 x=jh x:=by kernel_rfl
theorem o102:OK 155 (g102.sem jh):=tk (E:=E102) ⟨o86,tv,tv⟩ Tryz.func155 (by kernel_rfl) (by kernel_rfl) g102 rfl k102
def g103:Sig:=⟨⟨bv 0 [.int .i64,.int .i64,.int .i64,.konst (.ptr 0 0)],[.var [.bool]],[]⟩,.one (V15),[.var [.bool]],[],false,false,[],[]⟩
theorem k103 x:g103.den Tr.lf TT AN F Tryz.f337 x=bo x:=by kernel_rfl
theorem o103:OK 337 (g103.sem bo):=tk (E:=Tr.lf) tv Tryz.func337 (by kernel_rfl) (by kernel_rfl) g103 rfl k103
def g104:Sig:=⟨⟨bv 0 [.int .i64],[],[]⟩,.one (V15),[],[],false,false,[],[]⟩
def E104:Tr Sem1:=(.nd 337 (g103.sem bo) (.nd 58 (g86.sem aA) .lf .lf) .lf)
def A104:Anns:=⟨.lf,(.nd 204 ⟨[(2,(.konst (.ptr 0 0))),(4,(.konst (.func (.func 337) [] [(.ptr 1 0)]))),(46,(.int .i64)),(102,.bool)],[(B13),(.var [.bool])],[]⟩ (.nd 138 ⟨[(2,(.konst (.ptr 0 0))),(4,(.konst (.func (.func 337) [] [(.ptr 1 0)]))),(46,(.int .i64)),(69,.bool)],[(B13),(.var [.bool])],[]⟩ (.nd 128 ⟨[(2,(.konst (.ptr 0 0))),(4,(.konst (.func (.func 337) [] [(.ptr 1 0)]))),(46,(.int .i64)),(64,.bool)],[(B13),(.var [.bool])],[]⟩ (.nd 112 ⟨[(2,(.konst (.ptr 0 0))),(4,(.konst (.func (.func 337) [] [(.ptr 1 0)]))),(46,(.int .i64)),(56,.bool)],[(B13),(.var [.bool])],[]⟩ .lf .lf) .lf) (.nd 158 ⟨[(2,(.konst (.ptr 0 0))),(4,(.konst (.func (.func 337) [] [(.ptr 1 0)]))),(46,(.int .i64)),(79,.bool)],[(B13),(.var [.bool])],[]⟩ (.nd 148 ⟨[(2,(.konst (.ptr 0 0))),(4,(.konst (.func (.func 337) [] [(.ptr 1 0)]))),(46,(.int .i64)),(74,.bool)],[(B13),(.var [.bool])],[]⟩ .lf .lf) .lf)) (.nd 252 ⟨[(2,(.konst (.ptr 0 0))),(4,(.konst (.func (.func 337) [] [(.ptr 1 0)]))),(46,(.int .i64)),(126,.bool)],[(B13),(.var [.bool])],[]⟩ (.nd 236 ⟨[(2,(.konst (.ptr 0 0))),(4,(.konst (.func (.func 337) [] [(.ptr 1 0)]))),(46,(.int .i64)),(118,.bool)],[(B13),(.var [.bool])],[]⟩ (.nd 220 ⟨[(2,(.konst (.ptr 0 0))),(4,(.konst (.func (.func 337) [] [(.ptr 1 0)]))),(46,(.int .i64)),(110,.bool)],[(B13),(.var [.bool])],[]⟩ .lf .lf) .lf) (.nd 296 ⟨[(2,(.konst (.ptr 0 0))),(4,(.konst (.func (.func 337) [] [(.ptr 1 0)]))),(46,(.int .i64)),(148,.bool)],[(B13),(.var [.bool])],[]⟩ (.nd 262 ⟨[(2,(.konst (.ptr 0 0))),(4,(.konst (.func (.func 337) [] [(.ptr 1 0)]))),(46,(.int .i64)),(131,.bool)],[(B13),(.var [.bool])],[]⟩ .lf .lf) .lf))),[]⟩
theorem k104 x:g104.den E104 TT A104 F Tryz.f325 x=iQ x:=by kernel_rfl
theorem o104:OK 325 (g104.sem iQ):=tk (E:=E104) ⟨o103,⟨o86,tv,tv⟩,tv⟩ Tryz.func325 (by kernel_rfl) (by kernel_rfl) g104 rfl k104
def g105:Sig:=⟨⟨bv 0 [.int .i64],[],[]⟩,.one (V15),[],[],false,false,[],[]⟩
def E105:Tr Sem1:=(.nd 58 (g86.sem aA) .lf .lf)
theorem k105 x:g105.den E105 TT AN F Tryz.f326 x=iR x:=by kernel_rfl
theorem o105:OK 326 (g105.sem iR):=tk (E:=E105) ⟨o86,tv,tv⟩ Tryz.func326 (by kernel_rfl) (by kernel_rfl) g105 rfl k105
def g106:Sig:=⟨⟨bv 0 [.bool,.int .i64],[],[]⟩,.tup [V15,.int .i64],[],[],false,false,[],[]⟩
def E106:Tr Sem1:=(.nd 325 (g104.sem iQ) (.nd 155 (g102.sem jh) .lf .lf) (.nd 326 (g105.sem iR) .lf .lf))
def A106:Anns:=⟨.lf,(.nd 26 ⟨[(4,(.konst (.ptr 0 0))),(6,(.konst (.ptr 1 0)))],[(B13),(B13)],[]⟩ .lf .lf),[]⟩
theorem k106 x:g106.den E106 TT A106 F Tryz.f277 x=fB x:=by kernel_rfl
theorem o106:OK 277 (g106.sem fB):=tk (E:=E106) ⟨o104,⟨o102,tv,tv⟩,⟨o105,tv,tv⟩⟩ Tryz.func277 (by kernel_rfl) (by kernel_rfl) g106 rfl k106
def g107:Sig:=⟨⟨bv 0 [.konst (.ptr 0 0)],[B1],[]⟩,.tup [],[B1],[(0,1,3),(0,6,12),(0,15,16)],false,false,[],[]⟩
def E107:Tr Sem1:=(.nd 275 (g97.sem aF) (.nd 274 (g99.sem aL) .lf .lf) (.nd 277 (g106.sem fB) .lf .lf))
def A107:Anns:=⟨.lf,(.nd 44 ⟨[(0,(.konst (.ptr 0 0))),(2,.bool)],[(B0)],[]⟩ .lf .lf),[]⟩
theorem k107 x:g107.den E107 TT A107 F Tryz.f213 x=b8 x:=by kernel_rfl
theorem o107:OK 213 (g107.sem b8):=tk (E:=E107) ⟨o97,⟨o99,tv,tv⟩,⟨o106,tv,tv⟩⟩ Tryz.func213 (by kernel_rfl) (by kernel_rfl) g107 rfl k107
def g108:Sig:=⟨⟨bv 0 [.int .i64],[],[]⟩,.one (.bool),[],[],false,false,[],[]⟩
def A108:Anns:=⟨.lf,(.nd 8 ⟨[(4,.bool)],[],[]⟩ .lf .lf),[]⟩
theorem k108 x:g108.den Tr.lf TT A108 F Tryz.f278 x=eK x:=by kernel_rfl
theorem o108:OK 278 (g108.sem eK):=tk (E:=Tr.lf) tv Tryz.func278 (by kernel_rfl) (by kernel_rfl) g108 rfl k108
def g109:Sig:=⟨⟨bv 0 [.int .i64],[],[]⟩,.one (.list .i),[],[],false,false,[],[]⟩
theorem k109 x:g109.den Tr.lf TT AN F Tryz.f327 x=il x:=by kernel_rfl
theorem o109:OK 327 (g109.sem il):=tk (E:=Tr.lf) tv Tryz.func327 (by kernel_rfl) (by kernel_rfl) g109 rfl k109
def g110:Sig:=⟨⟨bv 0 [.int .i64,.int .i64],[],[]⟩,.tup [.int .i64,.int .i64],[],[],false,false,[],[]⟩
def E110:Tr Sem1:=(.nd 327 (g109.sem il) (.nd 58 (g86.sem aA) .lf .lf) .lf)
theorem k110 x:g110.den E110 TT AN F Tryz.f279 x=fA x:=by kernel_rfl
theorem o110:OK 279 (g110.sem fA):=tk (E:=E110) ⟨o109,⟨o86,tv,tv⟩,tv⟩ Tryz.func279 (by kernel_rfl) (by kernel_rfl) g110 rfl k110
def g111:Sig:=⟨⟨bv 0 [.konst (.ptr 0 0)],[B1],[]⟩,.tup [],[B1],[(0,1,3),(0,12,16)],false,false,[],[]⟩
def E111:Tr Sem1:=(.nd 278 (g108.sem eK) (.nd 275 (g97.sem aF) (.nd 274 (g99.sem aL) .lf .lf) .lf) (.nd 279 (g110.sem fA) .lf .lf))
theorem k111 x:g111.den E111 TT AN F Tryz.f214 x=cW x:=by kernel_rfl
theorem o111:OK 214 (g111.sem cW):=tk (E:=E111) ⟨o108,⟨o97,⟨o99,tv,tv⟩,tv⟩,⟨o110,tv,tv⟩⟩ Tryz.func214 (by kernel_rfl) (by kernel_rfl) g111 rfl k111
def g112:Sig:=⟨⟨bv 0 [.int .i64],[],[]⟩,.tup [.int .i64,.bool],[],[],false,false,[],[]⟩
def A112:Anns:=⟨.lf,(.nd 20 ⟨[(10,.bool)],[],[]⟩ (.nd 10 ⟨[(4,(.int .i64)),(5,.bool)],[],[]⟩ .lf .lf) .lf),[]⟩
theorem k112 x:g112.den Tr.lf TT A112 F Tryz.f225 x=dU x:=by kernel_rfl
theorem o112:OK 225 (g112.sem dU):=tk (E:=Tr.lf) tv Tryz.func225 (by kernel_rfl) (by kernel_rfl) g112 rfl k112
def g113:Sig:=⟨⟨bv 0 [.konst (.ptr 0 0),.int .i64],[B1],[]⟩,.one (.int .i64),[B1],[],false,false,[],[]⟩
theorem k113 x:g113.den Tr.lf TT AN F Tryz.f280 x=aO x:=by kernel_rfl
theorem o113:OK 280 (g113.sem aO):=tk (E:=Tr.lf) tv Tryz.func280 (by kernel_rfl) (by kernel_rfl) g113 rfl k113
def g114:Sig:=⟨⟨bv 0 [.konst (.ptr 0 0)],[B1],[]⟩,.tup [],[B1],[(0,2,3),(0,16,17)],false,false,[],[]⟩
def E114:Tr Sem1:=(.nd 275 (g97.sem aF) (.nd 225 (g112.sem dU) (.nd 58 (g86.sem aA) .lf .lf) .lf) (.nd 280 (g113.sem aO) .lf .lf))
def A114:Anns:=⟨.lf,(.nd 69 ⟨[(0,(.konst (.ptr 0 0))),(3,.bool)],[(B0)],[]⟩ (.nd 49 ⟨[(0,(.konst (.ptr 0 0))),(3,.bool)],[(B0)],[]⟩ (.nd 35 ⟨[(0,(.konst (.ptr 0 0))),(3,.bool)],[(B0)],[]⟩ .lf .lf) .lf) (.nd 85 ⟨[(0,(.konst (.ptr 0 0))),(3,.bool)],[(B0)],[]⟩ .lf .lf)),[]⟩
theorem k114 x:g114.den E114 TT A114 F Tryz.f215 x=c7 x:=by kernel_rfl
theorem o114:OK 215 (g114.sem c7):=tk (E:=E114) ⟨o97,⟨o112,⟨o86,tv,tv⟩,tv⟩,⟨o113,tv,tv⟩⟩ Tryz.func215 (by kernel_rfl) (by kernel_rfl) g114 rfl k114
def g115:Sig:=⟨⟨bv 0 [.int .i64],[],[]⟩,.one (V12),[],[],false,false,[],[]⟩
theorem k115 x:g115.den Tr.lf TT AN F Tryz.f152 x=ec x:=by kernel_rfl
theorem o115:OK 152 (g115.sem ec):=tk (E:=Tr.lf) tv Tryz.func152 (by kernel_rfl) (by kernel_rfl) g115 rfl k115
def g116:Sig:=⟨⟨bv 0 [.konst (.ptr 0 0),.int .i64,.int .i64],[B1],[]⟩,.one (V12),[B1],[],false,false,[],[]⟩
def E116:Tr Sem1:=(.nd 152 (g115.sem ec) (.nd 58 (g86.sem aA) .lf .lf) .lf)
def A116:Anns:=⟨.lf,(.nd 38 ⟨[(1,(.int .i64)),(6,(.konst (.ptr 1 0)))],[(B0),(B7)],[]⟩ .lf .lf),[]⟩
theorem k116 x:g116.den E116 TT A116 F Tryz.f281 x=bq x:=by kernel_rfl
theorem o116:OK 281 (g116.sem bq):=tk (E:=E116) ⟨o115,⟨o86,tv,tv⟩,tv⟩ Tryz.func281 (by kernel_rfl) (by kernel_rfl) g116 rfl k116
def Ed:Sig:=⟨⟨bv 0 [.int .i64,.int .i64],[],[]⟩,.one (.int .i64),[],[],false,false,[],[]⟩
theorem k117 x:Ed.den Tr.lf TT AN F Tryz.f165 x=bA x:=by kernel_rfl
theorem o117:OK 165 (Ed.sem bA):=tk (E:=Tr.lf) tv Tryz.func165 (by kernel_rfl) (by kernel_rfl) Ed rfl k117
def g118:Sig:=⟨⟨bv 0 [.konst (.ptr 0 0),.int .i64],[B1],[]⟩,.one (.int .i64),[B1],[(0,1,3)],false,false,[],[]⟩
def E118:Tr Sem1:=(.nd 274 (g99.sem aL) (.nd 165 (Ed.sem bA) .lf .lf) .lf)
theorem k118 x:g118.den E118 TT AN F Tryz.f284 x=aS x:=by kernel_rfl
theorem o118:OK 284 (g118.sem aS):=tk (E:=E118) ⟨o99,⟨o117,tv,tv⟩,tv⟩ Tryz.func284 (by kernel_rfl) (by kernel_rfl) g118 rfl k118
def g119:Sig:=⟨⟨bv 0 [.konst (.ptr 0 0),.int .i64],[B1],[]⟩,.one (V12),[B1],[(0,1,3)],false,false,[],[]⟩
def E119:Tr Sem1:=(.nd 281 (g116.sem bq) (.nd 280 (g113.sem aO) (.nd 274 (g99.sem aL) .lf .lf) .lf) (.nd 284 (g118.sem aS) .lf .lf))
def A119:Anns:=⟨.lf,(.nd 148 ⟨[(0,(.konst (.ptr 0 0))),(4,(.konst (.ptr 1 0))),(5,(.konst (.ptr 2 0))),(6,.bool)],[(B0),(B7),(B7)],[]⟩ (.nd 116 ⟨[(0,(.konst (.ptr 0 0))),(4,(.konst (.ptr 1 0))),(5,(.konst (.ptr 2 0))),(6,.bool),(7,(.int .i64))],[(B0),(B7),(B7)],[]⟩ (.nd 75 ⟨[(0,(.konst (.ptr 0 0))),(4,(.konst (.ptr 1 0))),(5,(.konst (.ptr 2 0))),(6,.bool)],[(B0),(B7),(B7)],[]⟩ .lf .lf) .lf) (.nd 152 ⟨[(0,(.konst (.ptr 0 0))),(4,(.konst (.ptr 1 0))),(5,(.konst (.ptr 2 0))),(6,.bool)],[(B0),(B7),(B7)],[]⟩ .lf .lf)),[]⟩
theorem k119 x:g119.den E119 TT A119 F Tryz.f282 x=aQ x:=by kernel_rfl
theorem o119:OK 282 (g119.sem aQ):=tk (E:=E119) ⟨o116,⟨o113,⟨o99,tv,tv⟩,tv⟩,⟨o118,tv,tv⟩⟩ Tryz.func282 (by kernel_rfl) (by kernel_rfl) g119 rfl k119
def g120:Sig:=⟨⟨bv 0 [.int .i64],[],[]⟩,.one (V12),[],[],false,false,[],[]⟩
theorem k120 x:g120.den Tr.lf TT AN F Tryz.f154 x=cG x:=by kernel_rfl
theorem o120:OK 154 (g120.sem cG):=tk (E:=Tr.lf) tv Tryz.func154 (by kernel_rfl) (by kernel_rfl) g120 rfl k120
def g121:Sig:=⟨⟨bv 0 [.konst (.ptr 0 0)],[B1],[]⟩,.one (V12),[B1],[(0,1,3)],false,false,[],[]⟩
def E121:Tr Sem1:=(.nd 284 (g118.sem aS) (.nd 154 (g120.sem cG) .lf .lf) .lf)
theorem k121 x:g121.den E121 TT AN F Tryz.f283 x=bk x:=by kernel_rfl
theorem o121:OK 283 (g121.sem bk):=tk (E:=E121) ⟨o118,⟨o120,tv,tv⟩,tv⟩ Tryz.func283 (by kernel_rfl) (by kernel_rfl) g121 rfl k121
def g122:Sig:=⟨⟨bv 0 [.konst (.ptr 0 0)],[B1],[]⟩,.tup [],[B1],[(0,1,3),(0,19,33)],false,false,[],[]⟩
def E122:Tr Sem1:=(.nd 283 (g121.sem bk) (.nd 282 (g119.sem aQ) .lf .lf) .lf)
def A122:Anns:=⟨.lf,(.nd 30 ⟨[(0,(.konst (.ptr 0 0))),(2,(.konst (.ptr 1 0))),(15,.bool)],[(B0),(B7)],[]⟩ .lf .lf),[]⟩
theorem k122 x:g122.den E122 TT A122 F Tryz.f285 x=cj x:=by kernel_rfl
theorem o122:OK 285 (g122.sem cj):=tk (E:=E122) ⟨o121,⟨o119,tv,tv⟩,tv⟩ Tryz.func285 (by kernel_rfl) (by kernel_rfl) g122 rfl k122
def g123:Sig:=⟨⟨bv 0 [.konst (.ptr 0 0)],[B1],[]⟩,.tup [],[B1],[(0,1,3),(0,18,33)],false,false,[],[]⟩
def E123:Tr Sem1:=(.nd 281 (g116.sem bq) (.nd 165 (Ed.sem bA) (.nd 154 (g120.sem cG) (.nd 152 (g115.sem ec) .lf .lf) .lf) (.nd 280 (g113.sem aO) (.nd 274 (g99.sem aL) .lf .lf) .lf)) (.nd 284 (g118.sem aS) (.nd 283 (g121.sem bk) (.nd 282 (g119.sem aQ) .lf .lf) .lf) (.nd 285 (g122.sem cj) .lf .lf)))
def A123:Anns:=⟨.lf,(.nd 410 ⟨[(0,(.konst (.ptr 0 0))),(2,(.konst (.ptr 0 15))),(26,(.int .i64)),(205,.bool)],[(B0)],[]⟩ (.nd 394 ⟨[(2,(.konst (.ptr 0 15))),(5,(.int .i64))],[(B0)],[]⟩ .lf .lf) .lf),[]⟩
theorem k123 x:g123.den E123 TT A123 F Tryz.f216 x=ck x:=by kernel_rfl
theorem o123:OK 216 (g123.sem ck):=tk (E:=E123) ⟨o116,⟨o117,⟨o120,⟨o115,tv,tv⟩,tv⟩,⟨o113,⟨o99,tv,tv⟩,tv⟩⟩,⟨o118,⟨o121,⟨o119,tv,tv⟩,tv⟩,⟨o122,tv,tv⟩⟩⟩ Tryz.func216 (by kernel_rfl) (by kernel_rfl) g123 rfl k123
def g124:Sig:=⟨⟨bv 0 [.str,.int .i64],[],[]⟩,.tup [.el .ins,.int .i64],[],[],false,false,[],[]⟩
def E124:Tr Sem1:=(.nd 214 (g111.sem cW) (.nd 213 (g107.sem b8) (.nd 212 (g101.sem cl) .lf .lf) .lf) (.nd 216 (g123.sem ck) (.nd 215 (g114.sem c7) .lf .lf) .lf))
def A124:Anns:=⟨(.nd 0 (.unroll 6) .lf .lf),(.nd 94 ⟨[(1,(.int .i64)),(4,(.konst (.ptr 0 0))),(6,(.konst (.ptr 1 0))),(47,.bool)],[(B2),(B0)],[]⟩ .lf .lf),[]⟩
theorem k124 x:g124.den E124 TT A124 F Tryz.f138 x=gf x:=by kernel_rfl
theorem o124:OK 138 (g124.sem gf):=tk (E:=E124) ⟨o111,⟨o107,⟨o101,tv,tv⟩,tv⟩,⟨o123,⟨o114,tv,tv⟩,tv⟩⟩ Tryz.func138 (by kernel_rfl) (by kernel_rfl) g124 rfl k124
def g125:Sig:=⟨⟨bv 0 [.list .page],[],[]⟩,.one (.konst (.vec 0)),[.row .page],[],false,true,[(2,0,.page)],[]⟩
theorem k125 x:g125.den Tr.lf TT AN F Tryz.f136 x=cQ x:=by kernel_rfl
theorem o125:OK 136 (g125.sem cQ):=tk (E:=Tr.lf) tv Tryz.func136 (by kernel_rfl) (by kernel_rfl) g125 rfl k125
def g126:Sig:=⟨⟨bv 0 [.agg [.list .page]],[],[]⟩,.one (.agg [.konst (.vec 0)]),[.row .page],[],false,true,[(2,1,.page)],[]⟩
def E126:Tr Sem1:=(.nd 136 (g125.sem cQ) .lf .lf)
theorem k126 x:g126.den E126 TT AN F Tryz.f82 x=bt x:=by kernel_rfl
theorem o126:OK 82 (g126.sem bt):=tk (E:=E126) ⟨o125,tv,tv⟩ Tryz.func82 (by kernel_rfl) (by kernel_rfl) g126 rfl k126
def Ee:Sig:=⟨⟨bv 0 [.int .i64],[],[]⟩,.one (.bool),[],[],false,false,[],[]⟩
def E127:Tr Sem1:=(.nd 58 (g86.sem aA) .lf .lf)
theorem k127 x:Ee.den E127 TT AN F Tryz.f156 x=aG x:=by kernel_rfl
theorem o127:OK 156 (Ee.sem aG):=tk (E:=E127) ⟨o86,tv,tv⟩ Tryz.func156 (by kernel_rfl) (by kernel_rfl) Ee rfl k127
def rn:Sig:=⟨⟨bv 0 [.int .i64,.int .i64],[],[]⟩,.one (.int .i64),[],[],false,false,[],[]⟩
theorem k128 x:rn.den Tr.lf TT AN F Tryz.f183 x=ae x:=by kernel_rfl
theorem tY:OK 183 (rn.sem ae):=tk (E:=Tr.lf) tv Tryz.func183 (by kernel_rfl) (by kernel_rfl) rn rfl k128
def E129:Tr Sem1:=(.nd 183 (rn.sem ae) (.nd 156 (Ee.sem aG) .lf .lf) .lf)
def I129:Sem1:=BC E129 TT AN 1000000 Tryz.f169 false []
theorem o129:OK 169 I129:=in_ok ⟨tok,eqs,Tr.All.get (t:=E129) ⟨tY,⟨o127,tv,tv⟩,tv⟩,mix⟩ Tryz.func169 (by kernel_rfl) (by kernel_rfl) false []
def I130:Sem1:=BC Tr.lf TT AN 1000000 Tryz.f57 false []
theorem o130:OK 57 I130:=in_ok ⟨tok,eqs,Tr.All.get (t:=Tr.lf) tv,mix⟩ Tryz.func57 (by kernel_rfl) (by kernel_rfl) false []
def g131:Sig:=⟨⟨bv 0 [.agg [.list .page],.int .i64,.int .i64],[],[]⟩,.tup [.int .i64,.int .i64],[],[],false,false,[],[]⟩
def E131:Tr Sem1:=(.nd 211 (g94.sem bN) (.nd 210 (g93.sem be) .lf .lf) (.nd 298 (g98.sem fp) .lf .lf))
theorem k131 x:g131.den E131 TT AN F Tryz.f237 x=dl x:=by kernel_rfl
theorem o131:OK 237 (g131.sem dl):=tk (E:=E131) ⟨o94,⟨o93,tv,tv⟩,⟨o98,tv,tv⟩⟩ Tryz.func237 (by kernel_rfl) (by kernel_rfl) g131 rfl k131
def g132:Sig:=⟨⟨bv 0 [.konst (.ptr 0 0),.int .i64,.int .i64],[B8,.row .page,.row .acc],[]⟩,.one (.int .i64),[B9,.konst .gone,.konst .gone,.row .page,.row .acc],[(1,0,big),(2,0,big),(0,3,4),(0,5,7)],false,false,[(0,4,.page),(0,6,.acc)],[1,2]⟩
def E132:Tr Sem1:=(.nd 237 (g131.sem dl) .lf .lf)
def A132:Anns:=⟨.lf,.lf,[(0,4,.page),(0,6,.acc)]⟩
theorem k132 x:g132.den E132 TT A132 F Tryz.f177 x=aM x:=by kernel_rfl
theorem o132:OK 177 (g132.sem aM):=tk (E:=E132) ⟨o131,tv,tv⟩ Tryz.func177 (by kernel_rfl) (by kernel_rfl) g132 rfl k132
def Gb:Sig:=⟨⟨bv 0 [.konst (.ptr 0 0),V12,.int .i64],[B8,.row .page,.row .acc],[]⟩,.one (.int .i64),[B9,.konst .gone,.konst .gone,.row .page,.row .acc],[(1,0,big),(2,0,big),(0,3,4),(0,5,7)],false,false,[(0,4,.page),(0,6,.acc)],[1,2]⟩
def E133:Tr Sem1:=(.nd 169 I129 (.nd 156 (Ee.sem aG) (.nd 57 I130 .lf .lf) .lf) (.nd 183 (rn.sem ae) (.nd 177 (g132.sem aM) .lf .lf) .lf))
def A133:Anns:=⟨.lf,.lf,[(0,4,.page),(0,6,.acc)]⟩
theorem k133 x:Gb.den E133 TT A133 F Tryz.f164 x=aq x:=by kernel_rfl
theorem o133:OK 164 (Gb.sem aq):=tk (E:=E133) ⟨o129,⟨o127,⟨o130,tv,tv⟩,tv⟩,⟨tY,⟨o132,tv,tv⟩,tv⟩⟩ Tryz.func164 (by kernel_rfl) (by kernel_rfl) Gb rfl k133
def g134:Sig:=⟨⟨bv 0 [.int .i64,.int .i64],[],[]⟩,.one (.str),[],[],false,false,[],[]⟩
def A134:Anns:=⟨(.nd 0 (.loop ⟨[(0,(.int .i64)),(5,(.konst (.vec 0))),(10,(.int .i64)),(11,(.int .i64))],[(.row .u)],[]⟩) .lf .lf),.lf,[]⟩
theorem k134 x:g134.den Tr.lf TT A134 F Tryz.f297 x=gh x:=by kernel_rfl
theorem o134:OK 297 (g134.sem gh):=tk (E:=Tr.lf) tv Tryz.func297 (by kernel_rfl) (by kernel_rfl) g134 rfl k134
def g135:Sig:=⟨⟨bv 0 [.agg [.list .page],.int .i64,.str],[],[]⟩,.one (.agg [.konst (.vec 0)]),[.row .page],[],false,true,[(6,1,.page)],[]⟩
def E135:Tr Sem1:=(.nd 272 (g92.sem bz) (.nd 82 (g126.sem bt) .lf .lf) .lf)
def A135:Anns:=⟨(.nd 0 (.loop ⟨[(1,(.int .i64)),(2,.str),(3,(.konst (.ptr 0 0))),(6,(.konst (.ptr 1 0))),(7,(.konst (.ptr 2 0)))],[(.var [(.list .page)]),(.var [(.konst .nils)]),(.var [(.konst (.vec 3))]),(.row .page)],[]⟩) .lf .lf),.lf,[]⟩
theorem k135 x:g135.den E135 TT A135 F Tryz.f296 x=dJ x:=by kernel_rfl
theorem o135:OK 296 (g135.sem dJ):=tk (E:=E135) ⟨o92,⟨o126,tv,tv⟩,tv⟩ Tryz.func296 (by kernel_rfl) (by kernel_rfl) g135 rfl k135
def g136:Sig:=⟨⟨bv 0 [.agg [.list .page],.int .i64,.int .i64,.int .i64],[],[]⟩,.tup [.agg [.konst (.vec 0)],.int .i64],[.row .page],[],false,true,[(8,1,.page)],[]⟩
def E136:Tr Sem1:=(.nd 296 (g135.sem dJ) (.nd 210 (g93.sem be) (.nd 82 (g126.sem bt) .lf .lf) .lf) (.nd 297 (g134.sem gh) .lf .lf))
theorem k136 x:g136.den E136 TT AN F Tryz.f236 x=ca x:=by kernel_rfl
theorem o136:OK 236 (g136.sem ca):=tk (E:=E136) ⟨o135,⟨o93,⟨o126,tv,tv⟩,tv⟩,⟨o134,tv,tv⟩⟩ Tryz.func236 (by kernel_rfl) (by kernel_rfl) g136 rfl k136
def g137:Sig:=⟨⟨bv 0 [.konst (.ptr 0 0),.int .i64,.int .i64,.int .i64],[B8,.row .page,.row .acc],[]⟩,.tup [],[B9,.konst .gone,.konst .gone,.row .page,.row .acc],[(1,0,big),(2,0,big),(0,3,4),(0,5,7)],false,false,[(0,4,.page),(0,6,.acc)],[1,2]⟩
def E137:Tr Sem1:=(.nd 236 (g136.sem ca) (.nd 183 (rn.sem ae) .lf .lf) .lf)
def A137:Anns:=⟨.lf,.lf,[(0,4,.page),(0,6,.acc)]⟩
theorem k137 x:g137.den E137 TT A137 F Tryz.f176 x=aC x:=by kernel_rfl
theorem o137:OK 176 (g137.sem aC):=tk (E:=E137) ⟨o136,⟨tY,tv,tv⟩,tv⟩ Tryz.func176 (by kernel_rfl) (by kernel_rfl) g137 rfl k137
def E138:Tr Sem1:=(.nd 183 (rn.sem ae) (.nd 156 (Ee.sem aG) .lf .lf) .lf)
def I138:Sem1:=BC E138 TT AN 1000000 Tryz.f168 false [(0,0,1)]
theorem o138:OK 168 I138:=in_ok ⟨tok,eqs,Tr.All.get (t:=E138) ⟨tY,⟨o127,tv,tv⟩,tv⟩,mix⟩ Tryz.func168 (by kernel_rfl) (by kernel_rfl) false [(0,0,1)]
def g139:Sig:=⟨⟨bv 0 [.konst (.ptr 0 0),V12,.int .i64,.int .i64],[B8,.row .page,.row .acc],[]⟩,.tup [],[B9,.konst .gone,.konst .gone,.row .page,.row .acc],[(1,0,big),(2,0,big),(0,0,1),(0,3,4),(0,5,7)],false,false,[(0,4,.page),(0,6,.acc)],[1,2]⟩
def E139:Tr Sem1:=(.nd 168 I138 (.nd 156 (Ee.sem aG) (.nd 57 I130 .lf .lf) .lf) (.nd 183 (rn.sem ae) (.nd 176 (g137.sem aC) .lf .lf) .lf))
def A139:Anns:=⟨.lf,.lf,[(0,4,.page),(0,6,.acc)]⟩
theorem k139 x:g139.den E139 TT A139 F Tryz.f163 x=ap x:=by kernel_rfl
theorem o139:OK 163 (g139.sem ap):=tk (E:=E139) ⟨o138,⟨o127,⟨o130,tv,tv⟩,tv⟩,⟨tY,⟨o137,tv,tv⟩,tv⟩⟩ Tryz.func163 (by kernel_rfl) (by kernel_rfl) g139 rfl k139
def g140:Sig:=⟨⟨bv 0 [.int .i64,.konst (.ptr 0 0)],[.var [.int .i64]],[]⟩,.one (.bool),[.var [.int .i64]],[],false,false,[],[]⟩
theorem k140 x:g140.den Tr.lf TT AN F Tryz.f229 x=bG x:=by kernel_rfl
theorem o140:OK 229 (g140.sem bG):=tk (E:=Tr.lf) tv Tryz.func229 (by kernel_rfl) (by kernel_rfl) g140 rfl k140
def g141:Sig:=⟨⟨bv 0 [.int .i64,.int .i64],[],[]⟩,.one (.bool),[],[],false,false,[],[]⟩
def E141:Tr Sem1:=(.nd 229 (g140.sem bG) .lf .lf)
theorem k141 x:g141.den E141 TT AN F Tryz.f167 x=S_impl_holds x:=by kernel_rfl
theorem o141:OK 167 (g141.sem S_impl_holds):=tk (E:=E141) ⟨o140,tv,tv⟩ Tryz.func167 (by kernel_rfl) (by kernel_rfl) g141 rfl k141
def Dw:Sig:=⟨⟨bv 0 [.bool,.int .i64],[],[]⟩,.one (.int .i64),[],[],false,false,[],[]⟩
theorem k142 x:Dw.den Tr.lf TT AN F Tryz.f166 x=bi x:=by kernel_rfl
theorem o142:OK 166 (Dw.sem bi):=tk (E:=Tr.lf) tv Tryz.func166 (by kernel_rfl) (by kernel_rfl) Dw rfl k142
def g143:Sig:=⟨⟨bv 0 [.konst (.ptr 0 0),.el .ins],[B8,.row .page,.row .acc],[]⟩,.tup [],[B9,.konst .gone,.konst .gone,.row .page,.row .acc],[(1,0,big),(2,0,big),(0,0,1),(0,3,4),(0,5,7)],false,false,[(0,4,.page),(0,6,.acc)],[1,2]⟩
def E143:Tr Sem1:=(.nd 166 (Dw.sem bi) (.nd 163 (g139.sem ap) (.nd 156 (Ee.sem aG) (.nd 57 I130 .lf .lf) .lf) (.nd 165 (Ed.sem bA) (.nd 164 (Gb.sem aq) .lf .lf) .lf)) (.nd 169 I129 (.nd 168 I138 (.nd 167 (g141.sem S_impl_holds) .lf .lf) .lf) (.nd 183 (rn.sem ae) .lf .lf)))
def A143:Anns:=⟨.lf,(.nd 262 ⟨[(0,(.konst (.ptr 0 0))),(3,(.konst (.ptr 5 0))),(6,(.int .i64))],[(B3),(.konst .gone),(.konst .gone),(.row .page),(.row .acc),(B2)],[]⟩ .lf .lf),[(0,4,.page),(0,6,.acc)]⟩
theorem k143 x:g143.den E143 TT A143 F Tryz.f114 x=az x:=by kernel_rfl
theorem o143:OK 114 (g143.sem az):=tk (E:=E143) ⟨o142,⟨o139,⟨o127,⟨o130,tv,tv⟩,tv⟩,⟨o117,⟨o133,tv,tv⟩,tv⟩⟩,⟨o129,⟨o138,⟨o141,tv,tv⟩,tv⟩,⟨tY,tv,tv⟩⟩⟩ Tryz.func114 (by kernel_rfl) (by kernel_rfl) g143 rfl k143
def g144:Sig:=⟨⟨bv 0 [.int .i64],[],[]⟩,.one (.int .i64),[],[],false,false,[],[]⟩
theorem k144 x:g144.den Tr.lf TT AN F Tryz.f170 x=ia x:=by kernel_rfl
theorem o144:OK 170 (g144.sem ia):=tk (E:=Tr.lf) tv Tryz.func170 (by kernel_rfl) (by kernel_rfl) g144 rfl k144
def g145:Sig:=⟨⟨bv 0 [.int .u64,.int .u64],[],[]⟩,.tup [.int .u64,.int .u64],[],[],false,false,[],[]⟩
theorem k145 x:g145.den Tr.lf TT AN F Tryz.f293 x=dM x:=by kernel_rfl
theorem o145:OK 293 (g145.sem dM):=tk (E:=Tr.lf) tv Tryz.func293 (by kernel_rfl) (by kernel_rfl) g145 rfl k145
def g146:Sig:=⟨⟨bv 0 [.int .i64,.int .i64],[],[]⟩,.tup [.int .i64,.int .i64],[],[],false,false,[],[]⟩
def E146:Tr Sem1:=(.nd 293 (g145.sem dM) .lf .lf)
theorem k146 x:g146.den E146 TT AN F Tryz.f230 x=dG x:=by kernel_rfl
theorem o146:OK 230 (g146.sem dG):=tk (E:=E146) ⟨o145,tv,tv⟩ Tryz.func230 (by kernel_rfl) (by kernel_rfl) g146 rfl k146
def g147:Sig:=⟨⟨bv 0 [.int .i64,.int .i64],[],[]⟩,.one (.int .i64),[],[],false,false,[],[]⟩
def E147:Tr Sem1:=(.nd 230 (g146.sem dG) .lf .lf)
def A147:Anns:=⟨.lf,(.nd 28 ⟨[(0,(.int .i64)),(1,(.int .i64)),(5,(.int .i64))],[],[]⟩ .lf .lf),[]⟩
theorem k147 x:g147.den E147 TT A147 F Tryz.f231 x=dK x:=by kernel_rfl
theorem o147:OK 231 (g147.sem dK):=tk (E:=E147) ⟨o146,tv,tv⟩ Tryz.func231 (by kernel_rfl) (by kernel_rfl) g147 rfl k147
def g148:Sig:=⟨⟨bv 0 [.int .i64,.int .i64,.int .i64,.int .i64,.int .i64],[],[]⟩,.tup [.int .i64,.int .i64,.int .i64],[],[],false,false,[],[]⟩
def E148:Tr Sem1:=(.nd 183 (rn.sem ae) (.nd 166 (Dw.sem bi) (.nd 165 (Ed.sem bA) .lf .lf) .lf) (.nd 231 (g147.sem dK) (.nd 230 (g146.sem dG) .lf .lf) .lf))
def A148:Anns:=⟨.lf,(.nd 111 ⟨[(1,(.int .i64)),(4,(.int .i64)),(13,.bool),(16,(.int .i64)),(17,(.int .i64))],[],[]⟩ (.nd 85 ⟨[(1,(.int .i64)),(4,(.int .i64)),(13,.bool),(16,(.int .i64)),(17,(.int .i64))],[],[]⟩ (.nd 54 ⟨[(1,(.int .i64)),(4,(.int .i64)),(13,.bool),(14,(.int .i64)),(15,(.int .i64))],[],[]⟩ .lf .lf) .lf) (.nd 132 ⟨[(4,(.int .i64)),(16,(.int .i64)),(17,(.int .i64)),(18,.bool)],[],[]⟩ .lf .lf)),[]⟩
theorem k148 x:g148.den E148 TT A148 F Tryz.f171 x=dj x:=by kernel_rfl
theorem o148:OK 171 (g148.sem dj):=tk (E:=E148) ⟨tY,⟨o142,⟨o117,tv,tv⟩,tv⟩,⟨o147,⟨o146,tv,tv⟩,tv⟩⟩ Tryz.func171 (by kernel_rfl) (by kernel_rfl) g148 rfl k148
def g149:Sig:=⟨⟨bv 0 [.int .i64,.int .i64,.int .i64,.bool],[],[]⟩,.tup [.int .i64,.int .i64],[],[],false,false,[],[]⟩
def E149:Tr Sem1:=(.nd 183 (rn.sem ae) (.nd 165 (Ed.sem bA) .lf .lf) .lf)
theorem k149 x:g149.den E149 TT AN F Tryz.f232 x=gg x:=by kernel_rfl
theorem o149:OK 232 (g149.sem gg):=tk (E:=E149) ⟨tY,⟨o117,tv,tv⟩,tv⟩ Tryz.func232 (by kernel_rfl) (by kernel_rfl) g149 rfl k149
theorem o150:OK 294 vX:=FM Tryz.func294 (by kernel_rfl) (by kernel_rfl) (by kernel_rfl) (by kernel_rfl)
def g151:Sig:=⟨⟨bv 0 [.int .i64,.int .i64],[],[]⟩,.tup [.int .i64,.int .i64],[],[],false,false,[],[]⟩
def E151:Tr Sem1:=(.nd 294 vX .lf .lf)
theorem k151 x:g151.den E151 TT AN F Tryz.f233 x=eL x:=by kernel_rfl
theorem o151:OK 233 (g151.sem eL):=tk (E:=E151) ⟨o150,tv,tv⟩ Tryz.func233 (by kernel_rfl) (by kernel_rfl) g151 rfl k151
def g152:Sig:=⟨⟨bv 0 [.int .i64,.int .i64],[],[]⟩,.one (.bool),[],[],false,false,[],[]⟩
theorem k152 x:g152.den Tr.lf TT AN F Tryz.f235 x=df x:=by kernel_rfl
theorem o152:OK 235 (g152.sem df):=tk (E:=Tr.lf) tv Tryz.func235 (by kernel_rfl) (by kernel_rfl) g152 rfl k152
def g153:Sig:=⟨⟨bv 0 [.int .u64],[],[]⟩,.one (.int .i64),[],[],false,false,[],[]⟩
def A153:Anns:=⟨.lf,(.nd 16 ⟨[(0,(.int .u64)),(2,(.int .i64))],[],[]⟩ (.nd 8 ⟨[(0,(.int .u64)),(2,(.int .i64))],[],[]⟩ .lf .lf) (.nd 28 ⟨[(0,(.int .u64)),(2,(.int .i64))],[],[]⟩ .lf .lf)),[]⟩
theorem k153 x:g153.den Tr.lf TT A153 F Tryz.f312 x=bR x:=by kernel_rfl
theorem o153:OK 312 (g153.sem bR):=tk (E:=Tr.lf) tv Tryz.func312 (by kernel_rfl) (by kernel_rfl) g153 rfl k153
def g154:Sig:=⟨⟨bv 0 [.int .u64],[],[]⟩,.one (.int .i64),[],[],false,false,[],[]⟩
def E154:Tr Sem1:=(.nd 312 (g153.sem bR) .lf .lf)
theorem k154 x:g154.den E154 TT AN F Tryz.f330 x=bL x:=by kernel_rfl
theorem o154:OK 330 (g154.sem bL):=tk (E:=E154) ⟨o153,tv,tv⟩ Tryz.func330 (by kernel_rfl) (by kernel_rfl) g154 rfl k154
def g155:Sig:=⟨⟨bv 0 [.int .u64,.int .u64,.int .u64],[],[]⟩,.tup [.int .u64,.int .u64],[],[],false,false,[],[]⟩
def E155:Tr Sem1:=(.nd 330 (g154.sem bL) .lf .lf)
def A155:Anns:=⟨(.nd 2 (.loop ⟨[(2,(.int .u64)),(8,(.int .u64)),(9,(.int .u64)),(10,(.int .u64)),(14,(.int .u64)),(15,(.int .u64)),(16,(.int .u64)),(17,(.int .u64)),(18,(.int .u64))],[],[]⟩) (.nd 0 (.loop ⟨[(2,(.int .u64)),(8,(.int .u64)),(9,(.int .u64)),(10,(.int .u64)),(11,(.int .u64)),(13,(.int .u64)),(14,(.int .u64)),(15,(.int .u64)),(16,(.int .u64))],[],[]⟩) .lf .lf) .lf),(.nd 48 ⟨[(0,(.int .u64)),(1,(.int .u64)),(2,(.int .u64))],[],[]⟩ (.nd 40 ⟨[(0,(.int .u64)),(1,(.int .u64)),(2,(.int .u64))],[],[]⟩ .lf .lf) .lf),[]⟩
theorem k155 x:g155.den E155 TT A155 F Tryz.f295 x=dL x:=by kernel_rfl
theorem o155:OK 295 (g155.sem dL):=tk (E:=E155) ⟨o154,tv,tv⟩ Tryz.func295 (by kernel_rfl) (by kernel_rfl) g155 rfl k155
def g156:Sig:=⟨⟨bv 0 [.int .i64,.int .i64,.int .i64],[],[]⟩,.tup [.int .i64,.int .i64,.int .i64],[],[],false,false,[],[]⟩
def E156:Tr Sem1:=(.nd 295 (g155.sem dL) (.nd 235 (g152.sem df) .lf .lf) .lf)
theorem k156 x:g156.den E156 TT AN F Tryz.f234 x=dI x:=by kernel_rfl
theorem o156:OK 234 (g156.sem dI):=tk (E:=E156) ⟨o155,⟨o152,tv,tv⟩,tv⟩ Tryz.func234 (by kernel_rfl) (by kernel_rfl) g156 rfl k156
def g157:Sig:=⟨⟨bv 0 [.int .i64,.int .i64,.int .i64,.int .i64,.int .i64],[],[]⟩,.tup [.int .i64,.int .i64,.bool],[],[],false,false,[],[]⟩
def E157:Tr Sem1:=(.nd 233 (g151.sem eL) (.nd 183 (rn.sem ae) (.nd 165 (Ed.sem bA) .lf .lf) (.nd 232 (g149.sem gg) .lf .lf)) (.nd 235 (g152.sem df) (.nd 234 (g156.sem dI) .lf .lf) .lf))
def A157:Anns:=⟨.lf,(.nd 106 ⟨[(1,(.int .i64)),(2,(.int .i64)),(3,(.int .i64)),(4,(.int .i64)),(13,.bool),(14,.bool),(15,.bool)],[],[]⟩ (.nd 84 ⟨[(1,(.int .i64)),(2,(.int .i64)),(3,(.int .i64)),(4,(.int .i64)),(13,.bool),(14,.bool),(15,.bool)],[],[]⟩ (.nd 66 ⟨[(1,(.int .i64)),(2,(.int .i64)),(3,(.int .i64)),(4,(.int .i64)),(13,.bool)],[],[]⟩ .lf .lf) .lf) (.nd 190 ⟨[(1,(.int .i64)),(16,(.int .i64)),(17,(.int .i64))],[],[]⟩ (.nd 171 ⟨[(1,(.int .i64)),(14,.bool),(16,(.int .i64)),(17,(.int .i64))],[],[]⟩ .lf .lf) .lf)),[]⟩
theorem k157 x:g157.den E157 TT A157 F Tryz.f172 x=fo x:=by kernel_rfl
theorem o157:OK 172 (g157.sem fo):=tk (E:=E157) ⟨o151,⟨tY,⟨o117,tv,tv⟩,⟨o149,tv,tv⟩⟩,⟨o152,⟨o156,tv,tv⟩,tv⟩⟩ Tryz.func172 (by kernel_rfl) (by kernel_rfl) g157 rfl k157
def g158:Sig:=⟨⟨bv 0 [.konst (.ptr 0 0),.el .ins],[B8,.row .page,.row .acc],[]⟩,.tup [],[B9,.konst .gone,.konst .gone,.row .page,.row .acc],[(1,0,big),(2,0,big),(0,0,1),(0,2,3),(0,3,4),(0,5,7)],false,false,[(0,4,.page),(0,6,.acc)],[1,2]⟩
def E158:Tr Sem1:=(.nd 170 (g144.sem ia) (.nd 168 I138 (.nd 164 (Gb.sem aq) (.nd 156 (Ee.sem aG) .lf .lf) .lf) (.nd 169 I129 .lf .lf)) (.nd 172 (g157.sem fo) (.nd 171 (g148.sem dj) .lf .lf) (.nd 183 (rn.sem ae) .lf .lf)))
def A158:Anns:=⟨.lf,(.nd 186 ⟨[(3,(.konst (.ptr 5 0))),(5,(.konst (.ptr 0 0))),(6,(.int .i64)),(10,(.int .i64)),(11,(.int .i64))],[(B3),(.konst .gone),(.konst .gone),(.row .page),(.row .acc),(B2)],[]⟩ .lf .lf),[(0,4,.page),(0,6,.acc)]⟩
theorem k158 x:g158.den E158 TT A158 F Tryz.f115 x=cC x:=by kernel_rfl
theorem o158:OK 115 (g158.sem cC):=tk (E:=E158) ⟨o144,⟨o138,⟨o133,⟨o127,tv,tv⟩,tv⟩,⟨o129,tv,tv⟩⟩,⟨o157,⟨o148,tv,tv⟩,⟨tY,tv,tv⟩⟩⟩ Tryz.func115 (by kernel_rfl) (by kernel_rfl) g158 rfl k158
def g159:Sig:=⟨⟨bv 0 [.konst (.ptr 0 0),.int .i64],[B8,.row .page,.row .acc],[]⟩,.tup [],[B9,.konst .gone,.konst .gone,.row .page,.row .acc],[(1,0,big),(2,0,big),(0,0,1),(0,3,4),(0,5,7)],false,false,[(0,4,.page),(0,6,.acc)],[1,2]⟩
def E159:Tr Sem1:=(.nd 176 (g137.sem aC) .lf .lf)
def A159:Anns:=⟨.lf,.lf,[(0,4,.page),(0,6,.acc)]⟩
theorem k159 x:g159.den E159 TT A159 F Tryz.f173 x=cb x:=by kernel_rfl
theorem o159:OK 173 (g159.sem cb):=tk (E:=E159) ⟨o137,tv,tv⟩ Tryz.func173 (by kernel_rfl) (by kernel_rfl) g159 rfl k159
def g160:Sig:=⟨⟨bv 0 [.konst (.ptr 0 0)],[B8,.row .page,.row .acc],[]⟩,.one (.int .i64),[B9,.konst .gone,.konst .gone,.row .page,.row .acc],[(1,0,big),(2,0,big),(0,0,1),(0,3,4),(0,5,7)],false,false,[(0,4,.page),(0,6,.acc)],[1,2]⟩
def E160:Tr Sem1:=(.nd 177 (g132.sem aM) .lf .lf)
def A160:Anns:=⟨.lf,.lf,[(0,4,.page),(0,6,.acc)]⟩
theorem k160 x:g160.den E160 TT A160 F Tryz.f174 x=cq x:=by kernel_rfl
theorem o160:OK 174 (g160.sem cq):=tk (E:=E160) ⟨o132,tv,tv⟩ Tryz.func174 (by kernel_rfl) (by kernel_rfl) g160 rfl k160
def g161:Sig:=⟨⟨bv 0 [.konst (.ptr 0 0),.el .ins],[B8,.row .page,.row .acc],[]⟩,.one (.int .i64),[B9,.konst .gone,.konst .gone,.row .page,.row .acc],[(1,0,big),(2,0,big),(0,3,4),(0,5,7)],false,false,[(0,4,.page),(0,6,.acc)],[1,2]⟩
def E161:Tr Sem1:=(.nd 164 (Gb.sem aq) .lf .lf)
def A161:Anns:=⟨.lf,.lf,[(0,4,.page),(0,6,.acc)]⟩
theorem k161 x:g161.den E161 TT A161 F Tryz.f175 x=bw x:=by kernel_rfl
theorem o161:OK 175 (g161.sem bw):=tk (E:=E161) ⟨o133,tv,tv⟩ Tryz.func175 (by kernel_rfl) (by kernel_rfl) g161 rfl k161
def g162:Sig:=⟨⟨bv 0 [.konst (.ptr 0 0),.el .ins],[B8,.row .page,.row .acc],[]⟩,.tup [],[B9,.konst .gone,.konst .gone,.row .page,.row .acc],[(1,0,big),(2,0,big),(0,0,2),(0,3,4),(0,5,7)],false,false,[(0,4,.page),(0,6,.acc)],[1,2]⟩
def E162:Tr Sem1:=(.nd 174 (g160.sem cq) (.nd 167 (g141.sem S_impl_holds) (.nd 164 (Gb.sem aq) (.nd 163 (g139.sem ap) .lf .lf) .lf) (.nd 173 (g159.sem cb) .lf .lf)) (.nd 176 (g137.sem aC) (.nd 175 (g161.sem bw) .lf .lf) (.nd 177 (g132.sem aM) .lf .lf)))
def A162:Anns:=⟨.lf,(.nd 276 ⟨[(0,(.konst (.ptr 0 0))),(138,.bool)],[(B3),(.konst .gone),(.konst .gone),(.row .page),(.row .acc)],[]⟩ .lf .lf),[(0,4,.page),(0,6,.acc)]⟩
theorem k162 x:g162.den E162 TT A162 F Tryz.f116 x=am x:=by kernel_rfl
theorem o162:OK 116 (g162.sem am):=tk (E:=E162) ⟨o160,⟨o141,⟨o133,⟨o139,tv,tv⟩,tv⟩,⟨o159,tv,tv⟩⟩,⟨o137,⟨o161,tv,tv⟩,⟨o132,tv,tv⟩⟩⟩ Tryz.func116 (by kernel_rfl) (by kernel_rfl) g162 rfl k162
def g163:Sig:=⟨⟨bv 0 [.int .i64],[],[]⟩,.one (.bool),[],[],false,false,[],[]⟩
def E163:Tr Sem1:=(.nd 58 (g86.sem aA) .lf .lf)
theorem k163 x:g163.den E163 TT AN F Tryz.f102 x=cJ x:=by kernel_rfl
theorem o163:OK 102 (g163.sem cJ):=tk (E:=E163) ⟨o86,tv,tv⟩ Tryz.func102 (by kernel_rfl) (by kernel_rfl) g163 rfl k163
def g164:Sig:=⟨⟨bv 0 [.el .ins],[],[]⟩,.one (.int .i64),[],[],false,false,[],[]⟩
def E164:Tr Sem1:=(.nd 102 (g163.sem cJ) .lf .lf)
theorem k164 x:g164.den E164 TT AN F Tryz.f100 x=fC x:=by kernel_rfl
theorem o164:OK 100 (g164.sem fC):=tk (E:=E164) ⟨o163,tv,tv⟩ Tryz.func100 (by kernel_rfl) (by kernel_rfl) g164 rfl k164
def g165:Sig:=⟨⟨bv 0 [.int .i64],[],[]⟩,.one (.bool),[],[],false,false,[],[]⟩
def E165:Tr Sem1:=(.nd 58 (g86.sem aA) .lf .lf)
theorem k165 x:g165.den E165 TT AN F Tryz.f178 x=gY x:=by kernel_rfl
theorem o165:OK 178 (g165.sem gY):=tk (E:=E165) ⟨o86,tv,tv⟩ Tryz.func178 (by kernel_rfl) (by kernel_rfl) g165 rfl k165
theorem o166:OK 299 xU:=DJ Tryz.func299 (by kernel_rfl) (by kernel_rfl) (by kernel_rfl) (by kernel_rfl)
def g167:Sig:=⟨⟨bv 0 [.int .i64,.int .i64],[],[]⟩,.one (.bool),[],[],false,false,[],[]⟩
theorem k167 x:g167.den Tr.lf TT AN F Tryz.f300 x=dm x:=by kernel_rfl
theorem o167:OK 300 (g167.sem dm):=tk (E:=Tr.lf) tv Tryz.func300 (by kernel_rfl) (by kernel_rfl) g167 rfl k167
def g168:Sig:=⟨⟨bv 0 [.int .u8],[],[]⟩,.one (.int .i64),[],[],false,false,[],[]⟩
theorem k168 x:g168.den Tr.lf TT AN F Tryz.f301 x=ct x:=by kernel_rfl
theorem o168:OK 301 (g168.sem ct):=tk (E:=Tr.lf) tv Tryz.func301 (by kernel_rfl) (by kernel_rfl) g168 rfl k168
def g169:Sig:=⟨⟨bv 0 [.int .i64,.int .i64],[],[]⟩,.one (.int .i64),[],[],false,false,[],[]⟩
def E169:Tr Sem1:=(.nd 300 (g167.sem dm) (.nd 183 (rn.sem ae) (.nd 166 (Dw.sem bi) .lf .lf) .lf) (.nd 301 (g168.sem ct) .lf .lf))
theorem k169 x:g169.den E169 TT AN F Tryz.f240 x=bQ x:=by kernel_rfl
theorem o169:OK 240 (g169.sem bQ):=tk (E:=E169) ⟨o167,⟨tY,⟨o142,tv,tv⟩,tv⟩,⟨o168,tv,tv⟩⟩ Tryz.func240 (by kernel_rfl) (by kernel_rfl) g169 rfl k169
def g170:Sig:=⟨⟨bv 0 [.int .i64,.int .i64,.int .i64,.int .i64],[],[]⟩,.tup [.int .i64,.int .i64],[],[],false,false,[],[]⟩
def E170:Tr Sem1:=(.nd 240 (g169.sem bQ) (.nd 183 (rn.sem ae) (.nd 166 (Dw.sem bi) .lf .lf) .lf) (.nd 300 (g167.sem dm) (.nd 299 xU .lf .lf) .lf))
def A170:Anns:=⟨.lf,(.nd 54 ⟨[(0,(.int .i64)),(1,(.int .i64)),(2,(.int .i64)),(10,(.int .u64)),(12,.bool)],[],[]⟩ .lf .lf),[]⟩
theorem k170 x:g170.den E170 TT A170 F Tryz.f238 x=gi x:=by kernel_rfl
theorem o170:OK 238 (g170.sem gi):=tk (E:=E170) ⟨o169,⟨tY,⟨o142,tv,tv⟩,tv⟩,⟨o167,⟨o166,tv,tv⟩,tv⟩⟩ Tryz.func238 (by kernel_rfl) (by kernel_rfl) g170 rfl k170
def g171:Sig:=⟨⟨bv 0 [.int .i64,.int .i64,.int .i64,.int .i64],[],[]⟩,.tup [.int .i64,.int .i64],[],[],false,false,[],[]⟩
def E171:Tr Sem1:=(.nd 240 (g169.sem bQ) (.nd 183 (rn.sem ae) (.nd 166 (Dw.sem bi) .lf .lf) .lf) (.nd 300 (g167.sem dm) (.nd 294 vX .lf .lf) .lf))
theorem k171 x:g171.den E171 TT AN F Tryz.f239 x=bD x:=by kernel_rfl
theorem o171:OK 239 (g171.sem bD):=tk (E:=E171) ⟨o169,⟨tY,⟨o142,tv,tv⟩,tv⟩,⟨o167,⟨o150,tv,tv⟩,tv⟩⟩ Tryz.func239 (by kernel_rfl) (by kernel_rfl) g171 rfl k171
def g172:Sig:=⟨⟨bv 0 [.int .i64,.int .i64,.int .i64,.int .i64,.int .i64],[],[]⟩,.tup [.int .i64,.int .i64],[],[],false,false,[],[]⟩
def E172:Tr Sem1:=(.nd 239 (g171.sem bD) (.nd 238 (g170.sem gi) (.nd 183 (rn.sem ae) .lf .lf) .lf) (.nd 240 (g169.sem bQ) .lf .lf))
def A172:Anns:=⟨.lf,(.nd 157 ⟨[(1,(.int .i64)),(13,(.int .i64))],[],[]⟩ (.nd 147 ⟨[(1,(.int .i64)),(13,(.int .i64))],[],[]⟩ .lf .lf) .lf),[]⟩
theorem k172 x:g172.den E172 TT A172 F Tryz.f179 x=jt x:=by kernel_rfl
theorem o172:OK 179 (g172.sem jt):=tk (E:=E172) ⟨o171,⟨o170,⟨tY,tv,tv⟩,tv⟩,⟨o169,tv,tv⟩⟩ Tryz.func179 (by kernel_rfl) (by kernel_rfl) g172 rfl k172
def g173:Sig:=⟨⟨bv 0 [.int .i64],[],[]⟩,.one (.bool),[],[],false,false,[],[]⟩
theorem k173 x:g173.den Tr.lf TT AN F Tryz.f180 x=gZ x:=by kernel_rfl
theorem o173:OK 180 (g173.sem gZ):=tk (E:=Tr.lf) tv Tryz.func180 (by kernel_rfl) (by kernel_rfl) g173 rfl k173
def g174:Sig:=⟨⟨bv 0 [.int .i64,.int .i64,.int .i64,.int .i64],[],[]⟩,.tup [.int .i64,.int .i64],[],[],false,false,[],[]⟩
def E174:Tr Sem1:=(.nd 238 (g170.sem gi) (.nd 183 (rn.sem ae) .lf .lf) (.nd 239 (g171.sem bD) .lf .lf))
def A174:Anns:=⟨.lf,(.nd 74 ⟨[(3,(.int .i64)),(10,(.int .i64)),(11,(.int .i64))],[],[]⟩ .lf .lf),[]⟩
theorem k174 x:g174.den E174 TT A174 F Tryz.f181 x=ju x:=by kernel_rfl
theorem o174:OK 181 (g174.sem ju):=tk (E:=E174) ⟨o170,⟨tY,tv,tv⟩,⟨o171,tv,tv⟩⟩ Tryz.func181 (by kernel_rfl) (by kernel_rfl) g174 rfl k174
def g175:Sig:=⟨⟨bv 0 [.int .i64,.int .i64,.int .i64,.int .i64],[],[]⟩,.tup [.int .i64,.int .i64],[],[],false,false,[],[]⟩
def E175:Tr Sem1:=(.nd 240 (g169.sem bQ) (.nd 183 (rn.sem ae) (.nd 166 (Dw.sem bi) .lf .lf) .lf) (.nd 300 (g167.sem dm) .lf .lf))
def A175:Anns:=⟨.lf,(.nd 135 ⟨[(0,(.int .i64)),(1,(.int .i64)),(3,(.int .i64)),(13,(.int .i64)),(14,.bool),(15,.bool)],[],[]⟩ (.nd 97 ⟨[(0,(.int .i64)),(1,(.int .i64)),(3,(.int .i64)),(13,(.int .i64)),(14,.bool),(15,.bool)],[],[]⟩ (.nd 96 ⟨[(0,(.int .i64)),(1,(.int .i64)),(2,(.int .i64)),(3,(.int .i64)),(10,.bool),(11,.bool),(12,(.int .i64)),(14,.bool),(15,.bool),(28,(.int .i64)),(48,.bool)],[],[]⟩ .lf .lf) (.nd 112 ⟨[(0,(.int .i64)),(1,(.int .i64)),(3,(.int .i64)),(10,.bool),(13,(.int .i64))],[],[]⟩ .lf .lf)) (.nd 188 ⟨[(13,(.int .i64)),(14,.bool),(15,.bool),(16,(.int .i64))],[],[]⟩ (.nd 149 ⟨[(0,(.int .i64)),(1,(.int .i64)),(3,(.int .i64)),(13,(.int .i64)),(14,.bool),(15,.bool)],[],[]⟩ .lf .lf) .lf)),[]⟩
theorem k175 x:g175.den E175 TT A175 F Tryz.f241 x=dV x:=by kernel_rfl
theorem o175:OK 241 (g175.sem dV):=tk (E:=E175) ⟨o169,⟨tY,⟨o142,tv,tv⟩,tv⟩,⟨o167,tv,tv⟩⟩ Tryz.func241 (by kernel_rfl) (by kernel_rfl) g175 rfl k175
def g176:Sig:=⟨⟨bv 0 [.int .i64,.int .i64,.int .i64,.int .i64,.int .i64],[],[]⟩,.tup [.int .i64,.int .i64],[],[],false,false,[],[]⟩
def E176:Tr Sem1:=(.nd 183 (rn.sem ae) (.nd 166 (Dw.sem bi) .lf .lf) (.nd 241 (g175.sem dV) .lf .lf))
def A176:Anns:=⟨(.nd 0 (.loop ⟨[(0,(.int .i64)),(1,(.int .i64)),(2,(.int .i64)),(4,(.int .i64)),(21,(.int .i64)),(22,(.int .i64))],[],[]⟩) .lf .lf),.lf,[]⟩
theorem k176 x:g176.den E176 TT A176 F Tryz.f182 x=hJ x:=by kernel_rfl
theorem o176:OK 182 (g176.sem hJ):=tk (E:=E176) ⟨tY,⟨o142,tv,tv⟩,⟨o175,tv,tv⟩⟩ Tryz.func182 (by kernel_rfl) (by kernel_rfl) g176 rfl k176
def g177:Sig:=⟨⟨bv 0 [.konst (.ptr 0 0),.el .ins],[B8,.row .page,.row .acc],[]⟩,.tup [],[B9,.konst .gone,.konst .gone,.row .page,.row .acc],[(1,0,big),(2,0,big),(0,0,1),(0,2,4),(0,5,7)],false,false,[(0,4,.page),(0,6,.acc)],[1,2]⟩
def E177:Tr Sem1:=(.nd 178 (g165.sem gY) (.nd 163 (g139.sem ap) (.nd 102 (g163.sem cJ) (.nd 100 (g164.sem fC) .lf .lf) .lf) (.nd 171 (g148.sem dj) (.nd 164 (Gb.sem aq) .lf .lf) .lf)) (.nd 181 (g174.sem ju) (.nd 180 (g173.sem gZ) (.nd 179 (g172.sem jt) .lf .lf) .lf) (.nd 183 (rn.sem ae) (.nd 182 (g176.sem hJ) .lf .lf) .lf)))
def A177:Anns:=⟨.lf,(.nd 127 ⟨[(0,(.konst (.ptr 0 0))),(3,(.konst (.ptr 5 0))),(7,(.int .i64))],[(B3),(.konst .gone),(.konst .gone),(.row .page),(.row .acc),(B2)],[]⟩ (.nd 89 ⟨[(0,(.konst (.ptr 0 0))),(3,(.konst (.ptr 5 0))),(7,(.int .i64))],[(B3),(.konst .gone),(.konst .gone),(.row .page),(.row .acc),(B2)],[]⟩ (.nd 42 ⟨[(0,(.konst (.ptr 0 0))),(3,(.konst (.ptr 5 0))),(4,(.konst (.ptr 0 17))),(5,(.int .i64)),(6,(.int .i64))],[(B3),(.konst .gone),(.konst .gone),(.row .page),(.row .acc),(B2)],[]⟩ .lf .lf) .lf) (.nd 163 ⟨[(0,(.konst (.ptr 0 0))),(3,(.konst (.ptr 5 0))),(7,(.int .i64))],[(B3),(.konst .gone),(.konst .gone),(.row .page),(.row .acc),(B2)],[]⟩ .lf .lf)),[(0,4,.page),(0,6,.acc)]⟩
theorem k177 x:g177.den E177 TT A177 F Tryz.f117 x=cc x:=by kernel_rfl
theorem o177:OK 117 (g177.sem cc):=tk (E:=E177) ⟨o165,⟨o139,⟨o163,⟨o164,tv,tv⟩,tv⟩,⟨o148,⟨o133,tv,tv⟩,tv⟩⟩,⟨o174,⟨o173,⟨o172,tv,tv⟩,tv⟩,⟨tY,⟨o176,tv,tv⟩,tv⟩⟩⟩ Tryz.func117 (by kernel_rfl) (by kernel_rfl) g177 rfl k177
def g178:Sig:=⟨⟨bv 0 [.agg [.arr .i 16,.int .i64,.int .i64],.agg [.list .page],.el .ins],[],[]⟩,.tup [.agg [.arr .i 16,.int .i64,.int .i64],.agg [.konst (.vec 0)],.konst (.vec 1),.int .i64],[.row .page,.row .acc],[],false,true,[(7,1,.page),(8,0,.acc)],[]⟩
def E178:Tr Sem1:=(.nd 115 (g158.sem cC) (.nd 114 (g143.sem az) (.nd 82 (g126.sem bt) .lf .lf) .lf) (.nd 117 (g177.sem cc) (.nd 116 (g162.sem am) .lf .lf) .lf))
def A178:Anns:=⟨.lf,(.nd 95 ⟨[(3,(.konst (.ptr 0 0))),(4,(.konst (.ptr 1 0))),(6,(.konst (.ptr 2 0))),(7,(.konst (.ptr 3 0))),(10,(.konst (.ptr 4 0)))],[(B17),(.var [(.list .page)]),(B17),(.var [(.konst .nils)]),(B4),(.row .page),(.row .acc)],[]⟩ (.nd 69 ⟨[(3,(.konst (.ptr 0 0))),(4,(.konst (.ptr 1 0))),(6,(.konst (.ptr 2 0))),(7,(.konst (.ptr 3 0))),(10,(.konst (.ptr 4 0)))],[(B17),(.var [(.list .page)]),(B17),(.var [(.konst .nils)]),(B4),(.row .page),(.row .acc)],[]⟩ (.nd 68 ⟨[(3,(.konst (.ptr 0 0))),(4,(.konst (.ptr 1 0))),(5,(.konst (.ptr 2 0))),(6,(.konst (.ptr 3 0))),(7,(.konst (.ptr 4 0))),(10,(.konst (.ptr 5 0))),(30,(.int .i64)),(34,.bool)],[(B17),(.var [(.list .page)]),(B2),(B17),(.var [(.konst .nils)]),(B5),(.row .page),(.row .acc)],[]⟩ .lf .lf) (.nd 94 ⟨[(3,(.konst (.ptr 0 0))),(4,(.konst (.ptr 1 0))),(5,(.konst (.ptr 2 0))),(6,(.konst (.ptr 3 0))),(7,(.konst (.ptr 4 0))),(10,(.konst (.ptr 5 0))),(30,(.int .i64)),(47,.bool)],[(B17),(.var [(.list .page)]),(B2),(B17),(.var [(.konst .nils)]),(B5),(.row .page),(.row .acc)],[]⟩ .lf .lf)) (.nd 111 ⟨[(3,(.konst (.ptr 0 0))),(4,(.konst (.ptr 1 0))),(6,(.konst (.ptr 2 0))),(7,(.konst (.ptr 3 0))),(10,(.konst (.ptr 4 0)))],[(B17),(.var [(.list .page)]),(B17),(.var [(.konst .nils)]),(B4),(.row .page),(.row .acc)],[]⟩ (.nd 110 ⟨[(3,(.konst (.ptr 0 0))),(4,(.konst (.ptr 1 0))),(5,(.konst (.ptr 2 0))),(6,(.konst (.ptr 3 0))),(7,(.konst (.ptr 4 0))),(10,(.konst (.ptr 5 0))),(55,.bool)],[(B17),(.var [(.list .page)]),(B2),(B17),(.var [(.konst .nils)]),(B5),(.row .page),(.row .acc)],[]⟩ .lf .lf) .lf)),[(20,4,.page),(20,6,.acc)]⟩
theorem k178 x:g178.den E178 TT A178 F Tryz.f55 x=iJ x:=by kernel_rfl
theorem o178:OK 55 (g178.sem iJ):=tk (E:=E178) ⟨o158,⟨o143,⟨o126,tv,tv⟩,tv⟩,⟨o177,⟨o162,tv,tv⟩,tv⟩⟩ Tryz.func55 (by kernel_rfl) (by kernel_rfl) g178 rfl k178
def g179:Sig:=⟨⟨bv 0 [.agg [.arr .i 16,.int .i64,.int .i64],.agg [.list .page]],[],[]⟩,.tup [.agg [.arr .i 16,.int .i64,.int .i64],.agg [.konst (.vec 0)],.konst (.vec 1),.int .i64],[.row .page,.row .acc],[],false,true,[(5,1,.page),(6,0,.acc)],[]⟩
def E179:Tr Sem1:=(.nd 137 (g95.sem fy) (.nd 82 (g126.sem bt) (.nd 55 (g178.sem iJ) .lf .lf) .lf) (.nd 138 (g124.sem gf) .lf .lf))
def A179:Anns:=⟨.lf,(.nd 50 ⟨[(2,(.konst (.ptr 0 0))),(3,(.konst (.ptr 1 0))),(4,(.konst (.ptr 2 0))),(5,(.konst (.ptr 3 0))),(9,(.int .i64)),(10,(.konst (.ptr 4 0)))],[(B17),(.var [(.list .page)]),(B17),(.var [(.konst .nils)]),(B2)],[]⟩ (.nd 44 ⟨[(2,(.konst (.ptr 0 0))),(3,(.konst (.ptr 1 0))),(4,(.konst (.ptr 2 0))),(5,(.konst (.ptr 3 0))),(8,.str),(9,(.int .i64))],[(B17),(.var [(.list .page)]),(B17),(.var [(.konst .nils)])],[]⟩ .lf .lf) .lf),[]⟩
theorem k179 x:g179.den E179 TT A179 F Tryz.f83 x=iK x:=by kernel_rfl
theorem o179:OK 83 (g179.sem iK):=tk (E:=E179) ⟨o95,⟨o126,⟨o178,tv,tv⟩,tv⟩,⟨o124,tv,tv⟩⟩ Tryz.func83 (by kernel_rfl) (by kernel_rfl) g179 rfl k179
def g180:Sig:=⟨⟨bv 0 [.agg [.arr .i 16,.int .i64,.int .i64],.agg [.list .page]],[],[]⟩,.tup [.agg [.arr .i 16,.int .i64,.int .i64],.agg [.konst (.vec 0)],.konst (.vec 1),.int .i64],[.row .page,.row .acc],[],false,true,[(5,1,.page),(6,0,.acc)],[]⟩
def E180:Tr Sem1:=(.nd 54 (g89.sem di) (.nd 53 (g85.sem gX) .lf .lf) (.nd 83 (g179.sem iK) .lf .lf))
theorem k180 x:g180.den E180 TT AN F Tryz.f43 x=eu x:=by kernel_rfl
theorem o180:OK 43 (g180.sem eu):=tk (E:=E180) ⟨o89,⟨o85,tv,tv⟩,⟨o179,tv,tv⟩⟩ Tryz.func43 (by kernel_rfl) (by kernel_rfl) g180 rfl k180
def g181:Sig:=⟨⟨bv 0 [.agg [.arr .i 16],.agg [.arr .i 16]],[],[]⟩,.one (.bool),[],[],false,false,[],[]⟩
def A181:Anns:=⟨(.nd 0 (.loop ⟨[(2,(.konst (.ptr 0 0))),(3,(.konst (.ptr 1 0))),(5,(.int .i64))],[(.var [(.arr .i 16)]),(.var [(.arr .i 16)])],[]⟩) .lf .lf),.lf,[]⟩
theorem k181 x:g181.den Tr.lf TT A181 F Tryz.f76 x=eO x:=by kernel_rfl
theorem o181:OK 76 (g181.sem eO):=tk (E:=Tr.lf) tv Tryz.func76 (by kernel_rfl) (by kernel_rfl) g181 rfl k181
def g182:Sig:=⟨⟨bv 0 [.agg [.arr .i 16,.int .i64,.int .i64],.agg [.arr .i 16,.int .i64,.int .i64]],[],[]⟩,.one (.bool),[],[],false,false,[],[]⟩
def E182:Tr Sem1:=(.nd 76 (g181.sem eO) .lf .lf)
theorem k182 x:g182.den E182 TT AN F Tryz.f33 x=fk x:=by kernel_rfl
theorem o182:OK 33 (g182.sem fk):=tk (E:=E182) ⟨o181,tv,tv⟩ Tryz.func33 (by kernel_rfl) (by kernel_rfl) g182 rfl k182
def g183:Sig:=⟨⟨bv 0 [.el .page,.el .page],[],[]⟩,.one (.bool),[],[],false,false,[],[]⟩
theorem k183 x:g183.den Tr.lf TT AN F Tryz.f132 x=gj x:=by kernel_rfl
theorem o183:OK 132 (g183.sem gj):=tk (E:=Tr.lf) tv Tryz.func132 (by kernel_rfl) (by kernel_rfl) g183 rfl k183
def g184:Sig:=⟨⟨bv 0 [.list .page,.list .page],[],[]⟩,.one (.bool),[],[],false,false,[],[]⟩
def E184:Tr Sem1:=(.nd 132 (g183.sem gj) .lf .lf)
def A184:Anns:=⟨(.nd 0 (.loop ⟨[(0,(.list .page)),(1,(.list .page)),(5,(.int .i64))],[],[]⟩) .lf .lf),.lf,[]⟩
theorem k184 x:g184.den E184 TT A184 F Tryz.f77 x=fD x:=by kernel_rfl
theorem o184:OK 77 (g184.sem fD):=tk (E:=E184) ⟨o183,tv,tv⟩ Tryz.func77 (by kernel_rfl) (by kernel_rfl) g184 rfl k184
def g185:Sig:=⟨⟨bv 0 [.agg [.list .page],.agg [.list .page]],[],[]⟩,.one (.bool),[],[],false,false,[],[]⟩
def E185:Tr Sem1:=(.nd 77 (g184.sem fD) .lf .lf)
theorem k185 x:g185.den E185 TT AN F Tryz.f34 x=cN x:=by kernel_rfl
theorem o185:OK 34 (g185.sem cN):=tk (E:=E185) ⟨o184,tv,tv⟩ Tryz.func34 (by kernel_rfl) (by kernel_rfl) g185 rfl k185
def g186:Sig:=⟨⟨bv 0 [.el .acc,.el .acc],[],[]⟩,.one (.bool),[],[],false,false,[],[]⟩
theorem k186 x:g186.den Tr.lf TT AN F Tryz.f78 x=eM x:=by kernel_rfl
theorem o186:OK 78 (g186.sem eM):=tk (E:=Tr.lf) tv Tryz.func78 (by kernel_rfl) (by kernel_rfl) g186 rfl k186
def g187:Sig:=⟨⟨bv 0 [.list .acc,.list .acc],[],[]⟩,.one (.bool),[],[],false,false,[],[]⟩
def E187:Tr Sem1:=(.nd 78 (g186.sem eM) .lf .lf)
def A187:Anns:=⟨(.nd 0 (.loop ⟨[(0,(.list .acc)),(1,(.list .acc)),(5,(.int .i64))],[],[]⟩) .lf .lf),.lf,[]⟩
theorem k187 x:g187.den E187 TT A187 F Tryz.f35 x=cX x:=by kernel_rfl
theorem o187:OK 35 (g187.sem cX):=tk (E:=E187) ⟨o186,tv,tv⟩ Tryz.func35 (by kernel_rfl) (by kernel_rfl) g187 rfl k187
def g188:Sig:=⟨⟨bv 0 [.int .i64],[],[]⟩,.one (.str),[],[],true,false,[],[]⟩
def A188:Anns:=⟨(.nd 0 (.loop ⟨[(0,(.int .i64)),(3,.str)],[],[]⟩) .lf .lf),.lf,[]⟩
theorem k188 x:g188.den Tr.lf TT A188 F Tryz.f133 x=cw x:=by kernel_rfl
theorem o188:OK 133 (g188.sem cw):=tk (E:=Tr.lf) tv Tryz.func133 (by kernel_rfl) (by kernel_rfl) g188 rfl k188
def g189:Sig:=⟨⟨bv 0 [.konst (.vec 0),.int .i64],[.row .page],[]⟩,.one (.int .i64),[.row .page],[(0,0,big)],true,false,[],[]⟩
def E189:Tr Sem1:=(.nd 133 (g188.sem cw) .lf .lf)
def A189:Anns:=⟨(.nd 0 (.loop ⟨[(0,(.konst (.vec 0))),(1,(.int .i64)),(5,(.int .i64))],[(.row .page)],[]⟩) .lf .lf),.lf,[]⟩
theorem k189 x:g189.den E189 TT A189 F Tryz.f79 x=dX x:=by kernel_rfl
theorem o189:OK 79 (g189.sem dX):=tk (E:=E189) ⟨o188,tv,tv⟩ Tryz.func79 (by kernel_rfl) (by kernel_rfl) g189 rfl k189
def g190:Sig:=⟨⟨bv 0 [.agg [.konst (.vec 0)],.int .i64],[.row .page],[]⟩,.one (.int .i64),[.row .page],[(0,0,big)],true,false,[],[]⟩
def E190:Tr Sem1:=(.nd 79 (g189.sem dX) .lf .lf)
theorem k190 x:g190.den E190 TT AN F Tryz.f36 x=da x:=by kernel_rfl
theorem o190:OK 36 (g190.sem da):=tk (E:=E190) ⟨o189,tv,tv⟩ Tryz.func36 (by kernel_rfl) (by kernel_rfl) g190 rfl k190
def g191:Sig:=⟨⟨bv 0 [.konst (.vec 0),.int .i64],[.row .acc],[]⟩,.one (.int .i64),[.row .acc],[(0,0,big)],true,false,[],[]⟩
def A191:Anns:=⟨(.nd 0 (.loop ⟨[(0,(.konst (.vec 0))),(1,(.int .i64)),(5,(.int .i64))],[(.row .acc)],[]⟩) .lf .lf),.lf,[]⟩
theorem k191 x:g191.den Tr.lf TT A191 F Tryz.f37 x=dp x:=by kernel_rfl
theorem o191:OK 37 (g191.sem dp):=tk (E:=Tr.lf) tv Tryz.func37 (by kernel_rfl) (by kernel_rfl) g191 rfl k191
def g192:Sig:=⟨⟨bv 0 [.list .page,.int .i64],[],[]⟩,.one (.int .i64),[],[],false,false,[],[]⟩
def E192:Tr Sem1:=(.nd 133 (g188.sem cw) .lf .lf)
def A192:Anns:=⟨(.nd 0 (.loop ⟨[(0,(.list .page)),(1,(.int .i64)),(5,(.int .i64))],[],[]⟩) .lf .lf),.lf,[]⟩
theorem k192 x:g192.den E192 TT A192 F Tryz.f80 x=dW x:=by kernel_rfl
theorem o192:OK 80 (g192.sem dW):=tk (E:=E192) ⟨o188,tv,tv⟩ Tryz.func80 (by kernel_rfl) (by kernel_rfl) g192 rfl k192
def g193:Sig:=⟨⟨bv 0 [.agg [.list .page],.int .i64],[],[]⟩,.one (.int .i64),[],[],false,false,[],[]⟩
def E193:Tr Sem1:=(.nd 80 (g192.sem dW) .lf .lf)
theorem k193 x:g193.den E193 TT AN F Tryz.f38 x=c9 x:=by kernel_rfl
theorem o193:OK 38 (g193.sem c9):=tk (E:=E193) ⟨o192,tv,tv⟩ Tryz.func38 (by kernel_rfl) (by kernel_rfl) g193 rfl k193
def g194:Sig:=⟨⟨bv 0 [.list .acc,.int .i64],[],[]⟩,.one (.int .i64),[],[],false,false,[],[]⟩
def A194:Anns:=⟨(.nd 0 (.loop ⟨[(0,(.list .acc)),(1,(.int .i64)),(5,(.int .i64))],[],[]⟩) .lf .lf),.lf,[]⟩
theorem k194 x:g194.den Tr.lf TT A194 F Tryz.f39 x=cO x:=by kernel_rfl
theorem o194:OK 39 (g194.sem cO):=tk (E:=Tr.lf) tv Tryz.func39 (by kernel_rfl) (by kernel_rfl) g194 rfl k194
def g195:Sig:=⟨⟨bv 0 [.agg [.arr .i 16,.int .i64,.int .i64],.agg [.list .page]],[],[]⟩,.one (.bool),[],[],false,false,[],[]⟩
def E195:Tr Sem1:=(.nd 36 (g190.sem da) (.nd 33 (g182.sem fk) (.nd 30 (g4.sem fm) (.nd 28 (g2.sem eP) .lf .lf) (.nd 31 (g7.sem cP) .lf .lf)) (.nd 35 (g187.sem cX) (.nd 34 (g185.sem cN) .lf .lf) .lf)) (.nd 39 (g194.sem cO) (.nd 38 (g193.sem c9) (.nd 37 (g191.sem dp) .lf .lf) .lf) (.nd 43 (g180.sem eu) (.nd 42 (g83.sem fG) .lf .lf) .lf)))
theorem k195 x:g195.den E195 TT AN F Tryz.f7 x=ce x:=by kernel_rfl
theorem o195:OK 7 (g195.sem ce):=tk (E:=E195) ⟨o190,⟨o182,⟨o4,⟨o2,tv,tv⟩,⟨o7,tv,tv⟩⟩,⟨o187,⟨o185,tv,tv⟩,tv⟩⟩,⟨o194,⟨o193,⟨o191,tv,tv⟩,tv⟩,⟨o180,⟨o83,tv,tv⟩,tv⟩⟩⟩ Tryz.func7 (by kernel_rfl) (by kernel_rfl) g195 rfl k195
end Go.Proofs.YtmpliclmlpjopaaGreat.StepCpu
