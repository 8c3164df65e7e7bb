/- Theory for the proofs of this claim: see its last text. -/
import Derived.Test.YtmpliclmlpjopaaGreatFnRunCpu
import Derived.Test.YtmpliclmlpjopaaGreatDenF
import Derived.Test.YtmpliclmlpjopaaGreatShl
import Derived.Test.YtmpliclmlpjopaaGreatProg
import Derived.KernelRfl
set_option maxRecDepth 100000
set_option maxHeartbeats 4000000
set_option linter.unusedVariables false
noncomputable section
namespace Go.Proofs.YtmpliclmlpjopaaGreat.RunCpu
open Go Go.Den Go.Den.G Go.Proofs Go.Proofs.YtmpliclmlpjopaaGreat
abbrev B17:BT:= .var [(.arr .i 16),(.int .i64),(.int .i64)]
abbrev B16:BT:= .var [.str,.int .i64,.int .i64,.bool,.int .i64]
abbrev V15:VT:= .agg [.int .i64,.int .i64,.int .i64,.bool,.int .i64]
abbrev B14:BT:= .var [.str,(.int .i64),(.int .i64),.bool,(.int .i64)]
abbrev B13:BT:= .var [(.int .i64),(.int .i64),(.int .i64),.bool,(.int .i64)]
abbrev V12:VT:= .agg [.int .i64,.int .i64,.int .i64,.int .i64,.int .i64,.int .i64,.int .i64]
abbrev B11:BT:= .var [.arr .i 16,.int .i64,.int .i64,.list .page,.int .i64,.konst (.vec 2),.int .i64]
abbrev B10:BT:= .var [.arr .i 16,.int .i64,.int .i64,.list .page,.int .i64,.konst (.vec 1),.int .i64]
abbrev B9:BT:= .var [.arr .i 16,.int .i64,.int .i64,.konst (.vec 3),.int .i64,.konst (.vec 4),.int .i64]
abbrev B8:BT:= .var [.arr .i 16,.int .i64,.int .i64,.konst (.vec 1),.int .i64,.konst (.vec 2),.int .i64]
abbrev B7:BT:= .var [(.int .i64),(.int .i64),(.int .i64),(.int .i64),(.int .i64),(.int .i64),(.int .i64)]
abbrev B6:BT:= .var [(.arr .i 16),(.int .i64),(.int .i64),(.list .page),(.int .i64),(.konst (.vec 2)),(.int .i64)]
abbrev B5:BT:= .var [(.arr .i 16),(.int .i64),(.int .i64),(.konst (.vec 6)),(.int .i64),(.konst (.vec 7)),(.int .i64)]
abbrev B4:BT:= .var [(.arr .i 16),(.int .i64),(.int .i64),(.konst (.vec 5)),(.int .i64),(.konst (.vec 6)),(.int .i64)]
abbrev B3:BT:= .var [(.arr .i 16),(.int .i64),(.int .i64),(.konst (.vec 3)),(.int .i64),(.konst (.vec 4)),(.int .i64)]
abbrev B2:BT:= .var [(.int .i64),(.int .i64),(.int .i64),(.int .i64),(.int .i64),(.int .i64),(.int .i64),(.int .i64),(.int .i64),(.int .i64),(.int .i64),(.int .i64),(.int .i64),(.int .i64),(.int .i64),(.int .i64),(.int .i64),(.int .i64),(.int .i64)]
abbrev B1:BT:= .var [.str,.int .i64,.int .i64,.bool,.int .i64,.bool,.int .i64,.int .i64,.int .i64,.int .i64,.bool,.int .i64,.int .i64,.int .i64,.int .i64,.int .i64,.int .i64,.int .i64,.int .i64,.int .i64,.int .i64,.int .i64,.int .i64,.int .i64,.int .i64,.int .i64,.int .i64,.int .i64,.int .i64,.int .i64,.int .i64,.int .i64,.int .i64,.int .i64]
abbrev B0:BT:= .var [.str,(.int .i64),(.int .i64),.bool,(.int .i64),.bool,(.int .i64),(.int .i64),(.int .i64),(.int .i64),.bool,(.int .i64),(.int .i64),(.int .i64),(.int .i64),(.int .i64),(.int .i64),(.int .i64),(.int .i64),(.int .i64),(.int .i64),(.int .i64),(.int .i64),(.int .i64),(.int .i64),(.int .i64),(.int .i64),(.int .i64),(.int .i64),(.int .i64),(.int .i64),(.int .i64),(.int .i64),(.int .i64)]
def Ly:Lay:=[]
def TT:Tr TI:=(.nd 139 ⟨.fn,1,8,[.nilf],none,false⟩ (.nd 70 ⟨.fn,1,8,[.nilf],none,false⟩ (.nd 32 ⟨.struct [(0,3),(1,3),(2,3),(3,3),(4,3),(5,3),(6,3)],7,56,[.int .i64 0,.int .i64 0,.int .i64 0,.int .i64 0,.int .i64 0,.int .i64 0,.int .i64 0],none,true⟩ (.nd 16 ⟨.ptr 263,1,8,[.nilp],none,false⟩ (.nd 8 ⟨.struct [(0,2),(1,3),(2,4),(3,6)],4,24,[.int .i64 0,.int .i64 0,.bool false,.int .u8 0],none,false⟩ (.nd 4 ⟨.bool,1,1,[.bool false],some .b,false⟩ (.nd 2 ⟨.int .i64,1,8,[.int .i64 0],some .i,false⟩ (.nd 1 ⟨.fn,1,8,[.nilf],none,false⟩ .lf .lf) (.nd 3 ⟨.int .i64,1,8,[.int .i64 0],some .i,false⟩ .lf .lf)) (.nd 6 ⟨.int .u8,1,1,[.int .u8 0],some .u,false⟩ (.nd 5 ⟨.int .u8,1,1,[.int .u8 0],some .u,false⟩ .lf .lf) (.nd 7 ⟨.struct [(0,2),(1,3),(2,4),(3,6)],4,24,[.int .i64 0,.int .i64 0,.bool false,.int .u8 0],none,false⟩ .lf .lf))) (.nd 12 ⟨.int .u64,1,8,[.int .u64 0],none,false⟩ (.nd 10 ⟨.str,1,16,[.str []],some .s,false⟩ (.nd 9 ⟨.str,1,16,[.str []],some .s,false⟩ .lf .lf) (.nd 11 ⟨.str,1,16,[.str []],some .s,false⟩ .lf .lf)) (.nd 14 ⟨.struct [(0,9),(1,12)],2,24,[.str [],.int .u64 0],none,false⟩ (.nd 13 ⟨.struct [(0,9),(1,12)],2,24,[.str [],.int .u64 0],none,false⟩ .lf .lf) (.nd 15 ⟨.ptr 260,1,8,[.nilp],none,false⟩ .lf .lf)))) (.nd 24 ⟨.struct [(0,23),(16,3),(17,3)],18,144,[.arr .i 16 [],.int .i64 0,.int .i64 0],none,false⟩ (.nd 20 ⟨.iface,1,16,[.err true],none,false⟩ (.nd 18 ⟨.struct [(0,17)],1,8,[.nilp],none,false⟩ (.nd 17 ⟨.ptr 271,1,8,[.nilp],none,false⟩ .lf .lf) (.nd 19 ⟨.struct [(0,17)],1,8,[.nilp],none,false⟩ .lf .lf)) (.nd 22 ⟨.slice 5,1,24,[.nils],none,false⟩ (.nd 21 ⟨.int .i32,1,4,[.int .i32 0],none,false⟩ .lf .lf) (.nd 23 ⟨.array 16 3,16,128,[.arr .i 16 []],none,false⟩ .lf .lf))) (.nd 28 ⟨.struct [(0,27)],1,24,[.nils],none,false⟩ (.nd 26 ⟨.fn,1,8,[.nilf],none,false⟩ (.nd 25 ⟨.struct [(0,23),(16,3),(17,3)],18,144,[.arr .i 16 [],.int .i64 0,.int .i64 0],none,true⟩ .lf .lf) (.nd 27 ⟨.slice 103,1,24,[.nils],none,false⟩ .lf .lf)) (.nd 30 ⟨.fn,1,8,[.nilf],none,false⟩ (.nd 29 ⟨.struct [(0,27)],1,24,[.nils],none,false⟩ .lf .lf) (.nd 31 ⟨.struct [(0,3),(1,3),(2,3),(3,3),(4,3),(5,3),(6,3)],7,56,[.int .i64 0,.int .i64 0,.int .i64 0,.int .i64 0,.int .i64 0,.int .i64 0,.int .i64 0],none,false⟩ .lf .lf))))) (.nd 52 ⟨.struct [(0,50),(1,4),(2,4),(3,4)],4,32,[.nils,.bool false,.bool false,.bool false],none,false⟩ (.nd 43 ⟨.fn,1,8,[.nilf],none,false⟩ (.nd 36 ⟨.fn,1,8,[.nilf],none,false⟩ (.nd 34 ⟨.struct [(0,3),(1,3),(2,3),(3,3),(4,32),(11,32),(18,3)],19,152,[.int .i64 0,.int .i64 0,.int .i64 0,.int .i64 0,.int .i64 0,.int .i64 0,.int .i64 0,.int .i64 0,.int .i64 0,.int .i64 0,.int .i64 0,.int .i64 0,.int .i64 0,.int .i64 0,.int .i64 0,.int .i64 0,.int .i64 0,.int .i64 0,.int .i64 0],some .ins,false⟩ (.nd 33 ⟨.struct [(0,3),(1,3),(2,3),(3,3),(4,32),(11,32),(18,3)],19,152,[.int .i64 0,.int .i64 0,.int .i64 0,.int .i64 0,.int .i64 0,.int .i64 0,.int .i64 0,.int .i64 0,.int .i64 0,.int .i64 0,.int .i64 0,.int .i64 0,.int .i64 0,.int .i64 0,.int .i64 0,.int .i64 0,.int .i64 0,.int .i64 0,.int .i64 0],none,false⟩ .lf .lf) (.nd 35 ⟨.fn,1,8,[.nilf],none,false⟩ .lf .lf)) (.nd 39 ⟨.slice 46,1,24,[.nils],none,false⟩ (.nd 38 ⟨.fn,1,8,[.nilf],none,false⟩ .lf .lf) (.nd 41 ⟨.fn,1,8,[.nilf],none,false⟩ .lf .lf))) (.nd 48 ⟨.fn,1,8,[.nilf],none,false⟩ (.nd 45 ⟨.struct [(0,3),(1,3),(2,3),(3,3)],4,32,[.int .i64 0,.int .i64 0,.int .i64 0,.int .i64 0],none,false⟩ (.nd 44 ⟨.fn,1,8,[.nilf],none,false⟩ .lf .lf) (.nd 46 ⟨.struct [(0,3),(1,3),(2,3),(3,3)],4,32,[.int .i64 0,.int .i64 0,.int .i64 0,.int .i64 0],some .acc,true⟩ .lf .lf)) (.nd 50 ⟨.slice 3,1,24,[.nils],none,false⟩ (.nd 49 ⟨.fn,1,8,[.nilf],none,false⟩ .lf .lf) (.nd 51 ⟨.struct [(0,50),(1,4),(2,4),(3,4)],4,32,[.nils,.bool false,.bool false,.bool false],none,false⟩ .lf .lf)))) (.nd 62 ⟨.struct [(0,61)],1,24,[.nils],none,false⟩ (.nd 58 ⟨.fn,1,8,[.nilf],none,false⟩ (.nd 55 ⟨.fn,1,8,[.nilf],none,false⟩ (.nd 54 ⟨.fn,1,8,[.nilf],none,false⟩ .lf .lf) (.nd 57 ⟨.fn,1,8,[.nilf],none,false⟩ .lf .lf)) (.nd 60 ⟨.struct [(0,23),(16,3),(17,3)],18,144,[.arr .i 16 [],.int .i64 0,.int .i64 0],none,true⟩ (.nd 59 ⟨.fn,1,8,[.nilf],none,false⟩ .lf .lf) (.nd 61 ⟨.slice 140,1,24,[.nils],none,false⟩ .lf .lf))) (.nd 66 ⟨.struct [(0,3),(1,3),(2,3),(3,3),(4,64),(11,64),(18,3)],19,152,[.int .i64 0,.int .i64 0,.int .i64 0,.int .i64 0,.int .i64 0,.int .i64 0,.int .i64 0,.int .i64 0,.int .i64 0,.int .i64 0,.int .i64 0,.int .i64 0,.int .i64 0,.int .i64 0,.int .i64 0,.int .i64 0,.int .i64 0,.int .i64 0,.int .i64 0],some .ins,false⟩ (.nd 64 ⟨.struct [(0,3),(1,3),(2,3),(3,3),(4,3),(5,3),(6,3)],7,56,[.int .i64 0,.int .i64 0,.int .i64 0,.int .i64 0,.int .i64 0,.int .i64 0,.int .i64 0],none,true⟩ (.nd 63 ⟨.struct [(0,61)],1,24,[.nils],none,false⟩ .lf .lf) (.nd 65 ⟨.struct [(0,3),(1,3),(2,3),(3,3),(4,64),(11,64),(18,3)],19,152,[.int .i64 0,.int .i64 0,.int .i64 0,.int .i64 0,.int .i64 0,.int .i64 0,.int .i64 0,.int .i64 0,.int .i64 0,.int .i64 0,.int .i64 0,.int .i64 0,.int .i64 0,.int .i64 0,.int .i64 0,.int .i64 0,.int .i64 0,.int .i64 0,.int .i64 0],none,false⟩ .lf .lf)) (.nd 68 ⟨.fn,1,8,[.nilf],none,false⟩ (.nd 67 ⟨.fn,1,8,[.nilf],none,false⟩ .lf .lf) (.nd 69 ⟨.fn,1,8,[.nilf],none,false⟩ .lf .lf)))))) (.nd 106 ⟨.fn,1,8,[.nilf],none,false⟩ (.nd 88 ⟨.fn,1,8,[.nilf],none,false⟩ (.nd 79 ⟨.fn,1,8,[.nilf],none,false⟩ (.nd 74 ⟨.fn,1,8,[.nilf],none,false⟩ (.nd 72 ⟨.fn,1,8,[.nilf],none,false⟩ (.nd 71 ⟨.fn,1,8,[.nilf],none,false⟩ .lf .lf) (.nd 73 ⟨.fn,1,8,[.nilf],none,false⟩ .lf .lf)) (.nd 77 ⟨.fn,1,8,[.nilf],none,false⟩ (.nd 75 ⟨.fn,1,8,[.nilf],none,false⟩ .lf .lf) (.nd 78 ⟨.fn,1,8,[.nilf],none,false⟩ .lf .lf))) (.nd 84 ⟨.fn,1,8,[.nilf],none,false⟩ (.nd 82 ⟨.fn,1,8,[.nilf],none,false⟩ (.nd 80 ⟨.fn,1,8,[.nilf],none,false⟩ .lf .lf) (.nd 83 ⟨.ptr 116,1,8,[.nilp],none,false⟩ .lf .lf)) (.nd 86 ⟨.fn,1,8,[.nilf],none,false⟩ (.nd 85 ⟨.fn,1,8,[.nilf],none,false⟩ .lf .lf) (.nd 87 ⟨.fn,1,8,[.nilf],none,false⟩ .lf .lf)))) (.nd 98 ⟨.fn,1,8,[.nilf],none,false⟩ (.nd 93 ⟨.fn,1,8,[.nilf],none,false⟩ (.nd 91 ⟨.fn,1,8,[.nilf],none,false⟩ (.nd 90 ⟨.fn,1,8,[.nilf],none,false⟩ .lf .lf) (.nd 92 ⟨.fn,1,8,[.nilf],none,false⟩ .lf .lf)) (.nd 95 ⟨.int .u64,1,8,[.int .u64 0],none,false⟩ (.nd 94 ⟨.fn,1,8,[.nilf],none,false⟩ .lf .lf) (.nd 96 ⟨.fn,1,8,[.nilf],none,false⟩ .lf .lf))) (.nd 102 ⟨.struct [(0,3),(1,3),(2,9)],3,32,[.int .i64 0,.int .i64 0,.str []],none,false⟩ (.nd 100 ⟨.fn,1,8,[.nilf],none,false⟩ (.nd 99 ⟨.fn,1,8,[.nilf],none,false⟩ .lf .lf) (.nd 101 ⟨.fn,1,8,[.nilf],none,false⟩ .lf .lf)) (.nd 104 ⟨.fn,1,8,[.nilf],none,false⟩ (.nd 103 ⟨.struct [(0,3),(1,3),(2,9)],3,32,[.int .i64 0,.int .i64 0,.str []],some .page,true⟩ .lf .lf) (.nd 105 ⟨.fn,1,8,[.nilf],none,false⟩ .lf .lf))))) (.nd 123 ⟨.fn,1,8,[.nilf],none,false⟩ (.nd 114 ⟨.fn,1,8,[.nilf],none,false⟩ (.nd 110 ⟨.fn,1,8,[.nilf],none,false⟩ (.nd 108 ⟨.fn,1,8,[.nilf],none,false⟩ (.nd 107 ⟨.fn,1,8,[.nilf],none,false⟩ .lf .lf) (.nd 109 ⟨.fn,1,8,[.nilf],none,false⟩ .lf .lf)) (.nd 112 ⟨.fn,1,8,[.nilf],none,false⟩ (.nd 111 ⟨.fn,1,8,[.nilf],none,false⟩ .lf .lf) (.nd 113 ⟨.fn,1,8,[.nilf],none,false⟩ .lf .lf))) (.nd 118 ⟨.fn,1,8,[.nilf],none,false⟩ (.nd 116 ⟨.struct [(0,22),(1,3),(2,3)],3,40,[.nils,.int .i64 0,.int .i64 0],none,false⟩ (.nd 115 ⟨.struct [(0,22),(1,3),(2,3)],3,40,[.nils,.int .i64 0,.int .i64 0],none,false⟩ .lf .lf) (.nd 117 ⟨.fn,1,8,[.nilf],none,false⟩ .lf .lf)) (.nd 120 ⟨.fn,1,8,[.nilf],none,false⟩ (.nd 119 ⟨.fn,1,8,[.nilf],none,false⟩ .lf .lf) (.nd 122 ⟨.fn,1,8,[.nilf],none,false⟩ .lf .lf)))) (.nd 132 ⟨.struct [(0,25),(18,29),(19,3),(20,39),(21,3)],22,208,[.arr .i 16 [],.int .i64 0,.int .i64 0,.nils,.int .i64 0,.nils,.int .i64 0],none,false⟩ (.nd 127 ⟨.fn,1,8,[.nilf],none,false⟩ (.nd 125 ⟨.fn,1,8,[.nilf],none,false⟩ (.nd 124 ⟨.fn,1,8,[.nilf],none,false⟩ .lf .lf) (.nd 126 ⟨.fn,1,8,[.nilf],none,false⟩ .lf .lf)) (.nd 130 ⟨.fn,1,8,[.nilf],none,false⟩ (.nd 128 ⟨.fn,1,8,[.nilf],none,false⟩ .lf .lf) (.nd 131 ⟨.ptr 133,1,8,[.nilp],none,false⟩ .lf .lf))) (.nd 136 ⟨.ptr 25,1,8,[.nilp],none,false⟩ (.nd 134 ⟨.fn,1,8,[.nilf],none,false⟩ (.nd 133 ⟨.struct [(0,25),(18,29),(19,3),(20,39),(21,3)],22,208,[.arr .i 16 [],.int .i64 0,.int .i64 0,.nils,.int .i64 0,.nils,.int .i64 0],none,false⟩ .lf .lf) (.nd 135 ⟨.fn,1,8,[.nilf],none,false⟩ .lf .lf)) (.nd 138 ⟨.fn,1,8,[.nilf],none,false⟩ (.nd 137 ⟨.fn,1,8,[.nilf],none,false⟩ .lf .lf) .lf)))))) (.nd 208 ⟨.fn,1,8,[.nilf],none,false⟩ (.nd 175 ⟨.fn,1,8,[.nilf],none,false⟩ (.nd 157 ⟨.fn,1,8,[.nilf],none,false⟩ (.nd 149 ⟨.fn,1,8,[.nilf],none,false⟩ (.nd 143 ⟨.struct [(0,25),(18,29),(19,3),(20,39),(21,3)],22,208,[.arr .i 16 [],.int .i64 0,.int .i64 0,.nils,.int .i64 0,.nils,.int .i64 0],none,false⟩ (.nd 141 ⟨.ptr 143,1,8,[.nilp],none,false⟩ (.nd 140 ⟨.struct [(0,3),(1,3),(2,9)],3,32,[.int .i64 0,.int .i64 0,.str []],some .page,true⟩ .lf .lf) (.nd 142 ⟨.struct [(0,25),(18,29),(19,3),(20,39),(21,3)],22,208,[.arr .i 16 [],.int .i64 0,.int .i64 0,.nils,.int .i64 0,.nils,.int .i64 0],none,false⟩ .lf .lf)) (.nd 145 ⟨.fn,1,8,[.nilf],none,false⟩ (.nd 144 ⟨.fn,1,8,[.nilf],none,false⟩ .lf .lf) (.nd 147 ⟨.fn,1,8,[.nilf],none,false⟩ .lf .lf))) (.nd 153 ⟨.struct [(0,34),(19,3),(20,4),(21,9)],22,184,[.int .i64 0,.int .i64 0,.int .i64 0,.int .i64 0,.int .i64 0,.int .i64 0,.int .i64 0,.int .i64 0,.int .i64 0,.int .i64 0,.int .i64 0,.int .i64 0,.int .i64 0,.int .i64 0,.int .i64 0,.int .i64 0,.int .i64 0,.int .i64 0,.int .i64 0,.int .i64 0,.bool false,.str []],none,false⟩ (.nd 151 ⟨.ptr 153,1,8,[.nilp],none,false⟩ (.nd 150 ⟨.fn,1,8,[.nilf],none,false⟩ .lf .lf) (.nd 152 ⟨.struct [(0,34),(19,3),(20,4),(21,9)],22,184,[.int .i64 0,.int .i64 0,.int .i64 0,.int .i64 0,.int .i64 0,.int .i64 0,.int .i64 0,.int .i64 0,.int .i64 0,.int .i64 0,.int .i64 0,.int .i64 0,.int .i64 0,.int .i64 0,.int .i64 0,.int .i64 0,.int .i64 0,.int .i64 0,.int .i64 0,.int .i64 0,.bool false,.str []],none,false⟩ .lf .lf)) (.nd 155 ⟨.fn,1,8,[.nilf],none,false⟩ (.nd 154 ⟨.int .u64,1,8,[.int .u64 0],none,false⟩ .lf .lf) (.nd 156 ⟨.fn,1,8,[.nilf],none,false⟩ .lf .lf)))) (.nd 167 ⟨.fn,1,8,[.nilf],none,false⟩ (.nd 161 ⟨.fn,1,8,[.nilf],none,false⟩ (.nd 159 ⟨.slice 9,1,24,[.nils],none,false⟩ (.nd 158 ⟨.fn,1,8,[.nilf],none,false⟩ .lf .lf) (.nd 160 ⟨.fn,1,8,[.nilf],none,false⟩ .lf .lf)) (.nd 164 ⟨.fn,1,8,[.nilf],none,false⟩ (.nd 162 ⟨.fn,1,8,[.nilf],none,false⟩ .lf .lf) (.nd 166 ⟨.fn,1,8,[.nilf],none,false⟩ .lf .lf))) (.nd 171 ⟨.fn,1,8,[.nilf],none,false⟩ (.nd 169 ⟨.fn,1,8,[.nilf],none,false⟩ (.nd 168 ⟨.ptr 3,1,8,[.nilp],none,false⟩ .lf .lf) (.nd 170 ⟨.fn,1,8,[.nilf],none,false⟩ .lf .lf)) (.nd 173 ⟨.array 16 4,16,16,[.arr .b 16 []],none,false⟩ (.nd 172 ⟨.fn,1,8,[.nilf],none,false⟩ .lf .lf) (.nd 174 ⟨.fn,1,8,[.nilf],none,false⟩ .lf .lf))))) (.nd 192 ⟨.struct [(0,9),(1,3),(2,3),(3,4),(4,3),(5,4),(6,3),(7,182),(12,3),(13,3),(14,3),(15,34)],34,280,[.str [],.int .i64 0,.int .i64 0,.bool false,.int .i64 0,.bool false,.int .i64 0,.int .i64 0,.int .i64 0,.int .i64 0,.bool false,.int .i64 0,.int .i64 0,.int .i64 0,.int .i64 0,.int .i64 0,.int .i64 0,.int .i64 0,.int .i64 0,.int .i64 0,.int .i64 0,.int .i64 0,.int .i64 0,.int .i64 0,.int .i64 0,.int .i64 0,.int .i64 0,.int .i64 0,.int .i64 0,.int .i64 0,.int .i64 0,.int .i64 0,.int .i64 0,.int .i64 0],none,false⟩ (.nd 184 ⟨.fn,1,8,[.nilf],none,false⟩ (.nd 179 ⟨.struct [(0,9),(1,3),(2,3),(3,4),(4,3)],5,48,[.str [],.int .i64 0,.int .i64 0,.bool false,.int .i64 0],none,false⟩ (.nd 177 ⟨.fn,1,8,[.nilf],none,false⟩ (.nd 176 ⟨.fn,1,8,[.nilf],none,false⟩ .lf .lf) (.nd 178 ⟨.ptr 180,1,8,[.nilp],none,false⟩ .lf .lf)) (.nd 181 ⟨.struct [(0,3),(1,3),(2,3),(3,4),(4,3)],5,40,[.int .i64 0,.int .i64 0,.int .i64 0,.bool false,.int .i64 0],none,false⟩ (.nd 180 ⟨.struct [(0,9),(1,3),(2,3),(3,4),(4,3)],5,48,[.str [],.int .i64 0,.int .i64 0,.bool false,.int .i64 0],none,true⟩ .lf .lf) (.nd 182 ⟨.struct [(0,3),(1,3),(2,3),(3,4),(4,3)],5,40,[.int .i64 0,.int .i64 0,.int .i64 0,.bool false,.int .i64 0],none,true⟩ .lf .lf))) (.nd 188 ⟨.fn,1,8,[.nilf],none,false⟩ (.nd 186 ⟨.fn,1,8,[.nilf],none,false⟩ (.nd 185 ⟨.fn,1,8,[.nilf],none,false⟩ .lf .lf) (.nd 187 ⟨.fn,1,8,[.nilf],none,false⟩ .lf .lf)) (.nd 190 ⟨.ptr 192,1,8,[.nilp],none,false⟩ (.nd 189 ⟨.fn,1,8,[.nilf],none,false⟩ .lf .lf) (.nd 191 ⟨.struct [(0,9),(1,3),(2,3),(3,4),(4,3),(5,4),(6,3),(7,182),(12,3),(13,3),(14,3),(15,34)],34,280,[.str [],.int .i64 0,.int .i64 0,.bool false,.int .i64 0,.bool false,.int .i64 0,.int .i64 0,.int .i64 0,.int .i64 0,.bool false,.int .i64 0,.int .i64 0,.int .i64 0,.int .i64 0,.int .i64 0,.int .i64 0,.int .i64 0,.int .i64 0,.int .i64 0,.int .i64 0,.int .i64 0,.int .i64 0,.int .i64 0,.int .i64 0,.int .i64 0,.int .i64 0,.int .i64 0,.int .i64 0,.int .i64 0,.int .i64 0,.int .i64 0,.int .i64 0,.int .i64 0],none,false⟩ .lf .lf)))) (.nd 200 ⟨.fn,1,8,[.nilf],none,false⟩ (.nd 196 ⟨.fn,1,8,[.nilf],none,false⟩ (.nd 194 ⟨.fn,1,8,[.nilf],none,false⟩ (.nd 193 ⟨.slice 1,1,24,[.nils],none,false⟩ .lf .lf) (.nd 195 ⟨.fn,1,8,[.nilf],none,false⟩ .lf .lf)) (.nd 198 ⟨.slice 4,1,24,[.nils],none,false⟩ (.nd 197 ⟨.fn,1,8,[.nilf],none,false⟩ .lf .lf) (.nd 199 ⟨.fn,1,8,[.nilf],none,false⟩ .lf .lf))) (.nd 205 ⟨.fn,1,8,[.nilf],none,false⟩ (.nd 203 ⟨.fn,1,8,[.nilf],none,false⟩ (.nd 201 ⟨.fn,1,8,[.nilf],none,false⟩ .lf .lf) (.nd 204 ⟨.fn,1,8,[.nilf],none,false⟩ .lf .lf)) (.nd 207 ⟨.fn,1,8,[.nilf],none,false⟩ (.nd 206 ⟨.fn,1,8,[.nilf],none,false⟩ .lf .lf) .lf))))) (.nd 242 ⟨.fn,1,8,[.nilf],none,false⟩ (.nd 225 ⟨.fn,1,8,[.nilf],none,false⟩ (.nd 217 ⟨.fn,1,8,[.nilf],none,false⟩ (.nd 213 ⟨.fn,1,8,[.nilf],none,false⟩ (.nd 211 ⟨.fn,1,8,[.nilf],none,false⟩ (.nd 210 ⟨.fn,1,8,[.nilf],none,false⟩ .lf .lf) (.nd 212 ⟨.fn,1,8,[.nilf],none,false⟩ .lf .lf)) (.nd 215 ⟨.fn,1,8,[.nilf],none,false⟩ (.nd 214 ⟨.fn,1,8,[.nilf],none,false⟩ .lf .lf) (.nd 216 ⟨.fn,1,8,[.nilf],none,false⟩ .lf .lf))) (.nd 221 ⟨.fn,1,8,[.nilf],none,false⟩ (.nd 219 ⟨.fn,1,8,[.nilf],none,false⟩ (.nd 218 ⟨.ptr 34,1,8,[.nilp],none,false⟩ .lf .lf) (.nd 220 ⟨.fn,1,8,[.nilf],none,false⟩ .lf .lf)) (.nd 223 ⟨.fn,1,8,[.nilf],none,false⟩ (.nd 222 ⟨.fn,1,8,[.nilf],none,false⟩ .lf .lf) (.nd 224 ⟨.fn,1,8,[.nilf],none,false⟩ .lf .lf)))) (.nd 234 ⟨.int .u32,1,4,[.int .u32 0],none,false⟩ (.nd 230 ⟨.fn,1,8,[.nilf],none,false⟩ (.nd 227 ⟨.int .i64,1,8,[.int .i64 0],some .i,false⟩ (.nd 226 ⟨.fn,1,8,[.nilf],none,false⟩ .lf .lf) (.nd 229 ⟨.fn,1,8,[.nilf],none,false⟩ .lf .lf)) (.nd 232 ⟨.fn,1,8,[.nilf],none,false⟩ (.nd 231 ⟨.fn,1,8,[.nilf],none,false⟩ .lf .lf) (.nd 233 ⟨.fn,1,8,[.nilf],none,false⟩ .lf .lf))) (.nd 238 ⟨.fn,1,8,[.nilf],none,false⟩ (.nd 236 ⟨.fn,1,8,[.nilf],none,false⟩ (.nd 235 ⟨.fn,1,8,[.nilf],none,false⟩ .lf .lf) (.nd 237 ⟨.fn,1,8,[.nilf],none,false⟩ .lf .lf)) (.nd 240 ⟨.fn,1,8,[.nilf],none,false⟩ (.nd 239 ⟨.fn,1,8,[.nilf],none,false⟩ .lf .lf) (.nd 241 ⟨.fn,1,8,[.nilf],none,false⟩ .lf .lf))))) (.nd 259 ⟨.struct [(0,17),(1,17),(2,17),(3,9)],4,40,[.nilp,.nilp,.nilp,.str []],none,false⟩ (.nd 251 ⟨.fn,1,8,[.nilf],none,false⟩ (.nd 247 ⟨.iface,1,16,[.err true],none,false⟩ (.nd 244 ⟨.fn,1,8,[.nilf],none,false⟩ (.nd 243 ⟨.fn,1,8,[.nilf],none,false⟩ .lf .lf) (.nd 246 ⟨.fn,1,8,[.nilf],none,false⟩ .lf .lf)) (.nd 249 ⟨.ptr 103,1,8,[.nilp],none,false⟩ (.nd 248 ⟨.iface,1,16,[.err true],none,false⟩ .lf .lf) (.nd 250 ⟨.int .u64,1,8,[.int .u64 0],none,false⟩ .lf .lf))) (.nd 255 ⟨.fn,1,8,[.nilf],none,false⟩ (.nd 253 ⟨.fn,1,8,[.nilf],none,false⟩ (.nd 252 ⟨.fn,1,8,[.nilf],none,false⟩ .lf .lf) (.nd 254 ⟨.fn,1,8,[.nilf],none,false⟩ .lf .lf)) (.nd 257 ⟨.fn,1,8,[.nilf],none,false⟩ (.nd 256 ⟨.ptr 250,1,8,[.nilp],none,false⟩ .lf .lf) (.nd 258 ⟨.ptr 273,1,8,[.nilp],none,false⟩ .lf .lf)))) (.nd 267 ⟨.ptr 5,1,8,[.nilp],none,false⟩ (.nd 263 ⟨.struct [(0,261)],0,0,[],none,false⟩ (.nd 261 ⟨.array 0 16,0,0,[],none,false⟩ (.nd 260 ⟨.struct [(0,17),(1,17),(2,17),(3,9)],4,40,[.nilp,.nilp,.nilp,.str []],none,false⟩ .lf .lf) (.nd 262 ⟨.struct [(0,261)],0,0,[],none,false⟩ .lf .lf)) (.nd 265 ⟨.int .u8,1,1,[.int .u8 0],some .u,false⟩ (.nd 264 ⟨.int .u8,1,1,[.int .u8 0],some .u,false⟩ .lf .lf) (.nd 266 ⟨.fn,1,8,[.nilf],none,false⟩ .lf .lf))) (.nd 271 ⟨.struct [(0,12),(1,12),(2,234),(3,264),(4,5),(5,5),(6,265),(7,266),(8,267),(9,268),(10,269)],11,48,[.int .u64 0,.int .u64 0,.int .u32 0,.int .u8 0,.int .u8 0,.int .u8 0,.int .u8 0,.nilf,.nilp,.int .i32 0,.int .i32 0],none,false⟩ (.nd 269 ⟨.int .i32,1,4,[.int .i32 0],none,false⟩ (.nd 268 ⟨.int .i32,1,4,[.int .i32 0],none,false⟩ .lf .lf) (.nd 270 ⟨.struct [(0,12),(1,12),(2,234),(3,264),(4,5),(5,5),(6,265),(7,266),(8,267),(9,268),(10,269)],11,48,[.int .u64 0,.int .u64 0,.int .u32 0,.int .u8 0,.int .u8 0,.int .u8 0,.int .u8 0,.nilf,.nilp,.int .i32 0,.int .i32 0],none,false⟩ .lf .lf)) (.nd 273 ⟨.struct [(0,9)],1,16,[.str []],none,false⟩ (.nd 272 ⟨.struct [(0,9)],1,16,[.str []],none,false⟩ .lf .lf) .lf)))))))
abbrev OK (n:Nat)(S:Sem1):Prop:=pB Tryz.prog Ly n S
def AN:Anns:=⟨.lf,.lf,[]⟩
theorem tok:TOK Tryz.prog TT:=by unfold TOK;kernel_rfl
theorem eqs:yY Tryz.prog TT:=DO (by kernel_rfl)
theorem mix:Tryz.prog.follows .mixedOrders=true:=by kernel_rfl
theorem tv:True:=trivial
def chk (fn:Func)(g:Sig):Bool:= !(fn.name== "runtime.NumGoroutine")&&((match fn.body with|some c=>lj fn.ntmps c|none=>false)&&Nat.ble (lenN g.D.ts) fn.ntmps)
theorem tk {E:Tr Sem1}{A:Anns}(h:E.All (fun n S=>OK n S)){n:FuncId}{fn:Func}(hf:Tryz.prog.funcs[n]? =some fn)(g:Sig)(hc:chk fn g=true){S:g.D.Ty→Option (g.r.Ty×BTL.Ty g.ks)}(hS:∀x,g.den E TT A F fn x=S x):OK n (g.sem S):=by
 unfold chk at hc
 rw[Bool.and_eq_true,Bool.and_eq_true]at hc
 exact C6 ⟨tok,eqs,h.get,mix⟩ hf (by cases h0:(fn.name== "runtime.NumGoroutine")with|false=>rfl|true=>rw[h0]at hc;cases hc.1) hc.2.1 g hc.2.2 S hS
def g0:Sig:=⟨⟨bt 0 [.el .page,.int .i64],[],[]⟩,.one (.int .i64),[],[],false,false,[],[]⟩
theorem o0:OK 125 (g0.sem gN):=tk (E:=Tr.lf) (A:=AN) tv Tryz.func125 g0 (by kernel_rfl) fun x=>by kernel_rfl
def g1:Sig:=⟨⟨bt 0 [.list .page,.int .i64],[],[]⟩,.one (.int .i64),[],[],false,false,[],[]⟩
def E1:Tr Sem1:=(.nd 125 (g0.sem gN) .lf .lf)
def A1:Anns:=⟨(.nd 0 (.loop ⟨[(0,(.list .page)),(1,(.int .i64)),(5,(.int .i64))],[],[]⟩) .lf .lf),.lf,[]⟩
theorem o1:OK 68 (g1.sem fV):=tk (E:=E1) (A:=A1) ⟨o0,tv,tv⟩ Tryz.func68 g1 (by kernel_rfl) fun x=>by kernel_rfl
def g2:Sig:=⟨⟨bt 0 [.agg [.list .page],.int .i64],[],[]⟩,.one (.int .i64),[],[],false,false,[],[]⟩
def E2:Tr Sem1:=(.nd 68 (g1.sem fV) .lf .lf)
theorem o2:OK 28 (g2.sem fj):=tk (E:=E2) (A:=AN) ⟨o1,tv,tv⟩ Tryz.func28 g2 (by kernel_rfl) fun x=>by kernel_rfl
def g3:Sig:=⟨⟨bt 0 [.agg [.arr .i 16]],[],[]⟩,.one (.agg [.arr .i 16]),[],[],false,false,[],[]⟩
def A3:Anns:=⟨(.nd 0 (.loop ⟨[(1,(.konst (.ptr 0 0))),(2,(.konst (.ptr 1 0))),(3,(.konst (.ptr 2 0))),(4,(.int .i64))],[(.var [(.arr .i 16)]),(.var [(.arr .i 16)]),(.var [(.arr .i 16)])],[]⟩) .lf .lf),.lf,[]⟩
theorem o3:OK 73 (g3.sem fm):=tk (E:=Tr.lf) (A:=A3) tv Tryz.func73 g3 (by kernel_rfl) fun x=>by kernel_rfl
def g4:Sig:=⟨⟨bt 0 [.agg [.arr .i 16,.int .i64,.int .i64]],[],[]⟩,.one (.agg [.arr .i 16,.int .i64,.int .i64]),[],[],false,false,[],[]⟩
def E4:Tr Sem1:=(.nd 73 (g3.sem fm) .lf .lf)
theorem o4:OK 30 (g4.sem fk):=tk (E:=E4) (A:=AN) ⟨o3,tv,tv⟩ Tryz.func30 g4 (by kernel_rfl) fun x=>by kernel_rfl
def g5:Sig:=⟨⟨bt 0 [.el .page],[],[]⟩,.one (.el .page),[],[],false,false,[],[]⟩
theorem o5:OK 131 (g5.sem i5):=tk (E:=Tr.lf) (A:=AN) tv Tryz.func131 g5 (by kernel_rfl) fun x=>by kernel_rfl
def g6:Sig:=⟨⟨bt 0 [.list .page],[],[]⟩,.one (.konst (.vec 0)),[.row .page],[],false,true,[(2,0,.page)],[]⟩
def E6:Tr Sem1:=(.nd 131 (g5.sem i5) .lf .lf)
def A6:Anns:=⟨(.nd 0 (.loop ⟨[(0,(.list .page)),(3,(.konst (.vec 0))),(4,(.int .i64))],[(.row .page)],[]⟩) .lf .lf),.lf,[]⟩
theorem o6:OK 74 (g6.sem fW):=tk (E:=E6) (A:=A6) ⟨o5,tv,tv⟩ Tryz.func74 g6 (by kernel_rfl) fun x=>by kernel_rfl
def g7:Sig:=⟨⟨bt 0 [.agg [.list .page]],[],[]⟩,.one (.agg [.konst (.vec 0)]),[.row .page],[],false,true,[(2,1,.page)],[]⟩
def E7:Tr Sem1:=(.nd 74 (g6.sem fW) .lf .lf)
theorem o7:OK 31 (g7.sem cW):=tk (E:=E7) (A:=AN) ⟨o6,tv,tv⟩ Tryz.func31 g7 (by kernel_rfl) fun x=>by kernel_rfl
def g8:Sig:=⟨⟨bt 0 [.int .i64],[],[]⟩,.one (.bool),[],[],false,false,[],[]⟩
theorem o8:OK 126 (g8.sem gS):=tk (E:=Tr.lf) (A:=AN) tv Tryz.func126 g8 (by kernel_rfl) fun x=>by kernel_rfl
def g9:Sig:=⟨⟨bt 0 [.agg [.arr .i 16,.int .i64,.int .i64]],[],[]⟩,.one (.bool),[],[],false,false,[],[]⟩
def E9:Tr Sem1:=(.nd 126 (g8.sem gS) .lf .lf)
theorem o9:OK 69 (g9.sem iF):=tk (E:=E9) (A:=AN) ⟨o8,tv,tv⟩ Tryz.func69 g9 (by kernel_rfl) fun x=>by kernel_rfl
def g10:Sig:=⟨⟨bt 0 [.int .i64,.int .i64,.int .i64],[],[]⟩,.one (.bool),[],[],false,false,[],[]⟩
theorem o10:OK 60 (g10.sem bb):=tk (E:=Tr.lf) (A:=AN) tv Tryz.func60 g10 (by kernel_rfl) fun x=>by kernel_rfl
def g11:Sig:=⟨⟨bt 0 [.int .i64],[],[]⟩,.one (.bool),[],[],false,false,[],[]⟩
def E11:Tr Sem1:=(.nd 60 (g10.sem bb) .lf .lf)
theorem o11:OK 127 (g11.sem fX):=tk (E:=E11) (A:=AN) ⟨o10,tv,tv⟩ Tryz.func127 g11 (by kernel_rfl) fun x=>by kernel_rfl
def g12:Sig:=⟨⟨bt 0 [.int .i64],[],[]⟩,.one (.bool),[],[],false,false,[],[]⟩
def E12:Tr Sem1:=(.nd 60 (g10.sem bb) .lf .lf)
theorem o12:OK 128 (g12.sem fZ):=tk (E:=E12) (A:=AN) ⟨o10,tv,tv⟩ Tryz.func128 g12 (by kernel_rfl) fun x=>by kernel_rfl
def g13:Sig:=⟨⟨bt 0 [.agg [.list .page]],[],[]⟩,.one (.bool),[],[],false,false,[],[]⟩
def E13:Tr Sem1:=(.nd 128 (g12.sem fZ) (.nd 127 (g11.sem fX) .lf .lf) .lf)
def A13:Anns:=⟨(.nd 0 (.loop ⟨[(1,(.konst (.ptr 0 0))),(3,(.int .i64))],[(.var [(.list .page)])],[]⟩) .lf .lf),.lf,[]⟩
theorem o13:OK 70 (g13.sem fo):=tk (E:=E13) (A:=A13) ⟨o12,⟨o11,tv,tv⟩,tv⟩ Tryz.func70 g13 (by kernel_rfl) fun x=>by kernel_rfl
def g14:Sig:=⟨⟨bt 0 [.agg [.list .page],.int .i64],[],[]⟩,.one (.int .i64),[],[],false,false,[],[]⟩
def A14:Anns:=⟨(.nd 0 (.loop ⟨[(1,(.int .i64)),(2,(.konst (.ptr 0 0))),(5,(.int .i64))],[(.var [(.list .page)])],[]⟩) .lf .lf),.lf,[]⟩
theorem o14:OK 141 (g14.sem cS):=tk (E:=Tr.lf) (A:=A14) tv Tryz.func141 g14 (by kernel_rfl) fun x=>by kernel_rfl
def g15:Sig:=⟨⟨bt 0 [.agg [.list .page],.int .i64,.int .i64,.int .i64],[],[]⟩,.one (.int .i64),[],[],false,false,[],[]⟩
def E15:Tr Sem1:=(.nd 141 (g14.sem cS) (.nd 60 (g10.sem bb) .lf .lf) .lf)
def A15:Anns:=⟨(.nd 0 (.loop ⟨[(1,(.int .i64)),(2,(.int .i64)),(3,(.int .i64)),(4,(.konst (.ptr 0 0))),(9,(.int .i64))],[(.var [(.list .page)])],[]⟩) .lf .lf),.lf,[]⟩
theorem o15:OK 199 (g15.sem bH):=tk (E:=E15) (A:=A15) ⟨o14,⟨o10,tv,tv⟩,tv⟩ Tryz.func199 g15 (by kernel_rfl) fun x=>by kernel_rfl
def g16:Sig:=⟨⟨bt 0 [.agg [.list .page],.int .i64,.int .i64],[],[]⟩,.one (.str),[],[],false,false,[],[]⟩
def E16:Tr Sem1:=(.nd 141 (g14.sem cS) .lf .lf)
def A16:Anns:=⟨(.nd 0 (.loop ⟨[(1,(.int .i64)),(2,(.int .i64)),(3,(.konst (.ptr 0 0))),(7,(.konst (.vec 1))),(8,(.int .i64))],[(.var [(.list .page)]),(.row .u)],[]⟩) .lf .lf),.lf,[]⟩
theorem o16:OK 200 (g16.sem dD):=tk (E:=E16) (A:=A16) ⟨o14,tv,tv⟩ Tryz.func200 g16 (by kernel_rfl) fun x=>by kernel_rfl
def g17:Sig:=⟨⟨bt 0 [.agg [.list .page],.int .i64],[],[]⟩,.tup [.str,.int .i64],[],[],false,false,[],[]⟩
def E17:Tr Sem1:=(.nd 200 (g16.sem dD) (.nd 199 (g15.sem bH) .lf .lf) .lf)
def A17:Anns:=⟨(.nd 0 (.loop ⟨[(1,(.int .i64)),(2,(.konst (.ptr 0 0))),(7,(.int .i64))],[(.var [(.list .page)])],[]⟩) .lf .lf),.lf,[]⟩
theorem o17:OK 134 (g17.sem fp):=tk (E:=E17) (A:=A17) ⟨o16,⟨o15,tv,tv⟩,tv⟩ Tryz.func134 g17 (by kernel_rfl) fun x=>by kernel_rfl
def g18:Sig:=⟨⟨bt 0 [.konst (.ptr 0 0),.int .i64],[B16],[]⟩,.tup [],[B16],[(0,4,5)],false,false,[],[]⟩
theorem o18:OK 205 (g18.sem bL):=tk (E:=Tr.lf) (A:=AN) tv Tryz.func205 g18 (by kernel_rfl) fun x=>by kernel_rfl
def g19:Sig:=⟨⟨bt 0 [.str,.int .i64,.int .i64],[],[]⟩,.one (.int .i64),[],[],false,false,[],[]⟩
def A19:Anns:=⟨(.nd 0 (.loop ⟨[(0,.str),(1,(.int .i64)),(7,(.int .u64)),(8,(.int .i64))],[],[]⟩) .lf .lf),.lf,[]⟩
theorem o19:OK 322 (g19.sem cR):=tk (E:=Tr.lf) (A:=A19) tv Tryz.func322 g19 (by kernel_rfl) fun x=>by kernel_rfl
def g20:Sig:=⟨⟨bt 0 [.int .i64,.int .i64],[],[]⟩,.one (.int .i64),[],[],false,false,[],[]⟩
theorem o20:OK 255 (g20.sem aM):=tk (E:=Tr.lf) (A:=AN) tv Tryz.func255 g20 (by kernel_rfl) fun x=>by kernel_rfl
def g21:Sig:=⟨⟨bt 0 [.int .i64,.int .i64],[],[]⟩,.one (.int .i64),[],[],false,false,[],[]⟩
def E21:Tr Sem1:=(.nd 255 (g20.sem aM) .lf .lf)
def A21:Anns:=⟨(.nd 0 (.loop ⟨[(0,(.int .i64)),(1,(.int .i64)),(5,(.int .u64)),(6,(.int .i64))],[],[]⟩) .lf .lf),.lf,[]⟩
theorem o21:OK 196 (g21.sem aT):=tk (E:=E21) (A:=A21) ⟨o20,tv,tv⟩ Tryz.func196 g21 (by kernel_rfl) fun x=>by kernel_rfl
def g22:Sig:=⟨⟨bt 0 [.konst (.ptr 0 0),.int .i64],[B16],[]⟩,.one (.int .i64),[B16],[(0,1,2),(0,4,5)],false,false,[],[]⟩
def E22:Tr Sem1:=(.nd 205 (g18.sem bL) (.nd 196 (g21.sem aT) .lf .lf) (.nd 322 (g19.sem cR) .lf .lf))
theorem o22:OK 265 (g22.sem aZ):=tk (E:=E22) (A:=AN) ⟨o18,⟨o21,tv,tv⟩,⟨o19,tv,tv⟩⟩ Tryz.func265 g22 (by kernel_rfl) fun x=>by kernel_rfl
def g23:Sig:=⟨⟨bt 0 [.int .i64,.int .i64],[],[]⟩,.one (.int .i64),[],[],false,false,[],[]⟩
def E23:Tr Sem1:=(.nd 255 (g20.sem aM) .lf .lf)
def A23:Anns:=⟨(.nd 0 (.loop ⟨[(0,(.int .i64)),(5,(.int .u64)),(6,(.int .i64))],[],[]⟩) .lf .lf),.lf,[]⟩
theorem o23:OK 247 (g23.sem ak):=tk (E:=E23) (A:=A23) ⟨o20,tv,tv⟩ Tryz.func247 g23 (by kernel_rfl) fun x=>by kernel_rfl
def g24:Sig:=⟨⟨bt 0 [.konst (.ptr 0 0)],[B16],[]⟩,.one (.int .i64),[B16],[(0,1,2),(0,4,5)],false,false,[],[]⟩
def E24:Tr Sem1:=(.nd 265 (g22.sem aZ) (.nd 247 (g23.sem ak) .lf .lf) .lf)
theorem o24:OK 203 (g24.sem bh):=tk (E:=E24) (A:=AN) ⟨o22,⟨o23,tv,tv⟩,tv⟩ Tryz.func203 g24 (by kernel_rfl) fun x=>by kernel_rfl
def g25:Sig:=⟨⟨bt 0 [.int .i64],[],[]⟩,.one (.bool),[],[],false,false,[],[]⟩
def A25:Anns:=⟨.lf,(.nd 8 ⟨[(4,.bool)],[],[]⟩ .lf .lf),[]⟩
theorem o25:OK 263 (g25.sem eU):=tk (E:=Tr.lf) (A:=A25) tv Tryz.func263 g25 (by kernel_rfl) fun x=>by kernel_rfl
def g26:Sig:=⟨⟨bt 0 [.int .i64],[],[]⟩,.one (V15),[],[],false,false,[],[]⟩
def E26:Tr Sem1:=(.nd 60 (g10.sem bb) .lf .lf)
theorem o26:OK 320 (g26.sem iR):=tk (E:=E26) (A:=AN) ⟨o10,tv,tv⟩ Tryz.func320 g26 (by kernel_rfl) fun x=>by kernel_rfl
def g27:Sig:=⟨⟨bt 0 [.int .i64],[],[]⟩,.one (V15),[],[],false,false,[],[]⟩
def E27:Tr Sem1:=(.nd 60 (g10.sem bb) .lf .lf)
def A27:Anns:=⟨.lf,(.nd 192 ⟨[(2,(.konst (.ptr 0 0))),(3,.bool),(40,(.int .i64)),(96,.bool)],[(B13)],[]⟩ (.nd 126 ⟨[(2,(.konst (.ptr 0 0))),(3,.bool),(40,(.int .i64)),(63,.bool)],[(B13)],[]⟩ (.nd 116 ⟨[(2,(.konst (.ptr 0 0))),(3,.bool),(40,(.int .i64)),(58,.bool)],[(B13)],[]⟩ (.nd 100 ⟨[(2,(.konst (.ptr 0 0))),(3,.bool),(40,(.int .i64)),(50,.bool)],[(B13)],[]⟩ .lf .lf) .lf) (.nd 146 ⟨[(2,(.konst (.ptr 0 0))),(3,.bool),(40,(.int .i64)),(73,.bool)],[(B13)],[]⟩ (.nd 136 ⟨[(2,(.konst (.ptr 0 0))),(3,.bool),(40,(.int .i64)),(68,.bool)],[(B13)],[]⟩ .lf .lf) .lf)) (.nd 240 ⟨[(2,(.konst (.ptr 0 0))),(3,.bool),(40,(.int .i64)),(120,.bool)],[(B13)],[]⟩ (.nd 224 ⟨[(2,(.konst (.ptr 0 0))),(3,.bool),(40,(.int .i64)),(112,.bool)],[(B13)],[]⟩ (.nd 208 ⟨[(2,(.konst (.ptr 0 0))),(3,.bool),(40,(.int .i64)),(104,.bool)],[(B13)],[]⟩ .lf .lf) .lf) (.nd 284 ⟨[(2,(.konst (.ptr 0 0))),(3,.bool),(40,(.int .i64)),(142,.bool)],[(B13)],[]⟩ (.nd 250 ⟨[(2,(.konst (.ptr 0 0))),(3,.bool),(40,(.int .i64)),(125,.bool)],[(B13)],[]⟩ .lf .lf) .lf))),[]⟩
theorem o27:OK 321 (g27.sem jq):=tk (E:=E27) (A:=A27) ⟨o10,tv,tv⟩ Tryz.func321 g27 (by kernel_rfl) fun x=>by kernel_rfl
def g28:Sig:=⟨⟨bt 0 [.bool,.int .i64],[],[]⟩,.one (V15),[],[],false,false,[],[]⟩
def E28:Tr Sem1:=(.nd 321 (g27.sem jq) (.nd 320 (g26.sem iR) .lf .lf) .lf)
theorem o28:OK 264 (g28.sem cB):=tk (E:=E28) (A:=AN) ⟨o27,⟨o26,tv,tv⟩,tv⟩ Tryz.func264 g28 (by kernel_rfl) fun x=>by kernel_rfl
def g29:Sig:=⟨⟨bt 0 [.konst (.ptr 0 0)],[B16],[]⟩,.tup [V15,.int .i64],[B16],[(0,1,5)],false,false,[],[]⟩
def E29:Tr Sem1:=(.nd 263 (g25.sem eU) (.nd 205 (g18.sem bL) (.nd 203 (g24.sem bh) .lf .lf) .lf) (.nd 264 (g28.sem cB) .lf .lf))
def A29:Anns:=⟨(.nd 0 (.loop ⟨[(0,(.konst (.ptr 0 0))),(2,(.konst (.ptr 1 0))),(4,(.int .i64))],[(B14),(B13)],[]⟩) .lf .lf),(.nd 124 ⟨[(0,(.konst (.ptr 0 0))),(2,(.konst (.ptr 1 0))),(4,(.int .i64)),(5,.bool)],[(B14),(B13)],[]⟩ (.nd 92 ⟨[(0,(.konst (.ptr 0 0))),(2,(.konst (.ptr 1 0))),(4,(.int .i64))],[(B14),(B13)],[]⟩ (.nd 58 ⟨[(0,(.konst (.ptr 0 0))),(2,(.konst (.ptr 1 0)))],[(B14),(B13)],[]⟩ .lf .lf) .lf) (.nd 140 ⟨[(2,(.konst (.ptr 1 0))),(4,(.int .i64)),(6,(.konst (.ptr 2 0)))],[(B14),(B13),(B13)],[]⟩ .lf .lf)),[]⟩
theorem o29:OK 201 (g29.sem ed):=tk (E:=E29) (A:=A29) ⟨o25,⟨o18,⟨o24,tv,tv⟩,tv⟩,⟨o28,tv,tv⟩⟩ Tryz.func201 g29 (by kernel_rfl) fun x=>by kernel_rfl
def g30:Sig:=⟨⟨bt 0 [.int .i64],[],[]⟩,.one (.bool),[],[],false,false,[],[]⟩
def A30:Anns:=⟨.lf,(.nd 8 ⟨[(4,.bool)],[],[]⟩ .lf .lf),[]⟩
theorem o30:OK 202 (g30.sem cY):=tk (E:=Tr.lf) (A:=A30) tv Tryz.func202 g30 (by kernel_rfl) fun x=>by kernel_rfl
def g31:Sig:=⟨⟨bt 0 [.int .i64,.int .i64],[],[]⟩,.one (.int .i64),[],[],false,false,[],[]⟩
theorem o31:OK 204 (g31.sem fu):=tk (E:=Tr.lf) (A:=AN) tv Tryz.func204 g31 (by kernel_rfl) fun x=>by kernel_rfl
def g32:Sig:=⟨⟨bt 0 [.konst (.ptr 0 0),V15,.int .i64],[B16],[]⟩,.one (.int .i64),[B16],[],false,false,[],[]⟩
def E32:Tr Sem1:=(.nd 255 (g20.sem aM) .lf .lf)
def A32:Anns:=⟨.lf,(.nd 26 ⟨[(0,(.konst (.ptr 0 0))),(4,(.konst (.ptr 1 0))),(13,.bool)],[(B14),(B13)],[]⟩ (.nd 16 ⟨[(0,(.konst (.ptr 0 0))),(4,(.konst (.ptr 1 0))),(7,(.int .i64)),(8,.bool)],[(B14),(B13)],[]⟩ .lf .lf) .lf),[]⟩
theorem o32:OK 206 (g32.sem ef):=tk (E:=E32) (A:=A32) ⟨o20,tv,tv⟩ Tryz.func206 g32 (by kernel_rfl) fun x=>by kernel_rfl
def g33:Sig:=⟨⟨bt 0 [V15,.int .i64],[],[]⟩,.one (.bool),[],[],false,false,[],[]⟩
def A33:Anns:=⟨.lf,(.nd 12 ⟨[(2,(.konst (.ptr 0 0))),(6,.bool)],[(B13)],[]⟩ .lf .lf),[]⟩
theorem o33:OK 266 (g33.sem gb):=tk (E:=Tr.lf) (A:=A33) tv Tryz.func266 g33 (by kernel_rfl) fun x=>by kernel_rfl
def g34:Sig:=⟨⟨bt 0 [.el .ins,V15,.bool],[],[]⟩,.one (.bool),[],[],false,false,[],[]⟩
def E34:Tr Sem1:=(.nd 266 (g33.sem gb) .lf .lf)
theorem o34:OK 207 (g34.sem fv):=tk (E:=E34) (A:=AN) ⟨o33,tv,tv⟩ Tryz.func207 g34 (by kernel_rfl) fun x=>by kernel_rfl
def g35:Sig:=⟨⟨bt 0 [.konst (.ptr 0 0),.int .i64],[B16],[]⟩,.one (.int .i64),[B16],[],false,false,[],[]⟩
def E35:Tr Sem1:=(.nd 255 (g20.sem aM) .lf .lf)
theorem o35:OK 268 (g35.sem be):=tk (E:=E35) (A:=AN) ⟨o20,tv,tv⟩ Tryz.func268 g35 (by kernel_rfl) fun x=>by kernel_rfl
def g36:Sig:=⟨⟨bt 0 [.konst (.ptr 0 0),.int .i64,.int .i64],[B16],[]⟩,.one (V12),[B16],[],false,false,[],[]⟩
def A36:Anns:=⟨.lf,(.nd 38 ⟨[(1,(.int .i64)),(6,(.konst (.ptr 1 0)))],[(B14),(B7)],[]⟩ .lf .lf),[]⟩
theorem o36:OK 267 (g36.sem cJ):=tk (E:=Tr.lf) (A:=A36) tv Tryz.func267 g36 (by kernel_rfl) fun x=>by kernel_rfl
def g37:Sig:=⟨⟨bt 0 [.konst (.ptr 0 0),.int .i64,.int .i64],[B16],[]⟩,.one (V12),[B16],[(0,1,2),(0,4,5)],false,false,[],[]⟩
def E37:Tr Sem1:=(.nd 265 (g22.sem aZ) (.nd 203 (g24.sem bh) .lf .lf) (.nd 268 (g35.sem be) .lf .lf))
def A37:Anns:=⟨.lf,(.nd 92 ⟨[(0,(.konst (.ptr 0 0))),(1,(.int .i64)),(6,(.konst (.ptr 1 0))),(7,(.konst (.ptr 2 0)))],[(B14),(B7),(B7)],[]⟩ (.nd 64 ⟨[(0,(.konst (.ptr 0 0))),(1,(.int .i64)),(6,(.konst (.ptr 1 0))),(7,(.konst (.ptr 2 0))),(8,(.int .i64))],[(B14),(B7),(B7)],[]⟩ (.nd 33 ⟨[(0,(.konst (.ptr 0 0))),(1,(.int .i64)),(6,(.konst (.ptr 1 0))),(7,(.konst (.ptr 2 0)))],[(B14),(B7),(B7)],[]⟩ .lf .lf) .lf) (.nd 124 ⟨[(0,(.konst (.ptr 0 0))),(1,(.int .i64)),(6,(.konst (.ptr 1 0))),(7,(.konst (.ptr 2 0)))],[(B14),(B7),(B7)],[]⟩ (.nd 112 ⟨[(0,(.konst (.ptr 0 0))),(1,(.int .i64)),(6,(.konst (.ptr 1 0))),(7,(.konst (.ptr 2 0)))],[(B14),(B7),(B7)],[]⟩ .lf .lf) .lf)),[]⟩
theorem o37:OK 269 (g37.sem dx):=tk (E:=E37) (A:=A37) ⟨o22,⟨o24,tv,tv⟩,⟨o35,tv,tv⟩⟩ Tryz.func269 g37 (by kernel_rfl) fun x=>by kernel_rfl
def g38:Sig:=⟨⟨bt 0 [.konst (.ptr 0 0),.int .i64],[B16],[]⟩,.one (V12),[B16],[(0,1,2),(0,4,5)],false,false,[],[]⟩
def E38:Tr Sem1:=(.nd 265 (g22.sem aZ) .lf .lf)
theorem o38:OK 270 (g38.sem bB):=tk (E:=E38) (A:=AN) ⟨o22,tv,tv⟩ Tryz.func270 g38 (by kernel_rfl) fun x=>by kernel_rfl
def g39:Sig:=⟨⟨bt 0 [.el .ins,V12],[],[]⟩,.one (.el .ins),[],[],false,false,[],[]⟩
def A39:Anns:=⟨.lf,(.nd 14 ⟨[(2,(.konst (.ptr 0 0))),(3,(.konst (.ptr 1 0))),(4,(.konst (.ptr 2 0))),(7,.bool)],[(B2),(B7),(B2)],[]⟩ .lf .lf),[]⟩
theorem o39:OK 271 (g39.sem gQ):=tk (E:=Tr.lf) (A:=A39) tv Tryz.func271 g39 (by kernel_rfl) fun x=>by kernel_rfl
def g40:Sig:=⟨⟨bt 0 [.konst (.ptr 0 0),.el .ins,V15,.int .i64],[B16],[]⟩,.one (.el .ins),[B16],[(0,1,2),(0,4,5)],false,false,[],[]⟩
def E40:Tr Sem1:=(.nd 269 (g37.sem dx) (.nd 267 (g36.sem cJ) (.nd 203 (g24.sem bh) .lf .lf) (.nd 268 (g35.sem be) .lf .lf)) (.nd 271 (g39.sem gQ) (.nd 270 (g38.sem bB) .lf .lf) .lf))
def A40:Anns:=⟨.lf,(.nd 65 ⟨[(0,(.konst (.ptr 0 0))),(5,(.konst (.ptr 1 0))),(6,(.konst (.ptr 2 0))),(8,(.konst (.ptr 3 0))),(10,(.konst (.ptr 4 0))),(11,(.konst (.ptr 5 0)))],[(B14),(B2),(B13),(B2),(B7),(B7)],[]⟩ (.nd 32 ⟨[(0,(.konst (.ptr 0 0))),(3,(.int .i64)),(5,(.konst (.ptr 1 0))),(6,(.konst (.ptr 2 0))),(8,(.konst (.ptr 3 0))),(9,(.int .i64))],[(B14),(B2),(B13),(B2)],[]⟩ .lf .lf) (.nd 132 ⟨[(0,(.konst (.ptr 0 0))),(5,(.konst (.ptr 1 0))),(8,(.konst (.ptr 2 0))),(10,(.konst (.ptr 3 0))),(11,(.konst (.ptr 4 0))),(48,(.int .i64)),(66,.bool)],[(B14),(B2),(B2),(B7),(B7)],[]⟩ .lf .lf)),[]⟩
theorem o40:OK 208 (g40.sem dF):=tk (E:=E40) (A:=A40) ⟨o37,⟨o36,⟨o24,tv,tv⟩,⟨o35,tv,tv⟩⟩,⟨o39,⟨o38,tv,tv⟩,tv⟩⟩ Tryz.func208 g40 (by kernel_rfl) fun x=>by kernel_rfl
def g41:Sig:=⟨⟨bt 0 [.konst (.ptr 0 0),.el .ins,V15,.int .i64],[B16],[]⟩,.one (.el .ins),[B16],[(0,1,2),(0,4,5)],false,false,[],[]⟩
def E41:Tr Sem1:=(.nd 267 (g36.sem cJ) (.nd 265 (g22.sem aZ) (.nd 247 (g23.sem ak) .lf .lf) .lf) (.nd 270 (g38.sem bB) (.nd 268 (g35.sem be) .lf .lf) .lf))
def A41:Anns:=⟨.lf,(.nd 118 ⟨[(0,(.konst (.ptr 0 0))),(5,(.konst (.ptr 1 0))),(8,(.konst (.ptr 2 0))),(11,(.int .i64)),(59,.bool)],[(B14),(B2),(B2)],[]⟩ .lf .lf),[]⟩
theorem o41:OK 209 (g41.sem dG):=tk (E:=E41) (A:=A41) ⟨o36,⟨o22,⟨o23,tv,tv⟩,tv⟩,⟨o38,⟨o35,tv,tv⟩,tv⟩⟩ Tryz.func209 g41 (by kernel_rfl) fun x=>by kernel_rfl
def g42:Sig:=⟨⟨bt 0 [.str,.int .i64],[],[]⟩,.tup [.el .ins,.int .i64],[],[],false,false,[],[]⟩
def E42:Tr Sem1:=(.nd 205 (g18.sem bL) (.nd 203 (g24.sem bh) (.nd 202 (g30.sem cY) (.nd 201 (g29.sem ed) .lf .lf) .lf) (.nd 204 (g31.sem fu) .lf .lf)) (.nd 208 (g40.sem dF) (.nd 207 (g34.sem fv) (.nd 206 (g32.sem ef) .lf .lf) .lf) (.nd 209 (g41.sem dG) .lf .lf)))
def A42:Anns:=⟨.lf,(.nd 118 ⟨[(1,(.int .i64)),(4,(.konst (.ptr 0 0))),(6,(.konst (.ptr 1 0))),(7,(.konst (.ptr 2 0))),(8,(.int .i64)),(9,(.konst (.ptr 3 0))),(10,(.int .i64))],[(B2),(B14),(B13),(B2)],[]⟩ (.nd 98 ⟨[(1,(.int .i64)),(4,(.konst (.ptr 0 0))),(6,(.konst (.ptr 1 0))),(7,(.konst (.ptr 2 0))),(8,(.int .i64)),(9,(.konst (.ptr 3 0))),(10,(.int .i64))],[(B2),(B14),(B13),(B2)],[]⟩ (.nd 74 ⟨[(1,(.int .i64)),(4,(.konst (.ptr 0 0))),(6,(.konst (.ptr 1 0))),(7,(.konst (.ptr 2 0))),(8,(.int .i64)),(9,(.konst (.ptr 3 0))),(10,(.int .i64))],[(B2),(B14),(B13),(B2)],[]⟩ .lf .lf) .lf) (.nd 229 ⟨[(1,(.int .i64)),(4,(.konst (.ptr 0 0))),(6,(.konst (.ptr 1 0))),(9,(.konst (.ptr 2 0)))],[(B2),(B14),(B2)],[]⟩ (.nd 216 ⟨[(1,(.int .i64)),(4,(.konst (.ptr 0 0))),(6,(.konst (.ptr 1 0))),(7,(.konst (.ptr 2 0))),(8,(.int .i64)),(9,(.konst (.ptr 3 0))),(10,(.int .i64))],[(B2),(B14),(B13),(B2)],[]⟩ .lf .lf) .lf)),[]⟩
theorem o42:OK 135 (g42.sem eT):=tk (E:=E42) (A:=A42) ⟨o18,⟨o24,⟨o30,⟨o29,tv,tv⟩,tv⟩,⟨o31,tv,tv⟩⟩,⟨o40,⟨o34,⟨o32,tv,tv⟩,tv⟩,⟨o41,tv,tv⟩⟩⟩ Tryz.func135 g42 (by kernel_rfl) fun x=>by kernel_rfl
def g43:Sig:=⟨⟨bt 0 [.int .i64,.int .i64],[],[]⟩,.one (.int .i64),[],[],false,false,[],[]⟩
theorem o43:OK 129 (g43.sem aY):=tk (E:=Tr.lf) (A:=AN) tv Tryz.func129 g43 (by kernel_rfl) fun x=>by kernel_rfl
def g44:Sig:=⟨⟨bt 0 [.agg [.arr .i 16,.int .i64,.int .i64],.int .i64,.int .i64],[],[]⟩,.one (.int .i64),[],[],false,false,[],[]⟩
def E44:Tr Sem1:=(.nd 247 (g23.sem ak) .lf .lf)
theorem o44:OK 244 (g44.sem dH):=tk (E:=E44) (A:=AN) ⟨o23,tv,tv⟩ Tryz.func244 g44 (by kernel_rfl) fun x=>by kernel_rfl
def g45:Sig:=⟨⟨bt 0 [.agg [.arr .i 16,.int .i64,.int .i64],V12,.int .i64],[],[]⟩,.one (.int .i64),[],[],false,false,[],[]⟩
def E45:Tr Sem1:=(.nd 129 (g43.sem aY) .lf .lf)
def A45:Anns:=⟨.lf,(.nd 36 ⟨[(3,(.konst (.ptr 0 0))),(4,(.konst (.ptr 1 0))),(7,(.int .i64))],[(B17),(B7)],[]⟩ (.nd 25 ⟨[(3,(.konst (.ptr 0 0))),(4,(.konst (.ptr 1 0))),(7,(.int .i64))],[(B17),(B7)],[]⟩ .lf .lf) .lf),[]⟩
theorem o45:OK 195 (g45.sem bZ):=tk (E:=E45) (A:=A45) ⟨o43,tv,tv⟩ Tryz.func195 g45 (by kernel_rfl) fun x=>by kernel_rfl
def g46:Sig:=⟨⟨bt 0 [.agg [.list .page],.int .i64,.int .i64],[],[]⟩,.tup [.int .i64,.int .i64],[],[],false,false,[],[]⟩
def E46:Tr Sem1:=(.nd 200 (g16.sem dD) (.nd 199 (g15.sem bH) .lf .lf) (.nd 322 (g19.sem cR) .lf .lf))
theorem o46:OK 313 (g46.sem fY):=tk (E:=E46) (A:=AN) ⟨o16,⟨o15,tv,tv⟩,⟨o19,tv,tv⟩⟩ Tryz.func313 g46 (by kernel_rfl) fun x=>by kernel_rfl
def g47:Sig:=⟨⟨bt 0 [.konst (.ptr 0 0),.int .i64,.int .i64],[B10,.row .acc],[]⟩,.one (.int .i64),[B11,.konst .gone,.row .acc],[(1,0,big),(0,5,7)],false,false,[(0,6,.acc)],[1]⟩
def E47:Tr Sem1:=(.nd 313 (g46.sem fY) .lf .lf)
def A47:Anns:=⟨.lf,.lf,[(0,6,.acc)]⟩
theorem o47:OK 245 (g47.sem bp):=tk (E:=E47) (A:=A47) ⟨o46,tv,tv⟩ Tryz.func245 g47 (by kernel_rfl) fun x=>by kernel_rfl
def g48:Sig:=⟨⟨bt 0 [.konst (.ptr 0 0),V12,.int .i64],[B10,.row .acc],[]⟩,.one (.int .i64),[B11,.konst .gone,.row .acc],[(1,0,big),(0,5,7)],false,false,[(0,6,.acc)],[1]⟩
def E48:Tr Sem1:=(.nd 244 (g44.sem dH) (.nd 195 (g45.sem bZ) .lf .lf) (.nd 245 (g47.sem bp) .lf .lf))
def A48:Anns:=⟨.lf,.lf,[(0,6,.acc)]⟩
theorem o48:OK 189 (g48.sem az):=tk (E:=E48) (A:=A48) ⟨o44,⟨o45,tv,tv⟩,⟨o47,tv,tv⟩⟩ Tryz.func189 g48 (by kernel_rfl) fun x=>by kernel_rfl
def g49:Sig:=⟨⟨bt 0 [.bool],[],[]⟩,.one (.int .i64),[],[],false,false,[],[]⟩
theorem o49:OK 258 (g49.sem eF):=tk (E:=Tr.lf) (A:=AN) tv Tryz.func258 g49 (by kernel_rfl) fun x=>by kernel_rfl
def g50:Sig:=⟨⟨bt 0 [.bool,.int .i64],[],[]⟩,.one (.int .i64),[],[],false,false,[],[]⟩
theorem o50:OK 254 (g50.sem bS):=tk (E:=Tr.lf) (A:=AN) tv Tryz.func254 g50 (by kernel_rfl) fun x=>by kernel_rfl
def g51:Sig:=⟨⟨bt 0 [.int .i64,.int .i64],[],[]⟩,.one (.int .i64),[],[],false,false,[],[]⟩
def E51:Tr Sem1:=(.nd 254 (g50.sem bS) (.nd 247 (g23.sem ak) .lf .lf) (.nd 255 (g20.sem aM) .lf .lf))
def A51:Anns:=⟨(.nd 0 (.loop ⟨[(0,(.int .i64)),(1,(.int .i64)),(5,(.int .i64)),(6,(.int .i64))],[],[]⟩) .lf .lf),.lf,[]⟩
theorem o51:OK 248 (g51.sem cT):=tk (E:=E51) (A:=A51) ⟨o50,⟨o23,tv,tv⟩,⟨o20,tv,tv⟩⟩ Tryz.func248 g51 (by kernel_rfl) fun x=>by kernel_rfl
def g52:Sig:=⟨⟨bt 0 [.int .i64,.int .i64,.int .i64,.int .i64,.bool],[],[]⟩,.tup [.int .i64,.int .i64],[],[],false,false,[],[]⟩
def E52:Tr Sem1:=(.nd 255 (g20.sem aM) (.nd 254 (g50.sem bS) (.nd 248 (g51.sem cT) .lf .lf) .lf) (.nd 258 (g49.sem eF) .lf .lf))
def A52:Anns:=⟨(.nd 0 (.loop ⟨[(0,(.int .i64)),(1,(.int .i64)),(2,(.int .i64)),(4,.bool),(12,(.int .u64)),(13,(.int .i64)),(14,(.int .i64)),(15,(.int .i64))],[],[]⟩) .lf .lf),(.nd 79 ⟨[(0,(.int .i64)),(1,(.int .i64)),(2,(.int .i64)),(4,.bool),(12,(.int .u64)),(13,(.int .i64)),(14,(.int .i64)),(15,(.int .i64)),(18,(.int .i64))],[],[]⟩ .lf .lf),[]⟩
theorem o52:OK 246 (g52.sem bY):=tk (E:=E52) (A:=A52) ⟨o20,⟨o50,⟨o51,tv,tv⟩,tv⟩,⟨o49,tv,tv⟩⟩ Tryz.func246 g52 (by kernel_rfl) fun x=>by kernel_rfl
def g53:Sig:=⟨⟨bt 0 [.int .i64,.int .i64,.int .i64],[],[]⟩,.one (.int .i64),[],[],false,false,[],[]⟩
theorem o53:OK 249 (g53.sem gf):=tk (E:=Tr.lf) (A:=AN) tv Tryz.func249 g53 (by kernel_rfl) fun x=>by kernel_rfl
def g54:Sig:=⟨⟨bt 0 [.int .i64,.int .i64,.int .i64,.int .i64,.int .i64],[],[]⟩,.tup [.int .i64,.int .i64],[],[],false,false,[],[]⟩
def E54:Tr Sem1:=(.nd 248 (g51.sem cT) (.nd 247 (g23.sem ak) (.nd 246 (g52.sem bY) .lf .lf) .lf) (.nd 249 (g53.sem gf) .lf .lf))
theorem o54:OK 190 (g54.sem gR):=tk (E:=E54) (A:=AN) ⟨o51,⟨o23,⟨o52,tv,tv⟩,tv⟩,⟨o53,tv,tv⟩⟩ Tryz.func190 g54 (by kernel_rfl) fun x=>by kernel_rfl
def g55:Sig:=⟨⟨bt 0 [.agg [.arr .i 16,.int .i64,.int .i64],.int .i64,.int .i64,.int .i64],[],[]⟩,.one (.agg [.arr .i 16,.int .i64,.int .i64]),[],[],false,false,[],[]⟩
def E55:Tr Sem1:=(.nd 247 (g23.sem ak) .lf .lf)
def A55:Anns:=⟨.lf,(.nd 30 ⟨[(1,(.int .i64)),(2,(.int .i64)),(3,(.int .i64)),(4,(.konst (.ptr 0 0))),(8,(.konst (.ptr 1 0))),(9,(.int .i64))],[(B17),(B17)],[]⟩ .lf .lf),[]⟩
theorem o55:OK 250 (g55.sem cD):=tk (E:=E55) (A:=A55) ⟨o23,tv,tv⟩ Tryz.func250 g55 (by kernel_rfl) fun x=>by kernel_rfl
def g56:Sig:=⟨⟨bt 0 [.int .i64,.int .i64],[],[]⟩,.one (.str),[],[],false,false,[],[]⟩
def A56:Anns:=⟨(.nd 0 (.loop ⟨[(0,(.int .i64)),(1,(.int .i64)),(5,(.konst (.vec 0))),(6,(.int .i64))],[(.row .u)],[]⟩) .lf .lf),.lf,[]⟩
theorem o56:OK 218 (g56.sem eR):=tk (E:=Tr.lf) (A:=A56) tv Tryz.func218 g56 (by kernel_rfl) fun x=>by kernel_rfl
def g57:Sig:=⟨⟨bt 0 [.agg [.list .page]],[],[]⟩,.one (.agg [.konst (.vec 0)]),[.row .page],[],false,true,[(2,1,.page)],[]⟩
theorem o57:OK 72 (g57.sem dE):=tk (E:=Tr.lf) (A:=AN) tv Tryz.func72 g57 (by kernel_rfl) fun x=>by kernel_rfl
def g58:Sig:=⟨⟨bt 0 [.agg [.list .page],.int .i64,.str],[],[]⟩,.one (.agg [.list .page]),[],[],false,false,[],[]⟩
def E58:Tr Sem1:=(.nd 141 (g14.sem cS) (.nd 72 (g57.sem dE) .lf .lf) .lf)
def A58:Anns:=⟨(.nd 0 (.loop ⟨[(1,(.int .i64)),(2,.str),(3,(.konst (.ptr 0 0))),(6,(.konst (.ptr 2 0)))],[(.var [(.konst (.vec 1))]),(.row .page),(.var [(.konst .nils)])],[]⟩) .lf .lf),.lf,[]⟩
theorem o58:OK 86 (g58.sem gP):=tk (E:=E58) (A:=A58) ⟨o14,⟨o57,tv,tv⟩,tv⟩ Tryz.func86 g58 (by kernel_rfl) fun x=>by kernel_rfl
def g59:Sig:=⟨⟨bt 0 [.agg [.list .page],.int .i64,.int .i64,.int .i64],[],[]⟩,.tup [.agg [.list .page],.int .i64],[],[],false,false,[],[]⟩
def E59:Tr Sem1:=(.nd 199 (g15.sem bH) (.nd 86 (g58.sem gP) .lf .lf) (.nd 218 (g56.sem eR) .lf .lf))
theorem o59:OK 314 (g59.sem fq):=tk (E:=E59) (A:=AN) ⟨o15,⟨o58,tv,tv⟩,⟨o56,tv,tv⟩⟩ Tryz.func314 g59 (by kernel_rfl) fun x=>by kernel_rfl
def g60:Sig:=⟨⟨bt 0 [.konst (.ptr 0 0),.int .i64,.int .i64,.int .i64],[B10,.row .acc],[]⟩,.tup [],[B11,.konst .gone,.row .acc],[(1,0,big),(0,3,4),(0,5,7)],false,false,[(0,6,.acc)],[1]⟩
def E60:Tr Sem1:=(.nd 314 (g59.sem fq) (.nd 247 (g23.sem ak) .lf .lf) .lf)
def A60:Anns:=⟨.lf,.lf,[(0,6,.acc)]⟩
theorem o60:OK 251 (g60.sem ba):=tk (E:=E60) (A:=A60) ⟨o59,⟨o23,tv,tv⟩,tv⟩ Tryz.func251 g60 (by kernel_rfl) fun x=>by kernel_rfl
def g61:Sig:=⟨⟨bt 0 [.konst (.ptr 0 0),V12,.int .i64,.int .i64],[B10,.row .acc],[]⟩,.tup [],[B11,.konst .gone,.row .acc],[(1,0,big),(0,0,4),(0,5,7)],false,false,[(0,6,.acc)],[1]⟩
def E61:Tr Sem1:=(.nd 250 (g55.sem cD) (.nd 195 (g45.sem bZ) .lf .lf) (.nd 251 (g60.sem ba) .lf .lf))
def A61:Anns:=⟨.lf,.lf,[(0,6,.acc)]⟩
theorem o61:OK 191 (g61.sem aJ):=tk (E:=E61) (A:=A61) ⟨o55,⟨o45,tv,tv⟩,⟨o60,tv,tv⟩⟩ Tryz.func191 g61 (by kernel_rfl) fun x=>by kernel_rfl
def g62:Sig:=⟨⟨bt 0 [.int .i64,.int .i64,.int .i64,.int .i64],[],[]⟩,.tup [.int .i64,.int .i64],[],[],false,false,[],[]⟩
def E62:Tr Sem1:=(.nd 247 (g23.sem ak) (.nd 246 (g52.sem bY) .lf .lf) .lf)
theorem o62:OK 192 (g62.sem gU):=tk (E:=E62) (A:=AN) ⟨o23,⟨o52,tv,tv⟩,tv⟩ Tryz.func192 g62 (by kernel_rfl) fun x=>by kernel_rfl
def g63:Sig:=⟨⟨bt 0 [.int .i64,.int .i64,.int .i64,.int .i64],[],[]⟩,.tup [.int .i64,.int .i64],[],[],false,false,[],[]⟩
def E63:Tr Sem1:=(.nd 254 (g50.sem bS) (.nd 248 (g51.sem cT) (.nd 247 (g23.sem ak) .lf .lf) .lf) (.nd 255 (g20.sem aM) .lf .lf))
def A63:Anns:=⟨.lf,(.nd 137 ⟨[(0,(.int .i64)),(1,(.int .i64)),(3,(.int .i64)),(13,(.int .i64)),(14,(.int .i64)),(15,(.int .i64))],[],[]⟩ (.nd 111 ⟨[(0,(.int .i64)),(1,(.int .i64)),(3,(.int .i64)),(13,(.int .i64)),(14,(.int .i64)),(15,(.int .i64))],[],[]⟩ (.nd 81 ⟨[(0,(.int .i64)),(1,(.int .i64)),(3,(.int .i64)),(13,(.int .i64)),(14,(.int .i64)),(15,(.int .i64))],[],[]⟩ .lf .lf) .lf) (.nd 216 ⟨[(13,(.int .i64)),(14,(.int .i64)),(15,(.int .i64)),(16,(.int .i64))],[],[]⟩ (.nd 183 ⟨[(0,(.int .i64)),(1,(.int .i64)),(3,(.int .i64)),(13,(.int .i64)),(14,(.int .i64)),(15,(.int .i64))],[],[]⟩ .lf .lf) .lf)),[]⟩
theorem o63:OK 252 (g63.sem ge):=tk (E:=E63) (A:=A63) ⟨o50,⟨o51,⟨o23,tv,tv⟩,tv⟩,⟨o20,tv,tv⟩⟩ Tryz.func252 g63 (by kernel_rfl) fun x=>by kernel_rfl
def g64:Sig:=⟨⟨bt 0 [.int .i64,.int .i64,.int .i64,.int .i64,.int .i64],[],[]⟩,.tup [.int .i64,.int .i64],[],[],false,false,[],[]⟩
def E64:Tr Sem1:=(.nd 252 (g63.sem ge) (.nd 247 (g23.sem ak) .lf .lf) .lf)
def A64:Anns:=⟨(.nd 0 (.loop ⟨[(0,(.int .i64)),(1,(.int .i64)),(4,(.int .i64)),(12,(.int .i64)),(13,(.int .i64)),(14,(.int .i64))],[],[]⟩) .lf .lf),(.nd 44 ⟨[(0,(.int .i64)),(1,(.int .i64)),(2,(.int .i64)),(4,(.int .i64)),(12,(.int .i64))],[],[]⟩ .lf .lf),[]⟩
theorem o64:OK 193 (g64.sem fw):=tk (E:=E64) (A:=A64) ⟨o63,⟨o23,tv,tv⟩,tv⟩ Tryz.func193 g64 (by kernel_rfl) fun x=>by kernel_rfl
def g65:Sig:=⟨⟨bt 0 [.int .u64,.int .u64],[],[]⟩,.tup [.int .u64,.int .u64],[],[],false,false,[],[]⟩
def A65:Anns:=⟨(.nd 0 (.loop ⟨[(0,(.int .u64)),(1,(.int .u64)),(6,(.int .u64)),(7,(.int .u64)),(8,(.int .i64))],[],[]⟩) .lf .lf),(.nd 66 ⟨[(0,(.int .u64)),(1,(.int .u64)),(6,(.int .u64)),(7,(.int .u64)),(8,(.int .i64))],[],[]⟩ (.nd 52 ⟨[(0,(.int .u64)),(1,(.int .u64)),(6,(.int .u64)),(7,(.int .u64)),(8,(.int .i64))],[],[]⟩ .lf .lf) .lf),[]⟩
theorem o65:OK 315 (g65.sem dN):=tk (E:=Tr.lf) (A:=A65) tv Tryz.func315 g65 (by kernel_rfl) fun x=>by kernel_rfl
def g66:Sig:=⟨⟨bt 0 [.int .i64],[],[]⟩,.one (.int .u64),[],[],false,false,[],[]⟩
theorem o66:OK 316 (g66.sem dh):=tk (E:=Tr.lf) (A:=AN) tv Tryz.func316 g66 (by kernel_rfl) fun x=>by kernel_rfl
def g67:Sig:=⟨⟨bt 0 [.int .i64,.int .i64,.bool],[],[]⟩,.tup [.int .u64,.int .u64],[],[],false,false,[],[]⟩
def E67:Tr Sem1:=(.nd 316 (g66.sem dh) (.nd 315 (g65.sem dN) .lf .lf) .lf)
def A67:Anns:=⟨.lf,(.nd 74 ⟨[(8,(.int .u64)),(9,(.int .u64))],[],[]⟩ (.nd 62 ⟨[(8,(.int .u64)),(9,(.int .u64))],[],[]⟩ .lf .lf) .lf),[]⟩
theorem o67:OK 253 (g67.sem eg):=tk (E:=E67) (A:=A67) ⟨o66,⟨o65,tv,tv⟩,tv⟩ Tryz.func253 g67 (by kernel_rfl) fun x=>by kernel_rfl
def g68:Sig:=⟨⟨bt 0 [.int .i64,.int .i64,.int .i64,.int .i64,.int .i64],[],[]⟩,.tup [.int .i64,.int .i64,.int .i64],[],[],false,false,[],[]⟩
def E68:Tr Sem1:=(.nd 253 (g67.sem eg) (.nd 247 (g23.sem ak) (.nd 196 (g21.sem aT) .lf .lf) .lf) (.nd 254 (g50.sem bS) .lf .lf))
def A68:Anns:=⟨.lf,(.nd 102 ⟨[(1,(.int .i64)),(4,(.int .i64)),(13,.bool),(18,(.int .i64)),(19,(.int .i64))],[],[]⟩ (.nd 60 ⟨[(1,(.int .i64)),(4,(.int .i64)),(13,.bool),(14,(.int .i64)),(15,(.int .i64))],[],[]⟩ .lf .lf) (.nd 124 ⟨[(4,(.int .i64)),(18,(.int .i64)),(19,(.int .i64)),(20,.bool)],[],[]⟩ .lf .lf)),[]⟩
theorem o68:OK 194 (g68.sem cC):=tk (E:=E68) (A:=A68) ⟨o67,⟨o23,⟨o21,tv,tv⟩,tv⟩,⟨o50,tv,tv⟩⟩ Tryz.func194 g68 (by kernel_rfl) fun x=>by kernel_rfl
def g69:Sig:=⟨⟨bt 0 [.int .i64],[],[]⟩,.one (.int .i64),[],[],false,false,[],[]⟩
theorem o69:OK 256 (g69.sem fx):=tk (E:=Tr.lf) (A:=AN) tv Tryz.func256 g69 (by kernel_rfl) fun x=>by kernel_rfl
def g70:Sig:=⟨⟨bt 0 [.int .i64,.int .i64,.int .i64,.bool],[],[]⟩,.tup [.int .u64,.int .u64],[],[],false,false,[],[]⟩
def E70:Tr Sem1:=(.nd 255 (g20.sem aM) (.nd 247 (g23.sem ak) .lf .lf) .lf)
def A70:Anns:=⟨.lf,(.nd 80 ⟨[(10,(.int .u64))],[],[]⟩ .lf .lf),[]⟩
theorem o70:OK 317 (g70.sem gd):=tk (E:=E70) (A:=A70) ⟨o20,⟨o23,tv,tv⟩,tv⟩ Tryz.func317 g70 (by kernel_rfl) fun x=>by kernel_rfl
def g71:Sig:=⟨⟨bt 0 [.int .u64,.int .u64,.int .u64],[],[]⟩,.tup [.int .u64,.int .u64],[],[],false,false,[],[]⟩
def A71:Anns:=⟨(.nd 0 (.loop ⟨[(1,(.int .u64)),(2,(.int .u64)),(8,(.int .u64)),(9,(.int .u64)),(10,(.int .i64))],[],[]⟩) .lf .lf),(.nd 70 ⟨[(1,(.int .u64)),(2,(.int .u64)),(8,(.int .u64)),(9,(.int .u64)),(10,(.int .i64))],[],[]⟩ .lf .lf),[]⟩
theorem o71:OK 318 (g71.sem eQ):=tk (E:=Tr.lf) (A:=A71) tv Tryz.func318 g71 (by kernel_rfl) fun x=>by kernel_rfl
def g72:Sig:=⟨⟨bt 0 [.int .i64,.int .i64,.int .i64,.int .i64,.int .i64],[],[]⟩,.tup [.int .i64,.int .i64,.bool],[],[],false,false,[],[]⟩
def E72:Tr Sem1:=(.nd 316 (g66.sem dh) (.nd 247 (g23.sem ak) (.nd 196 (g21.sem aT) .lf .lf) .lf) (.nd 318 (g71.sem eQ) (.nd 317 (g70.sem gd) .lf .lf) .lf))
def A72:Anns:=⟨.lf,(.nd 112 ⟨[(1,(.int .i64)),(13,.bool),(14,(.int .u64)),(15,(.int .u64)),(16,(.int .u64)),(17,.bool),(18,.bool)],[],[]⟩ (.nd 100 ⟨[(1,(.int .i64)),(13,.bool),(14,(.int .u64)),(15,(.int .u64)),(16,(.int .u64)),(17,.bool),(18,.bool)],[],[]⟩ (.nd 72 ⟨[(1,(.int .i64)),(13,.bool),(14,(.int .u64)),(15,(.int .u64)),(16,(.int .u64)),(17,.bool),(18,.bool)],[],[]⟩ .lf .lf) .lf) (.nd 210 ⟨[(1,(.int .i64)),(19,(.int .u64)),(20,(.int .u64))],[],[]⟩ (.nd 204 ⟨[(1,(.int .i64)),(17,.bool),(19,(.int .u64)),(20,(.int .u64))],[],[]⟩ .lf .lf) .lf)),[]⟩
theorem o72:OK 257 (g72.sem dB):=tk (E:=E72) (A:=A72) ⟨o66,⟨o23,⟨o21,tv,tv⟩,tv⟩,⟨o71,⟨o70,tv,tv⟩,tv⟩⟩ Tryz.func257 g72 (by kernel_rfl) fun x=>by kernel_rfl
def g73:Sig:=⟨⟨bt 0 [.konst (.ptr 0 0),.el .ins],[B10,.row .acc],[]⟩,.tup [],[B11,.konst .gone,.row .acc],[(1,0,big),(0,0,3),(0,5,7)],false,false,[(0,6,.acc)],[1]⟩
def E73:Tr Sem1:=(.nd 250 (g55.sem cD) (.nd 194 (g68.sem cC) (.nd 189 (g48.sem az) .lf .lf) (.nd 244 (g44.sem dH) .lf .lf)) (.nd 257 (g72.sem dB) (.nd 256 (g69.sem fx) .lf .lf) .lf))
def A73:Anns:=⟨.lf,(.nd 87 ⟨[(0,(.konst (.ptr 0 0))),(3,(.konst (.ptr 3 0))),(6,(.int .i64)),(7,(.int .i64)),(8,(.int .i64))],[(B6),(.konst .gone),(.row .acc),(B2)],[]⟩ .lf .lf),[(0,6,.acc)]⟩
theorem o73:OK 197 (g73.sem dI):=tk (E:=E73) (A:=A73) ⟨o55,⟨o68,⟨o48,tv,tv⟩,⟨o44,tv,tv⟩⟩,⟨o72,⟨o69,tv,tv⟩,tv⟩⟩ Tryz.func197 g73 (by kernel_rfl) fun x=>by kernel_rfl
def g74:Sig:=⟨⟨bt 0 [.int .i64,.int .i64],[],[]⟩,.one (.bool),[],[],false,false,[],[]⟩
theorem o74:OK 259 (g74.sem cX):=tk (E:=Tr.lf) (A:=AN) tv Tryz.func259 g74 (by kernel_rfl) fun x=>by kernel_rfl
def g75:Sig:=⟨⟨bt 0 [.konst (.ptr 0 0),.int .i64],[B10,.row .acc],[]⟩,.tup [],[B11,.konst .gone,.row .acc],[(1,0,big),(0,0,1),(0,3,4),(0,5,7)],false,false,[(0,6,.acc)],[1]⟩
def E75:Tr Sem1:=(.nd 251 (g60.sem ba) (.nd 129 (g43.sem aY) .lf .lf) .lf)
def A75:Anns:=⟨.lf,.lf,[(0,6,.acc)]⟩
theorem o75:OK 260 (g75.sem cb):=tk (E:=E75) (A:=A75) ⟨o60,⟨o43,tv,tv⟩,tv⟩ Tryz.func260 g75 (by kernel_rfl) fun x=>by kernel_rfl
def g76:Sig:=⟨⟨bt 0 [.konst (.ptr 0 0)],[B10,.row .acc],[]⟩,.one (.int .i64),[B11,.konst .gone,.row .acc],[(1,0,big),(0,0,1),(0,5,7)],false,false,[(0,6,.acc)],[1]⟩
def E76:Tr Sem1:=(.nd 245 (g47.sem bp) (.nd 129 (g43.sem aY) .lf .lf) .lf)
def A76:Anns:=⟨.lf,.lf,[(0,6,.acc)]⟩
theorem o76:OK 261 (g76.sem cn):=tk (E:=E76) (A:=A76) ⟨o47,⟨o43,tv,tv⟩,tv⟩ Tryz.func261 g76 (by kernel_rfl) fun x=>by kernel_rfl
def g77:Sig:=⟨⟨bt 0 [.konst (.ptr 0 0),.el .ins],[B10,.row .acc],[]⟩,.one (.int .i64),[B11,.konst .gone,.row .acc],[(1,0,big),(0,5,7)],false,false,[(0,6,.acc)],[1]⟩
def E77:Tr Sem1:=(.nd 189 (g48.sem az) (.nd 129 (g43.sem aY) .lf .lf) .lf)
def A77:Anns:=⟨.lf,.lf,[(0,6,.acc)]⟩
theorem o77:OK 319 (g77.sem bC):=tk (E:=E77) (A:=A77) ⟨o48,⟨o43,tv,tv⟩,tv⟩ Tryz.func319 g77 (by kernel_rfl) fun x=>by kernel_rfl
def g78:Sig:=⟨⟨bt 0 [.konst (.ptr 0 0),.el .ins],[B10,.row .acc],[]⟩,.tup [],[B11,.konst .gone,.row .acc],[(1,0,big),(0,0,1),(0,3,7)],false,false,[(0,6,.acc)],[1]⟩
def E78:Tr Sem1:=(.nd 261 (g76.sem cn) (.nd 260 (g75.sem cb) (.nd 259 (g74.sem cX) .lf .lf) .lf) (.nd 319 (g77.sem bC) .lf .lf))
def A78:Anns:=⟨.lf,.lf,[(0,6,.acc)]⟩
theorem o78:OK 262 (g78.sem ca):=tk (E:=E78) (A:=A78) ⟨o76,⟨o75,⟨o74,tv,tv⟩,tv⟩,⟨o77,tv,tv⟩⟩ Tryz.func262 g78 (by kernel_rfl) fun x=>by kernel_rfl
def g79:Sig:=⟨⟨bt 0 [.konst (.ptr 0 0),.el .ins],[B10,.row .acc],[]⟩,.tup [],[B11,.konst .gone,.row .acc],[(1,0,big),(0,0,big)],false,false,[(0,6,.acc)],[1]⟩
def E79:Tr Sem1:=(.nd 251 (g60.sem ba) (.nd 196 (g21.sem aT) (.nd 189 (g48.sem az) (.nd 129 (g43.sem aY) .lf .lf) (.nd 191 (g61.sem aJ) .lf .lf)) (.nd 250 (g55.sem cD) (.nd 245 (g47.sem bp) .lf .lf) .lf)) (.nd 260 (g75.sem cb) (.nd 259 (g74.sem cX) (.nd 258 (g49.sem eF) .lf .lf) .lf) (.nd 262 (g78.sem ca) (.nd 261 (g76.sem cn) .lf .lf) .lf)))
def A79:Anns:=⟨.lf,(.nd 384 ⟨[(0,(.konst (.ptr 0 0))),(3,(.konst (.ptr 3 0))),(192,.bool)],[(B6),(.konst .gone),(.row .acc),(B2)],[]⟩ (.nd 84 ⟨[(0,(.konst (.ptr 0 0))),(3,(.konst (.ptr 3 0))),(4,(.int .i64))],[(B6),(.konst .gone),(.row .acc),(B2)],[]⟩ .lf .lf) .lf),[(0,6,.acc)]⟩
theorem o79:OK 198 (g79.sem aD):=tk (E:=E79) (A:=A79) ⟨o60,⟨o21,⟨o48,⟨o43,tv,tv⟩,⟨o61,tv,tv⟩⟩,⟨o55,⟨o47,tv,tv⟩,tv⟩⟩,⟨o75,⟨o74,⟨o49,tv,tv⟩,tv⟩,⟨o78,⟨o76,tv,tv⟩,tv⟩⟩⟩ Tryz.func198 g79 (by kernel_rfl) fun x=>by kernel_rfl
def g80:Sig:=⟨⟨bt 0 [.konst (.ptr 0 0),.el .ins],[B10,.row .acc],[]⟩,.tup [],[B11,.konst .gone,.row .acc],[(1,0,big),(0,0,big)],false,false,[(0,6,.acc)],[1]⟩
def E80:Tr Sem1:=(.nd 193 (g64.sem fw) (.nd 190 (g54.sem gR) (.nd 189 (g48.sem az) (.nd 60 (g10.sem bb) .lf .lf) .lf) (.nd 192 (g62.sem gU) (.nd 191 (g61.sem aJ) .lf .lf) .lf)) (.nd 196 (g21.sem aT) (.nd 195 (g45.sem bZ) (.nd 194 (g68.sem cC) .lf .lf) .lf) (.nd 198 (g79.sem aD) (.nd 197 (g73.sem dI) .lf .lf) .lf)))
def A80:Anns:=⟨.lf,(.nd 150 ⟨[(0,(.konst (.ptr 0 0))),(3,(.konst (.ptr 3 0))),(75,.bool)],[(B6),(.konst .gone),(.row .acc),(B2)],[]⟩ (.nd 42 ⟨[(0,(.konst (.ptr 0 0))),(3,(.konst (.ptr 3 0))),(21,.bool)],[(B6),(.konst .gone),(.row .acc),(B2)],[]⟩ .lf .lf) .lf),[(0,6,.acc)]⟩
theorem o80:OK 130 (g80.sem aR):=tk (E:=E80) (A:=A80) ⟨o64,⟨o54,⟨o48,⟨o10,tv,tv⟩,tv⟩,⟨o62,⟨o61,tv,tv⟩,tv⟩⟩,⟨o21,⟨o45,⟨o68,tv,tv⟩,tv⟩,⟨o79,⟨o73,tv,tv⟩,tv⟩⟩⟩ Tryz.func130 g80 (by kernel_rfl) fun x=>by kernel_rfl
def g81:Sig:=⟨⟨bt 0 [.agg [.arr .i 16,.int .i64,.int .i64],.agg [.list .page],.el .ins],[],[]⟩,.tup [.agg [.arr .i 16,.int .i64,.int .i64],.agg [.list .page],.list .acc,.int .i64],[],[],false,false,[],[]⟩
def E81:Tr Sem1:=(.nd 130 (g80.sem aR) (.nd 129 (g43.sem aY) .lf .lf) .lf)
def A81:Anns:=⟨.lf,.lf,[(20,6,.acc)]⟩
theorem o81:OK 71 (g81.sem gg):=tk (E:=E81) (A:=A81) ⟨o80,⟨o43,tv,tv⟩,tv⟩ Tryz.func71 g81 (by kernel_rfl) fun x=>by kernel_rfl
def g82:Sig:=⟨⟨bt 0 [.agg [.arr .i 16,.int .i64,.int .i64],.agg [.list .page]],[],[]⟩,.tup [.agg [.arr .i 16,.int .i64,.int .i64],.agg [.list .page],.list .acc,.int .i64],[],[],false,false,[],[]⟩
def E82:Tr Sem1:=(.nd 134 (g17.sem fp) (.nd 71 (g81.sem gg) .lf .lf) (.nd 135 (g42.sem eT) .lf .lf))
theorem o82:OK 81 (g82.sem gh):=tk (E:=E82) (A:=AN) ⟨o17,⟨o81,tv,tv⟩,⟨o42,tv,tv⟩⟩ Tryz.func81 g82 (by kernel_rfl) fun x=>by kernel_rfl
def g83:Sig:=⟨⟨bt 0 [.agg [.arr .i 16,.int .i64,.int .i64],.agg [.list .page],.int .i64],[],[]⟩,.tup [.agg [.arr .i 16,.int .i64,.int .i64],.agg [.list .page],.int .i64,.int .i64],[],[],false,false,[],[]⟩
def E83:Tr Sem1:=(.nd 70 (g13.sem fo) (.nd 69 (g9.sem iF) (.nd 60 (g10.sem bb) .lf .lf) .lf) (.nd 81 (g82.sem gh) (.nd 72 (g57.sem dE) .lf .lf) .lf))
def A83:Anns:=⟨(.nd 0 (.loop ⟨[(2,(.int .i64)),(3,(.konst (.ptr 0 0))),(4,(.konst (.ptr 1 0))),(6,(.konst (.ptr 2 0))),(7,(.konst (.ptr 3 0))),(10,(.int .i64))],[(B17),(.var [(.list .page)]),(B17),(.var [(.konst .nils)])],[]⟩) .lf .lf),.lf,[]⟩
theorem o83:OK 40 (g83.sem gO):=tk (E:=E83) (A:=A83) ⟨o13,⟨o9,⟨o10,tv,tv⟩,tv⟩,⟨o82,⟨o57,tv,tv⟩,tv⟩⟩ Tryz.func40 g83 (by kernel_rfl) fun x=>by kernel_rfl
def g84:Sig:=⟨⟨bt 0 [.int .i64],[],[]⟩,.one (.bool),[],[],false,false,[],[]⟩
theorem o84:OK 111 (g84.sem gI):=tk (E:=Tr.lf) (A:=AN) tv Tryz.func111 g84 (by kernel_rfl) fun x=>by kernel_rfl
def g85:Sig:=⟨⟨bt 0 [.agg [.arr .i 16,.int .i64,.int .i64]],[],[]⟩,.one (.bool),[],[],false,false,[],[]⟩
def E85:Tr Sem1:=(.nd 111 (g84.sem gI) .lf .lf)
theorem o85:OK 53 (g85.sem iA):=tk (E:=E85) (A:=AN) ⟨o84,tv,tv⟩ Tryz.func53 g85 (by kernel_rfl) fun x=>by kernel_rfl
def g86:Sig:=⟨⟨bt 0 [.int .i64,.int .i64,.int .i64],[],[]⟩,.one (.bool),[],[],false,false,[],[]⟩
theorem o86:OK 58 (g86.sem ax):=tk (E:=Tr.lf) (A:=AN) tv Tryz.func58 g86 (by kernel_rfl) fun x=>by kernel_rfl
def g87:Sig:=⟨⟨bt 0 [.int .i64],[],[]⟩,.one (.bool),[],[],false,false,[],[]⟩
def E87:Tr Sem1:=(.nd 58 (g86.sem ax) .lf .lf)
theorem o87:OK 112 (g87.sem iY):=tk (E:=E87) (A:=AN) ⟨o86,tv,tv⟩ Tryz.func112 g87 (by kernel_rfl) fun x=>by kernel_rfl
def g88:Sig:=⟨⟨bt 0 [.int .i64],[],[]⟩,.one (.bool),[],[],false,false,[],[]⟩
def E88:Tr Sem1:=(.nd 58 (g86.sem ax) .lf .lf)
theorem o88:OK 113 (g88.sem iZ):=tk (E:=E88) (A:=AN) ⟨o86,tv,tv⟩ Tryz.func113 g88 (by kernel_rfl) fun x=>by kernel_rfl
def g89:Sig:=⟨⟨bt 0 [.agg [.list .page]],[],[]⟩,.one (.bool),[],[],false,false,[],[]⟩
def E89:Tr Sem1:=(.nd 113 (g88.sem iZ) (.nd 112 (g87.sem iY) .lf .lf) .lf)
def A89:Anns:=⟨(.nd 0 (.loop ⟨[(1,(.konst (.ptr 0 0))),(6,(.list .page)),(7,(.int .i64)),(8,(.int .i64))],[(.var [(.list .page)])],[]⟩) .lf .lf),.lf,[]⟩
theorem o89:OK 54 (g89.sem dr):=tk (E:=E89) (A:=A89) ⟨o88,⟨o87,tv,tv⟩,tv⟩ Tryz.func54 g89 (by kernel_rfl) fun x=>by kernel_rfl
def g90:Sig:=⟨⟨bt 0 [.list .page],[],[]⟩,.one (.konst (.vec 0)),[.row .page],[],false,true,[(2,0,.page)],[]⟩
theorem o90:OK 136 (g90.sem dc):=tk (E:=Tr.lf) (A:=AN) tv Tryz.func136 g90 (by kernel_rfl) fun x=>by kernel_rfl
def g91:Sig:=⟨⟨bt 0 [.agg [.list .page]],[],[]⟩,.one (.agg [.konst (.vec 0)]),[.row .page],[],false,true,[(2,1,.page)],[]⟩
def E91:Tr Sem1:=(.nd 136 (g90.sem dc) .lf .lf)
theorem o91:OK 82 (g91.sem bg):=tk (E:=E91) (A:=AN) ⟨o90,tv,tv⟩ Tryz.func82 g91 (by kernel_rfl) fun x=>by kernel_rfl
def g92:Sig:=⟨⟨bt 0 [.el .page,.konst (.ptr 0 0)],[.var [.int .i64]],[]⟩,.one (.bool),[.var [.int .i64]],[],false,false,[],[]⟩
theorem o92:OK 324 (g92.sem dz):=tk (E:=Tr.lf) (A:=AN) tv Tryz.func324 g92 (by kernel_rfl) fun x=>by kernel_rfl
def g93:Sig:=⟨⟨bt 0 [.list .page,.konst (.func (.func 324) [] [.ptr 0 0])],[.var [.int .i64]],[]⟩,.one (.int .i64),[.var [.int .i64]],[],false,false,[],[]⟩
def E93:Tr Sem1:=(.nd 324 (g92.sem dz) .lf .lf)
def A93:Anns:=⟨(.nd 0 (.loop ⟨[(0,(.list .page)),(1,(.konst (.func (.func 324) [] [(.ptr 0 0)]))),(7,(.int .i64)),(8,(.int .i64))],[(.var [(.int .i64)])],[]⟩) .lf .lf),.lf,[]⟩
theorem o93:OK 323 (g93.sem aO):=tk (E:=E93) (A:=A93) ⟨o92,tv,tv⟩ Tryz.func323 g93 (by kernel_rfl) fun x=>by kernel_rfl
def g94:Sig:=⟨⟨bt 0 [.agg [.list .page],.int .i64],[],[]⟩,.one (.int .i64),[],[],false,false,[],[]⟩
def E94:Tr Sem1:=(.nd 323 (g93.sem aO) (.nd 58 (g86.sem ax) .lf .lf) .lf)
theorem o94:OK 272 (g94.sem bA):=tk (E:=E94) (A:=AN) ⟨o93,⟨o86,tv,tv⟩,tv⟩ Tryz.func272 g94 (by kernel_rfl) fun x=>by kernel_rfl
def g95:Sig:=⟨⟨bt 0 [.agg [.list .page],.int .i64,.int .i64,.int .i64],[],[]⟩,.one (.int .i64),[],[],false,false,[],[]⟩
def E95:Tr Sem1:=(.nd 272 (g94.sem bA) .lf .lf)
def A95:Anns:=⟨(.nd 0 (.loop ⟨[(1,(.int .i64)),(3,(.int .i64)),(4,(.konst (.ptr 0 0))),(11,(.int .i64)),(12,(.int .i64))],[(.var [(.list .page)])],[]⟩) .lf .lf),.lf,[]⟩
theorem o95:OK 210 (g95.sem bj):=tk (E:=E95) (A:=A95) ⟨o94,tv,tv⟩ Tryz.func210 g95 (by kernel_rfl) fun x=>by kernel_rfl
def g96:Sig:=⟨⟨bt 0 [.agg [.list .page],.int .i64,.int .i64],[],[]⟩,.one (.str),[],[],false,false,[],[]⟩
def E96:Tr Sem1:=(.nd 272 (g94.sem bA) .lf .lf)
def A96:Anns:=⟨(.nd 0 (.loop ⟨[(1,(.int .i64)),(3,(.konst (.ptr 0 0))),(7,(.konst (.vec 1))),(12,(.int .i64)),(13,(.int .i64))],[(.var [(.list .page)]),(.row .u)],[]⟩) .lf .lf),.lf,[]⟩
theorem o96:OK 211 (g96.sem bQ):=tk (E:=E96) (A:=A96) ⟨o94,tv,tv⟩ Tryz.func211 g96 (by kernel_rfl) fun x=>by kernel_rfl
def g97:Sig:=⟨⟨bt 0 [.agg [.list .page],.int .i64],[],[]⟩,.tup [.str,.int .i64],[],[],false,false,[],[]⟩
def E97:Tr Sem1:=(.nd 210 (g95.sem bj) (.nd 54 (g89.sem dr) .lf .lf) (.nd 211 (g96.sem bQ) .lf .lf))
def A97:Anns:=⟨(.nd 0 (.loop ⟨[(1,(.int .i64)),(2,(.konst (.ptr 0 0))),(7,(.int .i64))],[(.var [(.list .page)])],[]⟩) .lf .lf),.lf,[]⟩
theorem o97:OK 137 (g97.sem fP):=tk (E:=E97) (A:=A97) ⟨o95,⟨o89,tv,tv⟩,⟨o96,tv,tv⟩⟩ Tryz.func137 g97 (by kernel_rfl) fun x=>by kernel_rfl
def g98:Sig:=⟨⟨bt 0 [.konst (.ptr 0 0),.int .i64,.int .i64],[B1],[]⟩,.one (.bool),[B1],[],false,false,[],[]⟩
def E98:Tr Sem1:=(.nd 58 (g86.sem ax) .lf .lf)
theorem o98:OK 273 (g98.sem bR):=tk (E:=E98) (A:=AN) ⟨o86,tv,tv⟩ Tryz.func273 g98 (by kernel_rfl) fun x=>by kernel_rfl
def g99:Sig:=⟨⟨bt 0 [.konst (.ptr 0 0),.bool,.int .i64],[B1],[]⟩,.tup [],[B1],[(0,2,3)],false,false,[],[]⟩
theorem o99:OK 275 (g99.sem aI):=tk (E:=Tr.lf) (A:=AN) tv Tryz.func275 g99 (by kernel_rfl) fun x=>by kernel_rfl
def g100:Sig:=⟨⟨bt 0 [.str],[],[]⟩,.one (.int .i64),[],[],false,false,[],[]⟩
def A100:Anns:=⟨(.nd 0 (.loop ⟨[(0,.str),(3,(.int .i64)),(6,(.int .i64)),(7,(.int .i64))],[],[]⟩) .lf .lf),.lf,[]⟩
theorem o100:OK 298 (g100.sem fg):=tk (E:=Tr.lf) (A:=A100) tv Tryz.func298 g100 (by kernel_rfl) fun x=>by kernel_rfl
def FX:Sig:=⟨⟨bt 0 [.konst (.ptr 0 0),.int .i64],[B1],[]⟩,.one (.int .i64),[B1],[(0,1,3)],false,false,[],[]⟩
def E101:Tr Sem1:=(.nd 298 (g100.sem fg) (.nd 275 (g99.sem aI) .lf .lf) .lf)
theorem o101:OK 274 (FX.sem aK):=tk (E:=E101) (A:=AN) ⟨o100,⟨o99,tv,tv⟩,tv⟩ Tryz.func274 FX (by kernel_rfl) fun x=>by kernel_rfl
def g102:Sig:=⟨⟨bt 0 [.konst (.ptr 0 0)],[B1],[]⟩,.one (.bool),[B1],[],false,false,[],[]⟩
def E102:Tr Sem1:=(.nd 273 (g98.sem bR) .lf .lf)
def A102:Anns:=⟨(.nd 0 (.loop ⟨[(0,(.konst (.ptr 0 0))),(5,(.konst (.vec 1))),(6,(.int .i64)),(7,(.int .i64))],[(B0),(.row .i)],[]⟩) .lf .lf),.lf,[]⟩
theorem o102:OK 276 (g102.sem cu):=tk (E:=E102) (A:=A102) ⟨o98,tv,tv⟩ Tryz.func276 g102 (by kernel_rfl) fun x=>by kernel_rfl
def g103:Sig:=⟨⟨bt 0 [.konst (.ptr 0 0)],[B1],[]⟩,.tup [],[B1],[(0,1,6)],false,false,[],[]⟩
def E103:Tr Sem1:=(.nd 275 (g99.sem aI) (.nd 274 (FX.sem aK) (.nd 273 (g98.sem bR) .lf .lf) .lf) (.nd 276 (g102.sem cu) .lf .lf))
def A103:Anns:=⟨.lf,(.nd 6 ⟨[(0,(.konst (.ptr 0 0)))],[(B0)],[]⟩ .lf .lf),[]⟩
theorem o103:OK 212 (g103.sem cy):=tk (E:=E103) (A:=A103) ⟨o99,⟨o101,⟨o98,tv,tv⟩,tv⟩,⟨o102,tv,tv⟩⟩ Tryz.func212 g103 (by kernel_rfl) fun x=>by kernel_rfl
def g104:Sig:=⟨⟨bt 0 [.int .i64],[],[]⟩,.one (.bool),[],[],false,false,[],[]⟩
def E104:Tr Sem1:=(.nd 58 (g86.sem ax) .lf .lf)
theorem o104:OK 155 (g104.sem kH):=tk (E:=E104) (A:=AN) ⟨o86,tv,tv⟩ Tryz.func155 g104 (by kernel_rfl) fun x=>by kernel_rfl
def g105:Sig:=⟨⟨bt 0 [.int .i64,.int .i64,.int .i64,.konst (.ptr 0 0)],[.var [.bool]],[]⟩,.one (V15),[.var [.bool]],[],false,false,[],[]⟩
theorem o105:OK 337 (g105.sem bo):=tk (E:=Tr.lf) (A:=AN) tv Tryz.func337 g105 (by kernel_rfl) fun x=>by kernel_rfl
def g106:Sig:=⟨⟨bt 0 [.int .i64],[],[]⟩,.one (V15),[],[],false,false,[],[]⟩
def E106:Tr Sem1:=(.nd 337 (g105.sem bo) (.nd 58 (g86.sem ax) .lf .lf) .lf)
def A106:Anns:=⟨.lf,(.nd 204 ⟨[(2,(.konst (.ptr 0 0))),(4,(.konst (.func (.func 337) [] [(.ptr 1 0)]))),(46,(.int .i64)),(102,.bool)],[(B13),(.var [.bool])],[]⟩ (.nd 138 ⟨[(2,(.konst (.ptr 0 0))),(4,(.konst (.func (.func 337) [] [(.ptr 1 0)]))),(46,(.int .i64)),(69,.bool)],[(B13),(.var [.bool])],[]⟩ (.nd 128 ⟨[(2,(.konst (.ptr 0 0))),(4,(.konst (.func (.func 337) [] [(.ptr 1 0)]))),(46,(.int .i64)),(64,.bool)],[(B13),(.var [.bool])],[]⟩ (.nd 112 ⟨[(2,(.konst (.ptr 0 0))),(4,(.konst (.func (.func 337) [] [(.ptr 1 0)]))),(46,(.int .i64)),(56,.bool)],[(B13),(.var [.bool])],[]⟩ .lf .lf) .lf) (.nd 158 ⟨[(2,(.konst (.ptr 0 0))),(4,(.konst (.func (.func 337) [] [(.ptr 1 0)]))),(46,(.int .i64)),(79,.bool)],[(B13),(.var [.bool])],[]⟩ (.nd 148 ⟨[(2,(.konst (.ptr 0 0))),(4,(.konst (.func (.func 337) [] [(.ptr 1 0)]))),(46,(.int .i64)),(74,.bool)],[(B13),(.var [.bool])],[]⟩ .lf .lf) .lf)) (.nd 252 ⟨[(2,(.konst (.ptr 0 0))),(4,(.konst (.func (.func 337) [] [(.ptr 1 0)]))),(46,(.int .i64)),(126,.bool)],[(B13),(.var [.bool])],[]⟩ (.nd 236 ⟨[(2,(.konst (.ptr 0 0))),(4,(.konst (.func (.func 337) [] [(.ptr 1 0)]))),(46,(.int .i64)),(118,.bool)],[(B13),(.var [.bool])],[]⟩ (.nd 220 ⟨[(2,(.konst (.ptr 0 0))),(4,(.konst (.func (.func 337) [] [(.ptr 1 0)]))),(46,(.int .i64)),(110,.bool)],[(B13),(.var [.bool])],[]⟩ .lf .lf) .lf) (.nd 296 ⟨[(2,(.konst (.ptr 0 0))),(4,(.konst (.func (.func 337) [] [(.ptr 1 0)]))),(46,(.int .i64)),(148,.bool)],[(B13),(.var [.bool])],[]⟩ (.nd 262 ⟨[(2,(.konst (.ptr 0 0))),(4,(.konst (.func (.func 337) [] [(.ptr 1 0)]))),(46,(.int .i64)),(131,.bool)],[(B13),(.var [.bool])],[]⟩ .lf .lf) .lf))),[]⟩
theorem o106:OK 325 (g106.sem j8):=tk (E:=E106) (A:=A106) ⟨o105,⟨o86,tv,tv⟩,tv⟩ Tryz.func325 g106 (by kernel_rfl) fun x=>by kernel_rfl
def g107:Sig:=⟨⟨bt 0 [.int .i64],[],[]⟩,.one (V15),[],[],false,false,[],[]⟩
def E107:Tr Sem1:=(.nd 58 (g86.sem ax) .lf .lf)
theorem o107:OK 326 (g107.sem j9):=tk (E:=E107) (A:=AN) ⟨o86,tv,tv⟩ Tryz.func326 g107 (by kernel_rfl) fun x=>by kernel_rfl
def g108:Sig:=⟨⟨bt 0 [.bool,.int .i64],[],[]⟩,.tup [V15,.int .i64],[],[],false,false,[],[]⟩
def E108:Tr Sem1:=(.nd 325 (g106.sem j8) (.nd 155 (g104.sem kH) .lf .lf) (.nd 326 (g107.sem j9) .lf .lf))
def A108:Anns:=⟨.lf,(.nd 26 ⟨[(4,(.konst (.ptr 0 0))),(6,(.konst (.ptr 1 0)))],[(B13),(B13)],[]⟩ .lf .lf),[]⟩
theorem o108:OK 277 (g108.sem fR):=tk (E:=E108) (A:=A108) ⟨o106,⟨o104,tv,tv⟩,⟨o107,tv,tv⟩⟩ Tryz.func277 g108 (by kernel_rfl) fun x=>by kernel_rfl
def g109:Sig:=⟨⟨bt 0 [.konst (.ptr 0 0)],[B1],[]⟩,.tup [],[B1],[(0,1,3),(0,6,12),(0,15,16)],false,false,[],[]⟩
def E109:Tr Sem1:=(.nd 275 (g99.sem aI) (.nd 274 (FX.sem aK) .lf .lf) (.nd 277 (g108.sem fR) .lf .lf))
def A109:Anns:=⟨.lf,(.nd 44 ⟨[(0,(.konst (.ptr 0 0))),(2,.bool)],[(B0)],[]⟩ .lf .lf),[]⟩
theorem o109:OK 213 (g109.sem cl):=tk (E:=E109) (A:=A109) ⟨o99,⟨o101,tv,tv⟩,⟨o108,tv,tv⟩⟩ Tryz.func213 g109 (by kernel_rfl) fun x=>by kernel_rfl
def g110:Sig:=⟨⟨bt 0 [.int .i64],[],[]⟩,.one (.bool),[],[],false,false,[],[]⟩
def A110:Anns:=⟨.lf,(.nd 8 ⟨[(4,.bool)],[],[]⟩ .lf .lf),[]⟩
theorem o110:OK 278 (g110.sem fd):=tk (E:=Tr.lf) (A:=A110) tv Tryz.func278 g110 (by kernel_rfl) fun x=>by kernel_rfl
def g111:Sig:=⟨⟨bt 0 [.int .i64],[],[]⟩,.one (.list .i),[],[],false,false,[],[]⟩
theorem o111:OK 327 (g111.sem jo):=tk (E:=Tr.lf) (A:=AN) tv Tryz.func327 g111 (by kernel_rfl) fun x=>by kernel_rfl
def g112:Sig:=⟨⟨bt 0 [.int .i64,.int .i64],[],[]⟩,.tup [.int .i64,.int .i64],[],[],false,false,[],[]⟩
def E112:Tr Sem1:=(.nd 327 (g111.sem jo) (.nd 58 (g86.sem ax) .lf .lf) .lf)
theorem o112:OK 279 (g112.sem fQ):=tk (E:=E112) (A:=AN) ⟨o111,⟨o86,tv,tv⟩,tv⟩ Tryz.func279 g112 (by kernel_rfl) fun x=>by kernel_rfl
def g113:Sig:=⟨⟨bt 0 [.konst (.ptr 0 0)],[B1],[]⟩,.tup [],[B1],[(0,1,3),(0,12,16)],false,false,[],[]⟩
def E113:Tr Sem1:=(.nd 278 (g110.sem fd) (.nd 275 (g99.sem aI) (.nd 274 (FX.sem aK) .lf .lf) .lf) (.nd 279 (g112.sem fQ) .lf .lf))
theorem o113:OK 214 (g113.sem c9):=tk (E:=E113) (A:=AN) ⟨o110,⟨o99,⟨o101,tv,tv⟩,tv⟩,⟨o112,tv,tv⟩⟩ Tryz.func214 g113 (by kernel_rfl) fun x=>by kernel_rfl
def g114:Sig:=⟨⟨bt 0 [.int .i64],[],[]⟩,.tup [.int .i64,.bool],[],[],false,false,[],[]⟩
def A114:Anns:=⟨.lf,(.nd 20 ⟨[(10,.bool)],[],[]⟩ (.nd 10 ⟨[(4,(.int .i64)),(5,.bool)],[],[]⟩ .lf .lf) .lf),[]⟩
theorem o114:OK 225 (g114.sem eL):=tk (E:=Tr.lf) (A:=A114) tv Tryz.func225 g114 (by kernel_rfl) fun x=>by kernel_rfl
def g115:Sig:=⟨⟨bt 0 [.konst (.ptr 0 0),.int .i64],[B1],[]⟩,.one (.int .i64),[B1],[],false,false,[],[]⟩
theorem o115:OK 280 (g115.sem aN):=tk (E:=Tr.lf) (A:=AN) tv Tryz.func280 g115 (by kernel_rfl) fun x=>by kernel_rfl
def g116:Sig:=⟨⟨bt 0 [.konst (.ptr 0 0)],[B1],[]⟩,.tup [],[B1],[(0,2,3),(0,16,17)],false,false,[],[]⟩
def E116:Tr Sem1:=(.nd 275 (g99.sem aI) (.nd 225 (g114.sem eL) (.nd 58 (g86.sem ax) .lf .lf) .lf) (.nd 280 (g115.sem aN) .lf .lf))
def A116:Anns:=⟨.lf,(.nd 69 ⟨[(0,(.konst (.ptr 0 0))),(3,.bool)],[(B0)],[]⟩ (.nd 49 ⟨[(0,(.konst (.ptr 0 0))),(3,.bool)],[(B0)],[]⟩ (.nd 35 ⟨[(0,(.konst (.ptr 0 0))),(3,.bool)],[(B0)],[]⟩ .lf .lf) .lf) (.nd 85 ⟨[(0,(.konst (.ptr 0 0))),(3,.bool)],[(B0)],[]⟩ .lf .lf)),[]⟩
theorem o116:OK 215 (g116.sem du):=tk (E:=E116) (A:=A116) ⟨o99,⟨o114,⟨o86,tv,tv⟩,tv⟩,⟨o115,tv,tv⟩⟩ Tryz.func215 g116 (by kernel_rfl) fun x=>by kernel_rfl
def g117:Sig:=⟨⟨bt 0 [.int .i64],[],[]⟩,.one (V12),[],[],false,false,[],[]⟩
theorem o117:OK 152 (g117.sem eE):=tk (E:=Tr.lf) (A:=AN) tv Tryz.func152 g117 (by kernel_rfl) fun x=>by kernel_rfl
def g118:Sig:=⟨⟨bt 0 [.konst (.ptr 0 0),.int .i64,.int .i64],[B1],[]⟩,.one (V12),[B1],[],false,false,[],[]⟩
def E118:Tr Sem1:=(.nd 152 (g117.sem eE) (.nd 58 (g86.sem ax) .lf .lf) .lf)
def A118:Anns:=⟨.lf,(.nd 38 ⟨[(1,(.int .i64)),(6,(.konst (.ptr 1 0)))],[(B0),(B7)],[]⟩ .lf .lf),[]⟩
theorem o118:OK 281 (g118.sem bv):=tk (E:=E118) (A:=A118) ⟨o117,⟨o86,tv,tv⟩,tv⟩ Tryz.func281 g118 (by kernel_rfl) fun x=>by kernel_rfl
def FY:Sig:=⟨⟨bt 0 [.int .i64,.int .i64],[],[]⟩,.one (.int .i64),[],[],false,false,[],[]⟩
theorem o119:OK 165 (FY.sem bx):=tk (E:=Tr.lf) (A:=AN) tv Tryz.func165 FY (by kernel_rfl) fun x=>by kernel_rfl
def g120:Sig:=⟨⟨bt 0 [.konst (.ptr 0 0),.int .i64],[B1],[]⟩,.one (.int .i64),[B1],[(0,1,3)],false,false,[],[]⟩
def E120:Tr Sem1:=(.nd 274 (FX.sem aK) (.nd 165 (FY.sem bx) .lf .lf) .lf)
theorem o120:OK 284 (g120.sem aU):=tk (E:=E120) (A:=AN) ⟨o101,⟨o119,tv,tv⟩,tv⟩ Tryz.func284 g120 (by kernel_rfl) fun x=>by kernel_rfl
def g121:Sig:=⟨⟨bt 0 [.konst (.ptr 0 0),.int .i64],[B1],[]⟩,.one (V12),[B1],[(0,1,3)],false,false,[],[]⟩
def E121:Tr Sem1:=(.nd 281 (g118.sem bv) (.nd 280 (g115.sem aN) (.nd 274 (FX.sem aK) .lf .lf) .lf) (.nd 284 (g120.sem aU) .lf .lf))
def A121:Anns:=⟨.lf,(.nd 148 ⟨[(0,(.konst (.ptr 0 0))),(4,(.konst (.ptr 1 0))),(5,(.konst (.ptr 2 0))),(6,.bool)],[(B0),(B7),(B7)],[]⟩ (.nd 116 ⟨[(0,(.konst (.ptr 0 0))),(4,(.konst (.ptr 1 0))),(5,(.konst (.ptr 2 0))),(6,.bool),(7,(.int .i64))],[(B0),(B7),(B7)],[]⟩ (.nd 75 ⟨[(0,(.konst (.ptr 0 0))),(4,(.konst (.ptr 1 0))),(5,(.konst (.ptr 2 0))),(6,.bool)],[(B0),(B7),(B7)],[]⟩ .lf .lf) .lf) (.nd 152 ⟨[(0,(.konst (.ptr 0 0))),(4,(.konst (.ptr 1 0))),(5,(.konst (.ptr 2 0))),(6,.bool)],[(B0),(B7),(B7)],[]⟩ .lf .lf)),[]⟩
theorem o121:OK 282 (g121.sem aS):=tk (E:=E121) (A:=A121) ⟨o118,⟨o115,⟨o101,tv,tv⟩,tv⟩,⟨o120,tv,tv⟩⟩ Tryz.func282 g121 (by kernel_rfl) fun x=>by kernel_rfl
def g122:Sig:=⟨⟨bt 0 [.int .i64],[],[]⟩,.one (V12),[],[],false,false,[],[]⟩
theorem o122:OK 154 (g122.sem cI):=tk (E:=Tr.lf) (A:=AN) tv Tryz.func154 g122 (by kernel_rfl) fun x=>by kernel_rfl
def g123:Sig:=⟨⟨bt 0 [.konst (.ptr 0 0)],[B1],[]⟩,.one (V12),[B1],[(0,1,3)],false,false,[],[]⟩
def E123:Tr Sem1:=(.nd 284 (g120.sem aU) (.nd 154 (g122.sem cI) .lf .lf) .lf)
theorem o123:OK 283 (g123.sem bq):=tk (E:=E123) (A:=AN) ⟨o120,⟨o122,tv,tv⟩,tv⟩ Tryz.func283 g123 (by kernel_rfl) fun x=>by kernel_rfl
def g124:Sig:=⟨⟨bt 0 [.konst (.ptr 0 0)],[B1],[]⟩,.tup [],[B1],[(0,1,3),(0,19,33)],false,false,[],[]⟩
def E124:Tr Sem1:=(.nd 283 (g123.sem bq) (.nd 282 (g121.sem aS) .lf .lf) .lf)
def A124:Anns:=⟨.lf,(.nd 30 ⟨[(0,(.konst (.ptr 0 0))),(2,(.konst (.ptr 1 0))),(15,.bool)],[(B0),(B7)],[]⟩ .lf .lf),[]⟩
theorem o124:OK 285 (g124.sem cw):=tk (E:=E124) (A:=A124) ⟨o123,⟨o121,tv,tv⟩,tv⟩ Tryz.func285 g124 (by kernel_rfl) fun x=>by kernel_rfl
def g125:Sig:=⟨⟨bt 0 [.konst (.ptr 0 0)],[B1],[]⟩,.tup [],[B1],[(0,1,3),(0,18,33)],false,false,[],[]⟩
def E125:Tr Sem1:=(.nd 281 (g118.sem bv) (.nd 165 (FY.sem bx) (.nd 154 (g122.sem cI) (.nd 152 (g117.sem eE) .lf .lf) .lf) (.nd 280 (g115.sem aN) (.nd 274 (FX.sem aK) .lf .lf) .lf)) (.nd 284 (g120.sem aU) (.nd 283 (g123.sem bq) (.nd 282 (g121.sem aS) .lf .lf) .lf) (.nd 285 (g124.sem cw) .lf .lf)))
def A125:Anns:=⟨.lf,(.nd 410 ⟨[(0,(.konst (.ptr 0 0))),(2,(.konst (.ptr 0 15))),(26,(.int .i64)),(205,.bool)],[(B0)],[]⟩ (.nd 394 ⟨[(2,(.konst (.ptr 0 15))),(5,(.int .i64))],[(B0)],[]⟩ .lf .lf) .lf),[]⟩
theorem o125:OK 216 (g125.sem cx):=tk (E:=E125) (A:=A125) ⟨o118,⟨o119,⟨o122,⟨o117,tv,tv⟩,tv⟩,⟨o115,⟨o101,tv,tv⟩,tv⟩⟩,⟨o120,⟨o123,⟨o121,tv,tv⟩,tv⟩,⟨o124,tv,tv⟩⟩⟩ Tryz.func216 g125 (by kernel_rfl) fun x=>by kernel_rfl
def g126:Sig:=⟨⟨bt 0 [.str,.int .i64],[],[]⟩,.tup [.el .ins,.int .i64],[],[],false,false,[],[]⟩
def E126:Tr Sem1:=(.nd 214 (g113.sem c9) (.nd 213 (g109.sem cl) (.nd 212 (g103.sem cy) .lf .lf) .lf) (.nd 216 (g125.sem cx) (.nd 215 (g116.sem du) .lf .lf) .lf))
def A126:Anns:=⟨(.nd 0 (.unroll 6) .lf .lf),(.nd 94 ⟨[(1,(.int .i64)),(4,(.konst (.ptr 0 0))),(6,(.konst (.ptr 1 0))),(47,.bool)],[(B2),(B0)],[]⟩ .lf .lf),[]⟩
theorem o126:OK 138 (g126.sem gJ):=tk (E:=E126) (A:=A126) ⟨o113,⟨o109,⟨o103,tv,tv⟩,tv⟩,⟨o125,⟨o116,tv,tv⟩,tv⟩⟩ Tryz.func138 g126 (by kernel_rfl) fun x=>by kernel_rfl
def FZ:Sig:=⟨⟨bt 0 [.int .i64],[],[]⟩,.one (.bool),[],[],false,false,[],[]⟩
def E127:Tr Sem1:=(.nd 58 (g86.sem ax) .lf .lf)
theorem o127:OK 156 (FZ.sem aF):=tk (E:=E127) (A:=AN) ⟨o86,tv,tv⟩ Tryz.func156 FZ (by kernel_rfl) fun x=>by kernel_rfl
def rF:Sig:=⟨⟨bt 0 [.int .i64,.int .i64],[],[]⟩,.one (.int .i64),[],[],false,false,[],[]⟩
theorem tN:OK 183 (rF.sem ae):=tk (E:=Tr.lf) (A:=AN) tv Tryz.func183 rF (by kernel_rfl) fun x=>by kernel_rfl
def E129:Tr Sem1:=(.nd 183 (rF.sem ae) (.nd 156 (FZ.sem aF) .lf .lf) .lf)
def I129:Sem1:=Bn E129 TT AN 1000000 Tryz.f169 false []
theorem o129:OK 169 I129:=in_ok ⟨tok,eqs,Tr.All.get (t:=E129) ⟨tN,⟨o127,tv,tv⟩,tv⟩,mix⟩ Tryz.func169 (by kernel_rfl) (by kernel_rfl) false []
def I130:Sem1:=Bn Tr.lf TT AN 1000000 Tryz.f57 false []
theorem o130:OK 57 I130:=in_ok ⟨tok,eqs,Tr.All.get (t:=Tr.lf) tv,mix⟩ Tryz.func57 (by kernel_rfl) (by kernel_rfl) false []
def g131:Sig:=⟨⟨bt 0 [.agg [.list .page],.int .i64,.int .i64],[],[]⟩,.tup [.int .i64,.int .i64],[],[],false,false,[],[]⟩
def E131:Tr Sem1:=(.nd 211 (g96.sem bQ) (.nd 210 (g95.sem bj) .lf .lf) (.nd 298 (g100.sem fg) .lf .lf))
theorem o131:OK 237 (g131.sem dC):=tk (E:=E131) (A:=AN) ⟨o96,⟨o95,tv,tv⟩,⟨o100,tv,tv⟩⟩ Tryz.func237 g131 (by kernel_rfl) fun x=>by kernel_rfl
def g132:Sig:=⟨⟨bt 0 [.konst (.ptr 0 0),.int .i64,.int .i64],[B8,.row .page,.row .acc],[]⟩,.one (.int .i64),[B9,.konst .gone,.konst .gone,.row .page,.row .acc],[(1,0,big),(2,0,big),(0,3,4),(0,5,7)],false,false,[(0,4,.page),(0,6,.acc)],[1,2]⟩
def E132:Tr Sem1:=(.nd 237 (g131.sem dC) .lf .lf)
def A132:Anns:=⟨.lf,.lf,[(0,4,.page),(0,6,.acc)]⟩
theorem o132:OK 177 (g132.sem aL):=tk (E:=E132) (A:=A132) ⟨o131,tv,tv⟩ Tryz.func177 g132 (by kernel_rfl) fun x=>by kernel_rfl
def g133:Sig:=⟨⟨bt 0 [.konst (.ptr 0 0),V12,.int .i64],[B8,.row .page,.row .acc],[]⟩,.one (.int .i64),[B9,.konst .gone,.konst .gone,.row .page,.row .acc],[(1,0,big),(2,0,big),(0,3,4),(0,5,7)],false,false,[(0,4,.page),(0,6,.acc)],[1,2]⟩
def E133:Tr Sem1:=(.nd 169 I129 (.nd 156 (FZ.sem aF) (.nd 57 I130 .lf .lf) .lf) (.nd 183 (rF.sem ae) (.nd 177 (g132.sem aL) .lf .lf) .lf))
def A133:Anns:=⟨.lf,.lf,[(0,4,.page),(0,6,.acc)]⟩
theorem o133:OK 164 (g133.sem aw):=tk (E:=E133) (A:=A133) ⟨o129,⟨o127,⟨o130,tv,tv⟩,tv⟩,⟨tN,⟨o132,tv,tv⟩,tv⟩⟩ Tryz.func164 g133 (by kernel_rfl) fun x=>by kernel_rfl
def g134:Sig:=⟨⟨bt 0 [.int .i64,.int .i64],[],[]⟩,.one (.str),[],[],false,false,[],[]⟩
def A134:Anns:=⟨(.nd 0 (.loop ⟨[(0,(.int .i64)),(5,(.konst (.vec 0))),(10,(.int .i64)),(11,(.int .i64))],[(.row .u)],[]⟩) .lf .lf),.lf,[]⟩
theorem o134:OK 297 (g134.sem gL):=tk (E:=Tr.lf) (A:=A134) tv Tryz.func297 g134 (by kernel_rfl) fun x=>by kernel_rfl
def g135:Sig:=⟨⟨bt 0 [.agg [.list .page],.int .i64,.str],[],[]⟩,.one (.agg [.konst (.vec 0)]),[.row .page],[],false,true,[(6,1,.page)],[]⟩
def E135:Tr Sem1:=(.nd 272 (g94.sem bA) (.nd 82 (g91.sem bg) .lf .lf) .lf)
def A135:Anns:=⟨(.nd 0 (.loop ⟨[(1,(.int .i64)),(2,.str),(3,(.konst (.ptr 0 0))),(6,(.konst (.ptr 1 0))),(7,(.konst (.ptr 2 0)))],[(.var [(.list .page)]),(.var [(.konst .nils)]),(.var [(.konst (.vec 3))]),(.row .page)],[]⟩) .lf .lf),.lf,[]⟩
theorem o135:OK 296 (g135.sem dZ):=tk (E:=E135) (A:=A135) ⟨o94,⟨o91,tv,tv⟩,tv⟩ Tryz.func296 g135 (by kernel_rfl) fun x=>by kernel_rfl
def g136:Sig:=⟨⟨bt 0 [.agg [.list .page],.int .i64,.int .i64,.int .i64],[],[]⟩,.tup [.agg [.konst (.vec 0)],.int .i64],[.row .page],[],false,true,[(8,1,.page)],[]⟩
def E136:Tr Sem1:=(.nd 296 (g135.sem dZ) (.nd 210 (g95.sem bj) (.nd 82 (g91.sem bg) .lf .lf) .lf) (.nd 297 (g134.sem gL) .lf .lf))
theorem o136:OK 236 (g136.sem ch):=tk (E:=E136) (A:=AN) ⟨o135,⟨o95,⟨o91,tv,tv⟩,tv⟩,⟨o134,tv,tv⟩⟩ Tryz.func236 g136 (by kernel_rfl) fun x=>by kernel_rfl
def g137:Sig:=⟨⟨bt 0 [.konst (.ptr 0 0),.int .i64,.int .i64,.int .i64],[B8,.row .page,.row .acc],[]⟩,.tup [],[B9,.konst .gone,.konst .gone,.row .page,.row .acc],[(1,0,big),(2,0,big),(0,3,4),(0,5,7)],false,false,[(0,4,.page),(0,6,.acc)],[1,2]⟩
def E137:Tr Sem1:=(.nd 236 (g136.sem ch) (.nd 183 (rF.sem ae) .lf .lf) .lf)
def A137:Anns:=⟨.lf,.lf,[(0,4,.page),(0,6,.acc)]⟩
theorem o137:OK 176 (g137.sem aC):=tk (E:=E137) (A:=A137) ⟨o136,⟨tN,tv,tv⟩,tv⟩ Tryz.func176 g137 (by kernel_rfl) fun x=>by kernel_rfl
def E138:Tr Sem1:=(.nd 183 (rF.sem ae) (.nd 156 (FZ.sem aF) .lf .lf) .lf)
def I138:Sem1:=Bn E138 TT AN 1000000 Tryz.f168 false [(0,0,1)]
theorem o138:OK 168 I138:=in_ok ⟨tok,eqs,Tr.All.get (t:=E138) ⟨tN,⟨o127,tv,tv⟩,tv⟩,mix⟩ Tryz.func168 (by kernel_rfl) (by kernel_rfl) false [(0,0,1)]
def g139:Sig:=⟨⟨bt 0 [.konst (.ptr 0 0),V12,.int .i64,.int .i64],[B8,.row .page,.row .acc],[]⟩,.tup [],[B9,.konst .gone,.konst .gone,.row .page,.row .acc],[(1,0,big),(2,0,big),(0,0,1),(0,3,4),(0,5,7)],false,false,[(0,4,.page),(0,6,.acc)],[1,2]⟩
def E139:Tr Sem1:=(.nd 168 I138 (.nd 156 (FZ.sem aF) (.nd 57 I130 .lf .lf) .lf) (.nd 183 (rF.sem ae) (.nd 176 (g137.sem aC) .lf .lf) .lf))
def A139:Anns:=⟨.lf,.lf,[(0,4,.page),(0,6,.acc)]⟩
theorem o139:OK 163 (g139.sem ap):=tk (E:=E139) (A:=A139) ⟨o138,⟨o127,⟨o130,tv,tv⟩,tv⟩,⟨tN,⟨o137,tv,tv⟩,tv⟩⟩ Tryz.func163 g139 (by kernel_rfl) fun x=>by kernel_rfl
def g140:Sig:=⟨⟨bt 0 [.int .i64,.konst (.ptr 0 0)],[.var [.int .i64]],[]⟩,.one (.bool),[.var [.int .i64]],[],false,false,[],[]⟩
theorem o140:OK 229 (g140.sem bK):=tk (E:=Tr.lf) (A:=AN) tv Tryz.func229 g140 (by kernel_rfl) fun x=>by kernel_rfl
def g141:Sig:=⟨⟨bt 0 [.int .i64,.int .i64],[],[]⟩,.one (.bool),[],[],false,false,[],[]⟩
def E141:Tr Sem1:=(.nd 229 (g140.sem bK) .lf .lf)
theorem o141:OK 167 (g141.sem S_impl_holds):=tk (E:=E141) (A:=AN) ⟨o140,tv,tv⟩ Tryz.func167 g141 (by kernel_rfl) fun x=>by kernel_rfl
def DY:Sig:=⟨⟨bt 0 [.bool,.int .i64],[],[]⟩,.one (.int .i64),[],[],false,false,[],[]⟩
theorem o142:OK 166 (DY.sem bk):=tk (E:=Tr.lf) (A:=AN) tv Tryz.func166 DY (by kernel_rfl) fun x=>by kernel_rfl
def g143:Sig:=⟨⟨bt 0 [.konst (.ptr 0 0),.el .ins],[B8,.row .page,.row .acc],[]⟩,.tup [],[B9,.konst .gone,.konst .gone,.row .page,.row .acc],[(1,0,big),(2,0,big),(0,0,1),(0,3,4),(0,5,7)],false,false,[(0,4,.page),(0,6,.acc)],[1,2]⟩
def E143:Tr Sem1:=(.nd 166 (DY.sem bk) (.nd 163 (g139.sem ap) (.nd 156 (FZ.sem aF) (.nd 57 I130 .lf .lf) .lf) (.nd 165 (FY.sem bx) (.nd 164 (g133.sem aw) .lf .lf) .lf)) (.nd 169 I129 (.nd 168 I138 (.nd 167 (g141.sem S_impl_holds) .lf .lf) .lf) (.nd 183 (rF.sem ae) .lf .lf)))
def A143:Anns:=⟨.lf,(.nd 262 ⟨[(0,(.konst (.ptr 0 0))),(3,(.konst (.ptr 5 0))),(6,(.int .i64))],[(B3),(.konst .gone),(.konst .gone),(.row .page),(.row .acc),(B2)],[]⟩ .lf .lf),[(0,4,.page),(0,6,.acc)]⟩
theorem o143:OK 114 (g143.sem aA):=tk (E:=E143) (A:=A143) ⟨o142,⟨o139,⟨o127,⟨o130,tv,tv⟩,tv⟩,⟨o119,⟨o133,tv,tv⟩,tv⟩⟩,⟨o129,⟨o138,⟨o141,tv,tv⟩,tv⟩,⟨tN,tv,tv⟩⟩⟩ Tryz.func114 g143 (by kernel_rfl) fun x=>by kernel_rfl
def g144:Sig:=⟨⟨bt 0 [.int .i64],[],[]⟩,.one (.int .i64),[],[],false,false,[],[]⟩
theorem o144:OK 170 (g144.sem iE):=tk (E:=Tr.lf) (A:=AN) tv Tryz.func170 g144 (by kernel_rfl) fun x=>by kernel_rfl
def g145:Sig:=⟨⟨bt 0 [.int .u64,.int .u64],[],[]⟩,.tup [.int .u64,.int .u64],[],[],false,false,[],[]⟩
theorem o145:OK 293 (g145.sem ec):=tk (E:=Tr.lf) (A:=AN) tv Tryz.func293 g145 (by kernel_rfl) fun x=>by kernel_rfl
def g146:Sig:=⟨⟨bt 0 [.int .i64,.int .i64],[],[]⟩,.tup [.int .i64,.int .i64],[],[],false,false,[],[]⟩
def E146:Tr Sem1:=(.nd 293 (g145.sem ec) .lf .lf)
theorem o146:OK 230 (g146.sem dM):=tk (E:=E146) (A:=AN) ⟨o145,tv,tv⟩ Tryz.func230 g146 (by kernel_rfl) fun x=>by kernel_rfl
def g147:Sig:=⟨⟨bt 0 [.int .i64,.int .i64],[],[]⟩,.one (.int .i64),[],[],false,false,[],[]⟩
def E147:Tr Sem1:=(.nd 230 (g146.sem dM) .lf .lf)
def A147:Anns:=⟨.lf,(.nd 28 ⟨[(0,(.int .i64)),(1,(.int .i64)),(5,(.int .i64))],[],[]⟩ .lf .lf),[]⟩
theorem o147:OK 231 (g147.sem d8):=tk (E:=E147) (A:=A147) ⟨o146,tv,tv⟩ Tryz.func231 g147 (by kernel_rfl) fun x=>by kernel_rfl
def g148:Sig:=⟨⟨bt 0 [.int .i64,.int .i64,.int .i64,.int .i64,.int .i64],[],[]⟩,.tup [.int .i64,.int .i64,.int .i64],[],[],false,false,[],[]⟩
def E148:Tr Sem1:=(.nd 183 (rF.sem ae) (.nd 166 (DY.sem bk) (.nd 165 (FY.sem bx) .lf .lf) .lf) (.nd 231 (g147.sem d8) (.nd 230 (g146.sem dM) .lf .lf) .lf))
def A148:Anns:=⟨.lf,(.nd 111 ⟨[(1,(.int .i64)),(4,(.int .i64)),(13,.bool),(16,(.int .i64)),(17,(.int .i64))],[],[]⟩ (.nd 85 ⟨[(1,(.int .i64)),(4,(.int .i64)),(13,.bool),(16,(.int .i64)),(17,(.int .i64))],[],[]⟩ (.nd 54 ⟨[(1,(.int .i64)),(4,(.int .i64)),(13,.bool),(14,(.int .i64)),(15,(.int .i64))],[],[]⟩ .lf .lf) .lf) (.nd 132 ⟨[(4,(.int .i64)),(16,(.int .i64)),(17,(.int .i64)),(18,.bool)],[],[]⟩ .lf .lf)),[]⟩
theorem o148:OK 171 (g148.sem dw):=tk (E:=E148) (A:=A148) ⟨tN,⟨o142,⟨o119,tv,tv⟩,tv⟩,⟨o147,⟨o146,tv,tv⟩,tv⟩⟩ Tryz.func171 g148 (by kernel_rfl) fun x=>by kernel_rfl
def g149:Sig:=⟨⟨bt 0 [.int .i64,.int .i64,.int .i64,.bool],[],[]⟩,.tup [.int .i64,.int .i64],[],[],false,false,[],[]⟩
def E149:Tr Sem1:=(.nd 183 (rF.sem ae) (.nd 165 (FY.sem bx) .lf .lf) .lf)
theorem o149:OK 232 (g149.sem gK):=tk (E:=E149) (A:=AN) ⟨tN,⟨o119,tv,tv⟩,tv⟩ Tryz.func232 g149 (by kernel_rfl) fun x=>by kernel_rfl
theorem o150:OK 294 vI:=Fy Tryz.func294 (by kernel_rfl) (by kernel_rfl) (by kernel_rfl) (by kernel_rfl)
def g151:Sig:=⟨⟨bt 0 [.int .i64,.int .i64],[],[]⟩,.tup [.int .i64,.int .i64],[],[],false,false,[],[]⟩
def E151:Tr Sem1:=(.nd 294 vI .lf .lf)
theorem o151:OK 233 (g151.sem fe):=tk (E:=E151) (A:=AN) ⟨o150,tv,tv⟩ Tryz.func233 g151 (by kernel_rfl) fun x=>by kernel_rfl
def g152:Sig:=⟨⟨bt 0 [.int .i64,.int .i64],[],[]⟩,.one (.bool),[],[],false,false,[],[]⟩
theorem o152:OK 235 (g152.sem db):=tk (E:=Tr.lf) (A:=AN) tv Tryz.func235 g152 (by kernel_rfl) fun x=>by kernel_rfl
def g153:Sig:=⟨⟨bt 0 [.int .u64],[],[]⟩,.one (.int .i64),[],[],false,false,[],[]⟩
def A153:Anns:=⟨.lf,(.nd 16 ⟨[(0,(.int .u64)),(2,(.int .i64))],[],[]⟩ (.nd 8 ⟨[(0,(.int .u64)),(2,(.int .i64))],[],[]⟩ .lf .lf) (.nd 28 ⟨[(0,(.int .u64)),(2,(.int .i64))],[],[]⟩ .lf .lf)),[]⟩
theorem o153:OK 312 (g153.sem bX):=tk (E:=Tr.lf) (A:=A153) tv Tryz.func312 g153 (by kernel_rfl) fun x=>by kernel_rfl
def g154:Sig:=⟨⟨bt 0 [.int .u64],[],[]⟩,.one (.int .i64),[],[],false,false,[],[]⟩
def E154:Tr Sem1:=(.nd 312 (g153.sem bX) .lf .lf)
theorem o154:OK 330 (g154.sem b9):=tk (E:=E154) (A:=AN) ⟨o153,tv,tv⟩ Tryz.func330 g154 (by kernel_rfl) fun x=>by kernel_rfl
def g155:Sig:=⟨⟨bt 0 [.int .u64,.int .u64,.int .u64],[],[]⟩,.tup [.int .u64,.int .u64],[],[],false,false,[],[]⟩
def E155:Tr Sem1:=(.nd 330 (g154.sem b9) .lf .lf)
def A155:Anns:=⟨(.nd 2 (.loop ⟨[(2,(.int .u64)),(8,(.int .u64)),(9,(.int .u64)),(10,(.int .u64)),(14,(.int .u64)),(15,(.int .u64)),(16,(.int .u64)),(17,(.int .u64)),(18,(.int .u64))],[],[]⟩) (.nd 0 (.loop ⟨[(2,(.int .u64)),(8,(.int .u64)),(9,(.int .u64)),(10,(.int .u64)),(11,(.int .u64)),(13,(.int .u64)),(14,(.int .u64)),(15,(.int .u64)),(16,(.int .u64))],[],[]⟩) .lf .lf) .lf),(.nd 48 ⟨[(0,(.int .u64)),(1,(.int .u64)),(2,(.int .u64))],[],[]⟩ (.nd 40 ⟨[(0,(.int .u64)),(1,(.int .u64)),(2,(.int .u64))],[],[]⟩ .lf .lf) .lf),[]⟩
theorem o155:OK 295 (g155.sem d9):=tk (E:=E155) (A:=A155) ⟨o154,tv,tv⟩ Tryz.func295 g155 (by kernel_rfl) fun x=>by kernel_rfl
def g156:Sig:=⟨⟨bt 0 [.int .i64,.int .i64,.int .i64],[],[]⟩,.tup [.int .i64,.int .i64,.int .i64],[],[],false,false,[],[]⟩
def E156:Tr Sem1:=(.nd 295 (g155.sem d9) (.nd 235 (g152.sem db) .lf .lf) .lf)
theorem o156:OK 234 (g156.sem dY):=tk (E:=E156) (A:=AN) ⟨o155,⟨o152,tv,tv⟩,tv⟩ Tryz.func234 g156 (by kernel_rfl) fun x=>by kernel_rfl
def g157:Sig:=⟨⟨bt 0 [.int .i64,.int .i64,.int .i64,.int .i64,.int .i64],[],[]⟩,.tup [.int .i64,.int .i64,.bool],[],[],false,false,[],[]⟩
def E157:Tr Sem1:=(.nd 233 (g151.sem fe) (.nd 183 (rF.sem ae) (.nd 165 (FY.sem bx) .lf .lf) (.nd 232 (g149.sem gK) .lf .lf)) (.nd 235 (g152.sem db) (.nd 234 (g156.sem dY) .lf .lf) .lf))
def A157:Anns:=⟨.lf,(.nd 106 ⟨[(1,(.int .i64)),(2,(.int .i64)),(3,(.int .i64)),(4,(.int .i64)),(13,.bool),(14,.bool),(15,.bool)],[],[]⟩ (.nd 84 ⟨[(1,(.int .i64)),(2,(.int .i64)),(3,(.int .i64)),(4,(.int .i64)),(13,.bool),(14,.bool),(15,.bool)],[],[]⟩ (.nd 66 ⟨[(1,(.int .i64)),(2,(.int .i64)),(3,(.int .i64)),(4,(.int .i64)),(13,.bool)],[],[]⟩ .lf .lf) .lf) (.nd 190 ⟨[(1,(.int .i64)),(16,(.int .i64)),(17,(.int .i64))],[],[]⟩ (.nd 171 ⟨[(1,(.int .i64)),(14,.bool),(16,(.int .i64)),(17,(.int .i64))],[],[]⟩ .lf .lf) .lf)),[]⟩
theorem o157:OK 172 (g157.sem fD):=tk (E:=E157) (A:=A157) ⟨o151,⟨tN,⟨o119,tv,tv⟩,⟨o149,tv,tv⟩⟩,⟨o152,⟨o156,tv,tv⟩,tv⟩⟩ Tryz.func172 g157 (by kernel_rfl) fun x=>by kernel_rfl
def g158:Sig:=⟨⟨bt 0 [.konst (.ptr 0 0),.el .ins],[B8,.row .page,.row .acc],[]⟩,.tup [],[B9,.konst .gone,.konst .gone,.row .page,.row .acc],[(1,0,big),(2,0,big),(0,0,1),(0,2,3),(0,3,4),(0,5,7)],false,false,[(0,4,.page),(0,6,.acc)],[1,2]⟩
def E158:Tr Sem1:=(.nd 170 (g144.sem iE) (.nd 168 I138 (.nd 164 (g133.sem aw) (.nd 156 (FZ.sem aF) .lf .lf) .lf) (.nd 169 I129 .lf .lf)) (.nd 172 (g157.sem fD) (.nd 171 (g148.sem dw) .lf .lf) (.nd 183 (rF.sem ae) .lf .lf)))
def A158:Anns:=⟨.lf,(.nd 186 ⟨[(3,(.konst (.ptr 5 0))),(5,(.konst (.ptr 0 0))),(6,(.int .i64)),(10,(.int .i64)),(11,(.int .i64))],[(B3),(.konst .gone),(.konst .gone),(.row .page),(.row .acc),(B2)],[]⟩ .lf .lf),[(0,4,.page),(0,6,.acc)]⟩
theorem o158:OK 115 (g158.sem cM):=tk (E:=E158) (A:=A158) ⟨o144,⟨o138,⟨o133,⟨o127,tv,tv⟩,tv⟩,⟨o129,tv,tv⟩⟩,⟨o157,⟨o148,tv,tv⟩,⟨tN,tv,tv⟩⟩⟩ Tryz.func115 g158 (by kernel_rfl) fun x=>by kernel_rfl
def g159:Sig:=⟨⟨bt 0 [.konst (.ptr 0 0),.int .i64],[B8,.row .page,.row .acc],[]⟩,.tup [],[B9,.konst .gone,.konst .gone,.row .page,.row .acc],[(1,0,big),(2,0,big),(0,0,1),(0,3,4),(0,5,7)],false,false,[(0,4,.page),(0,6,.acc)],[1,2]⟩
def E159:Tr Sem1:=(.nd 176 (g137.sem aC) .lf .lf)
def A159:Anns:=⟨.lf,.lf,[(0,4,.page),(0,6,.acc)]⟩
theorem o159:OK 173 (g159.sem ci):=tk (E:=E159) (A:=A159) ⟨o137,tv,tv⟩ Tryz.func173 g159 (by kernel_rfl) fun x=>by kernel_rfl
def g160:Sig:=⟨⟨bt 0 [.konst (.ptr 0 0)],[B8,.row .page,.row .acc],[]⟩,.one (.int .i64),[B9,.konst .gone,.konst .gone,.row .page,.row .acc],[(1,0,big),(2,0,big),(0,0,1),(0,3,4),(0,5,7)],false,false,[(0,4,.page),(0,6,.acc)],[1,2]⟩
def E160:Tr Sem1:=(.nd 177 (g132.sem aL) .lf .lf)
def A160:Anns:=⟨.lf,.lf,[(0,4,.page),(0,6,.acc)]⟩
theorem o160:OK 174 (g160.sem cz):=tk (E:=E160) (A:=A160) ⟨o132,tv,tv⟩ Tryz.func174 g160 (by kernel_rfl) fun x=>by kernel_rfl
def g161:Sig:=⟨⟨bt 0 [.konst (.ptr 0 0),.el .ins],[B8,.row .page,.row .acc],[]⟩,.one (.int .i64),[B9,.konst .gone,.konst .gone,.row .page,.row .acc],[(1,0,big),(2,0,big),(0,3,4),(0,5,7)],false,false,[(0,4,.page),(0,6,.acc)],[1,2]⟩
def E161:Tr Sem1:=(.nd 164 (g133.sem aw) .lf .lf)
def A161:Anns:=⟨.lf,.lf,[(0,4,.page),(0,6,.acc)]⟩
theorem o161:OK 175 (g161.sem bw):=tk (E:=E161) (A:=A161) ⟨o133,tv,tv⟩ Tryz.func175 g161 (by kernel_rfl) fun x=>by kernel_rfl
def g162:Sig:=⟨⟨bt 0 [.konst (.ptr 0 0),.el .ins],[B8,.row .page,.row .acc],[]⟩,.tup [],[B9,.konst .gone,.konst .gone,.row .page,.row .acc],[(1,0,big),(2,0,big),(0,0,2),(0,3,4),(0,5,7)],false,false,[(0,4,.page),(0,6,.acc)],[1,2]⟩
def E162:Tr Sem1:=(.nd 174 (g160.sem cz) (.nd 167 (g141.sem S_impl_holds) (.nd 164 (g133.sem aw) (.nd 163 (g139.sem ap) .lf .lf) .lf) (.nd 173 (g159.sem ci) .lf .lf)) (.nd 176 (g137.sem aC) (.nd 175 (g161.sem bw) .lf .lf) (.nd 177 (g132.sem aL) .lf .lf)))
def A162:Anns:=⟨.lf,(.nd 276 ⟨[(0,(.konst (.ptr 0 0))),(138,.bool)],[(B3),(.konst .gone),(.konst .gone),(.row .page),(.row .acc)],[]⟩ .lf .lf),[(0,4,.page),(0,6,.acc)]⟩
theorem o162:OK 116 (g162.sem an):=tk (E:=E162) (A:=A162) ⟨o160,⟨o141,⟨o133,⟨o139,tv,tv⟩,tv⟩,⟨o159,tv,tv⟩⟩,⟨o137,⟨o161,tv,tv⟩,⟨o132,tv,tv⟩⟩⟩ Tryz.func116 g162 (by kernel_rfl) fun x=>by kernel_rfl
def g163:Sig:=⟨⟨bt 0 [.int .i64],[],[]⟩,.one (.bool),[],[],false,false,[],[]⟩
def E163:Tr Sem1:=(.nd 58 (g86.sem ax) .lf .lf)
theorem o163:OK 102 (g163.sem cQ):=tk (E:=E163) (A:=AN) ⟨o86,tv,tv⟩ Tryz.func102 g163 (by kernel_rfl) fun x=>by kernel_rfl
def g164:Sig:=⟨⟨bt 0 [.el .ins],[],[]⟩,.one (.int .i64),[],[],false,false,[],[]⟩
def E164:Tr Sem1:=(.nd 102 (g163.sem cQ) .lf .lf)
theorem o164:OK 100 (g164.sem fS):=tk (E:=E164) (A:=AN) ⟨o163,tv,tv⟩ Tryz.func100 g164 (by kernel_rfl) fun x=>by kernel_rfl
def g165:Sig:=⟨⟨bt 0 [.int .i64],[],[]⟩,.one (.bool),[],[],false,false,[],[]⟩
def E165:Tr Sem1:=(.nd 58 (g86.sem ax) .lf .lf)
theorem o165:OK 178 (g165.sem iB):=tk (E:=E165) (A:=AN) ⟨o86,tv,tv⟩ Tryz.func178 g165 (by kernel_rfl) fun x=>by kernel_rfl
theorem o166:OK 299 xG:=Dw Tryz.func299 (by kernel_rfl) (by kernel_rfl) (by kernel_rfl) (by kernel_rfl)
def g167:Sig:=⟨⟨bt 0 [.int .i64,.int .i64],[],[]⟩,.one (.bool),[],[],false,false,[],[]⟩
theorem o167:OK 300 (g167.sem dj):=tk (E:=Tr.lf) (A:=AN) tv Tryz.func300 g167 (by kernel_rfl) fun x=>by kernel_rfl
def g168:Sig:=⟨⟨bt 0 [.int .u8],[],[]⟩,.one (.int .i64),[],[],false,false,[],[]⟩
theorem o168:OK 301 (g168.sem cK):=tk (E:=Tr.lf) (A:=AN) tv Tryz.func301 g168 (by kernel_rfl) fun x=>by kernel_rfl
def g169:Sig:=⟨⟨bt 0 [.int .i64,.int .i64],[],[]⟩,.one (.int .i64),[],[],false,false,[],[]⟩
def E169:Tr Sem1:=(.nd 300 (g167.sem dj) (.nd 183 (rF.sem ae) (.nd 166 (DY.sem bk) .lf .lf) .lf) (.nd 301 (g168.sem cK) .lf .lf))
theorem o169:OK 240 (g169.sem bV):=tk (E:=E169) (A:=AN) ⟨o167,⟨tN,⟨o142,tv,tv⟩,tv⟩,⟨o168,tv,tv⟩⟩ Tryz.func240 g169 (by kernel_rfl) fun x=>by kernel_rfl
def g170:Sig:=⟨⟨bt 0 [.int .i64,.int .i64,.int .i64,.int .i64],[],[]⟩,.tup [.int .i64,.int .i64],[],[],false,false,[],[]⟩
def E170:Tr Sem1:=(.nd 240 (g169.sem bV) (.nd 183 (rF.sem ae) (.nd 166 (DY.sem bk) .lf .lf) .lf) (.nd 300 (g167.sem dj) (.nd 299 xG .lf .lf) .lf))
def A170:Anns:=⟨.lf,(.nd 54 ⟨[(0,(.int .i64)),(1,(.int .i64)),(2,(.int .i64)),(10,(.int .u64)),(12,.bool)],[],[]⟩ .lf .lf),[]⟩
theorem o170:OK 238 (g170.sem gD):=tk (E:=E170) (A:=A170) ⟨o169,⟨tN,⟨o142,tv,tv⟩,tv⟩,⟨o167,⟨o166,tv,tv⟩,tv⟩⟩ Tryz.func238 g170 (by kernel_rfl) fun x=>by kernel_rfl
def g171:Sig:=⟨⟨bt 0 [.int .i64,.int .i64,.int .i64,.int .i64],[],[]⟩,.tup [.int .i64,.int .i64],[],[],false,false,[],[]⟩
def E171:Tr Sem1:=(.nd 240 (g169.sem bV) (.nd 183 (rF.sem ae) (.nd 166 (DY.sem bk) .lf .lf) .lf) (.nd 300 (g167.sem dj) (.nd 294 vI .lf .lf) .lf))
theorem o171:OK 239 (g171.sem bJ):=tk (E:=E171) (A:=AN) ⟨o169,⟨tN,⟨o142,tv,tv⟩,tv⟩,⟨o167,⟨o150,tv,tv⟩,tv⟩⟩ Tryz.func239 g171 (by kernel_rfl) fun x=>by kernel_rfl
def g172:Sig:=⟨⟨bt 0 [.int .i64,.int .i64,.int .i64,.int .i64,.int .i64],[],[]⟩,.tup [.int .i64,.int .i64],[],[],false,false,[],[]⟩
def E172:Tr Sem1:=(.nd 239 (g171.sem bJ) (.nd 238 (g170.sem gD) (.nd 183 (rF.sem ae) .lf .lf) .lf) (.nd 240 (g169.sem bV) .lf .lf))
def A172:Anns:=⟨.lf,(.nd 157 ⟨[(1,(.int .i64)),(13,(.int .i64))],[],[]⟩ (.nd 147 ⟨[(1,(.int .i64)),(13,(.int .i64))],[],[]⟩ .lf .lf) .lf),[]⟩
theorem o172:OK 179 (g172.sem kk):=tk (E:=E172) (A:=A172) ⟨o171,⟨o170,⟨tN,tv,tv⟩,tv⟩,⟨o169,tv,tv⟩⟩ Tryz.func179 g172 (by kernel_rfl) fun x=>by kernel_rfl
def g173:Sig:=⟨⟨bt 0 [.int .i64],[],[]⟩,.one (.bool),[],[],false,false,[],[]⟩
theorem o173:OK 180 (g173.sem iC):=tk (E:=Tr.lf) (A:=AN) tv Tryz.func180 g173 (by kernel_rfl) fun x=>by kernel_rfl
def g174:Sig:=⟨⟨bt 0 [.int .i64,.int .i64,.int .i64,.int .i64],[],[]⟩,.tup [.int .i64,.int .i64],[],[],false,false,[],[]⟩
def E174:Tr Sem1:=(.nd 238 (g170.sem gD) (.nd 183 (rF.sem ae) .lf .lf) (.nd 239 (g171.sem bJ) .lf .lf))
def A174:Anns:=⟨.lf,(.nd 74 ⟨[(3,(.int .i64)),(10,(.int .i64)),(11,(.int .i64))],[],[]⟩ .lf .lf),[]⟩
theorem o174:OK 181 (g174.sem km):=tk (E:=E174) (A:=A174) ⟨o170,⟨tN,tv,tv⟩,⟨o171,tv,tv⟩⟩ Tryz.func181 g174 (by kernel_rfl) fun x=>by kernel_rfl
def g175:Sig:=⟨⟨bt 0 [.int .i64,.int .i64,.int .i64,.int .i64],[],[]⟩,.tup [.int .i64,.int .i64],[],[],false,false,[],[]⟩
def E175:Tr Sem1:=(.nd 240 (g169.sem bV) (.nd 183 (rF.sem ae) (.nd 166 (DY.sem bk) .lf .lf) .lf) (.nd 300 (g167.sem dj) .lf .lf))
def A175:Anns:=⟨.lf,(.nd 135 ⟨[(0,(.int .i64)),(1,(.int .i64)),(3,(.int .i64)),(13,(.int .i64)),(14,.bool),(15,.bool)],[],[]⟩ (.nd 97 ⟨[(0,(.int .i64)),(1,(.int .i64)),(3,(.int .i64)),(13,(.int .i64)),(14,.bool),(15,.bool)],[],[]⟩ (.nd 96 ⟨[(0,(.int .i64)),(1,(.int .i64)),(2,(.int .i64)),(3,(.int .i64)),(10,.bool),(11,.bool),(12,(.int .i64)),(14,.bool),(15,.bool),(28,(.int .i64)),(48,.bool)],[],[]⟩ .lf .lf) (.nd 112 ⟨[(0,(.int .i64)),(1,(.int .i64)),(3,(.int .i64)),(10,.bool),(13,(.int .i64))],[],[]⟩ .lf .lf)) (.nd 188 ⟨[(13,(.int .i64)),(14,.bool),(15,.bool),(16,(.int .i64))],[],[]⟩ (.nd 149 ⟨[(0,(.int .i64)),(1,(.int .i64)),(3,(.int .i64)),(13,(.int .i64)),(14,.bool),(15,.bool)],[],[]⟩ .lf .lf) .lf)),[]⟩
theorem o175:OK 241 (g175.sem eM):=tk (E:=E175) (A:=A175) ⟨o169,⟨tN,⟨o142,tv,tv⟩,tv⟩,⟨o167,tv,tv⟩⟩ Tryz.func241 g175 (by kernel_rfl) fun x=>by kernel_rfl
def g176:Sig:=⟨⟨bt 0 [.int .i64,.int .i64,.int .i64,.int .i64,.int .i64],[],[]⟩,.tup [.int .i64,.int .i64],[],[],false,false,[],[]⟩
def E176:Tr Sem1:=(.nd 183 (rF.sem ae) (.nd 166 (DY.sem bk) .lf .lf) (.nd 241 (g175.sem eM) .lf .lf))
def A176:Anns:=⟨(.nd 0 (.loop ⟨[(0,(.int .i64)),(1,(.int .i64)),(2,(.int .i64)),(4,(.int .i64)),(21,(.int .i64)),(22,(.int .i64))],[],[]⟩) .lf .lf),.lf,[]⟩
theorem o176:OK 182 (g176.sem iD):=tk (E:=E176) (A:=A176) ⟨tN,⟨o142,tv,tv⟩,⟨o175,tv,tv⟩⟩ Tryz.func182 g176 (by kernel_rfl) fun x=>by kernel_rfl
def g177:Sig:=⟨⟨bt 0 [.konst (.ptr 0 0),.el .ins],[B8,.row .page,.row .acc],[]⟩,.tup [],[B9,.konst .gone,.konst .gone,.row .page,.row .acc],[(1,0,big),(2,0,big),(0,0,1),(0,2,4),(0,5,7)],false,false,[(0,4,.page),(0,6,.acc)],[1,2]⟩
def E177:Tr Sem1:=(.nd 178 (g165.sem iB) (.nd 163 (g139.sem ap) (.nd 102 (g163.sem cQ) (.nd 100 (g164.sem fS) .lf .lf) .lf) (.nd 171 (g148.sem dw) (.nd 164 (g133.sem aw) .lf .lf) .lf)) (.nd 181 (g174.sem km) (.nd 180 (g173.sem iC) (.nd 179 (g172.sem kk) .lf .lf) .lf) (.nd 183 (rF.sem ae) (.nd 182 (g176.sem iD) .lf .lf) .lf)))
def A177:Anns:=⟨.lf,(.nd 127 ⟨[(0,(.konst (.ptr 0 0))),(3,(.konst (.ptr 5 0))),(7,(.int .i64))],[(B3),(.konst .gone),(.konst .gone),(.row .page),(.row .acc),(B2)],[]⟩ (.nd 89 ⟨[(0,(.konst (.ptr 0 0))),(3,(.konst (.ptr 5 0))),(7,(.int .i64))],[(B3),(.konst .gone),(.konst .gone),(.row .page),(.row .acc),(B2)],[]⟩ (.nd 42 ⟨[(0,(.konst (.ptr 0 0))),(3,(.konst (.ptr 5 0))),(4,(.konst (.ptr 0 17))),(5,(.int .i64)),(6,(.int .i64))],[(B3),(.konst .gone),(.konst .gone),(.row .page),(.row .acc),(B2)],[]⟩ .lf .lf) .lf) (.nd 163 ⟨[(0,(.konst (.ptr 0 0))),(3,(.konst (.ptr 5 0))),(7,(.int .i64))],[(B3),(.konst .gone),(.konst .gone),(.row .page),(.row .acc),(B2)],[]⟩ .lf .lf)),[(0,4,.page),(0,6,.acc)]⟩
theorem o177:OK 117 (g177.sem cm):=tk (E:=E177) (A:=A177) ⟨o165,⟨o139,⟨o163,⟨o164,tv,tv⟩,tv⟩,⟨o148,⟨o133,tv,tv⟩,tv⟩⟩,⟨o174,⟨o173,⟨o172,tv,tv⟩,tv⟩,⟨tN,⟨o176,tv,tv⟩,tv⟩⟩⟩ Tryz.func117 g177 (by kernel_rfl) fun x=>by kernel_rfl
def g178:Sig:=⟨⟨bt 0 [.agg [.arr .i 16,.int .i64,.int .i64],.agg [.list .page],.el .ins],[],[]⟩,.tup [.agg [.arr .i 16,.int .i64,.int .i64],.agg [.konst (.vec 0)],.konst (.vec 1),.int .i64],[.row .page,.row .acc],[],false,true,[(7,1,.page),(8,0,.acc)],[]⟩
def E178:Tr Sem1:=(.nd 115 (g158.sem cM) (.nd 114 (g143.sem aA) (.nd 82 (g91.sem bg) .lf .lf) .lf) (.nd 117 (g177.sem cm) (.nd 116 (g162.sem an) .lf .lf) .lf))
def A178:Anns:=⟨.lf,(.nd 95 ⟨[(3,(.konst (.ptr 0 0))),(4,(.konst (.ptr 1 0))),(6,(.konst (.ptr 2 0))),(7,(.konst (.ptr 3 0))),(10,(.konst (.ptr 4 0)))],[(B17),(.var [(.list .page)]),(B17),(.var [(.konst .nils)]),(B4),(.row .page),(.row .acc)],[]⟩ (.nd 69 ⟨[(3,(.konst (.ptr 0 0))),(4,(.konst (.ptr 1 0))),(6,(.konst (.ptr 2 0))),(7,(.konst (.ptr 3 0))),(10,(.konst (.ptr 4 0)))],[(B17),(.var [(.list .page)]),(B17),(.var [(.konst .nils)]),(B4),(.row .page),(.row .acc)],[]⟩ (.nd 68 ⟨[(3,(.konst (.ptr 0 0))),(4,(.konst (.ptr 1 0))),(5,(.konst (.ptr 2 0))),(6,(.konst (.ptr 3 0))),(7,(.konst (.ptr 4 0))),(10,(.konst (.ptr 5 0))),(30,(.int .i64)),(34,.bool)],[(B17),(.var [(.list .page)]),(B2),(B17),(.var [(.konst .nils)]),(B5),(.row .page),(.row .acc)],[]⟩ .lf .lf) (.nd 94 ⟨[(3,(.konst (.ptr 0 0))),(4,(.konst (.ptr 1 0))),(5,(.konst (.ptr 2 0))),(6,(.konst (.ptr 3 0))),(7,(.konst (.ptr 4 0))),(10,(.konst (.ptr 5 0))),(30,(.int .i64)),(47,.bool)],[(B17),(.var [(.list .page)]),(B2),(B17),(.var [(.konst .nils)]),(B5),(.row .page),(.row .acc)],[]⟩ .lf .lf)) (.nd 111 ⟨[(3,(.konst (.ptr 0 0))),(4,(.konst (.ptr 1 0))),(6,(.konst (.ptr 2 0))),(7,(.konst (.ptr 3 0))),(10,(.konst (.ptr 4 0)))],[(B17),(.var [(.list .page)]),(B17),(.var [(.konst .nils)]),(B4),(.row .page),(.row .acc)],[]⟩ (.nd 110 ⟨[(3,(.konst (.ptr 0 0))),(4,(.konst (.ptr 1 0))),(5,(.konst (.ptr 2 0))),(6,(.konst (.ptr 3 0))),(7,(.konst (.ptr 4 0))),(10,(.konst (.ptr 5 0))),(55,.bool)],[(B17),(.var [(.list .page)]),(B2),(B17),(.var [(.konst .nils)]),(B5),(.row .page),(.row .acc)],[]⟩ .lf .lf) .lf)),[(20,4,.page),(20,6,.acc)]⟩
theorem o178:OK 55 (g178.sem jn):=tk (E:=E178) (A:=A178) ⟨o158,⟨o143,⟨o91,tv,tv⟩,tv⟩,⟨o177,⟨o162,tv,tv⟩,tv⟩⟩ Tryz.func55 g178 (by kernel_rfl) fun x=>by kernel_rfl
def g179:Sig:=⟨⟨bt 0 [.agg [.arr .i 16,.int .i64,.int .i64],.agg [.list .page]],[],[]⟩,.tup [.agg [.arr .i 16,.int .i64,.int .i64],.agg [.konst (.vec 0)],.konst (.vec 1),.int .i64],[.row .page,.row .acc],[],false,true,[(5,1,.page),(6,0,.acc)],[]⟩
def E179:Tr Sem1:=(.nd 137 (g97.sem fP) (.nd 82 (g91.sem bg) (.nd 55 (g178.sem jn) .lf .lf) .lf) (.nd 138 (g126.sem gJ) .lf .lf))
def A179:Anns:=⟨.lf,(.nd 50 ⟨[(2,(.konst (.ptr 0 0))),(3,(.konst (.ptr 1 0))),(4,(.konst (.ptr 2 0))),(5,(.konst (.ptr 3 0))),(9,(.int .i64)),(10,(.konst (.ptr 4 0)))],[(B17),(.var [(.list .page)]),(B17),(.var [(.konst .nils)]),(B2)],[]⟩ (.nd 44 ⟨[(2,(.konst (.ptr 0 0))),(3,(.konst (.ptr 1 0))),(4,(.konst (.ptr 2 0))),(5,(.konst (.ptr 3 0))),(8,.str),(9,(.int .i64))],[(B17),(.var [(.list .page)]),(B17),(.var [(.konst .nils)])],[]⟩ .lf .lf) .lf),[]⟩
theorem o179:OK 83 (g179.sem jp):=tk (E:=E179) (A:=A179) ⟨o97,⟨o91,⟨o178,tv,tv⟩,tv⟩,⟨o126,tv,tv⟩⟩ Tryz.func83 g179 (by kernel_rfl) fun x=>by kernel_rfl
def g180:Sig:=⟨⟨bt 0 [.agg [.arr .i 16,.int .i64,.int .i64],.agg [.list .page],.int .i64],[],[]⟩,.tup [.agg [.arr .i 16,.int .i64,.int .i64],.agg [.konst (.vec 0)],.int .i64,.int .i64],[.row .page],[],false,true,[(7,1,.page)],[]⟩
def E180:Tr Sem1:=(.nd 58 (g86.sem ax) (.nd 54 (g89.sem dr) (.nd 53 (g85.sem iA) .lf .lf) .lf) (.nd 83 (g179.sem jp) (.nd 82 (g91.sem bg) .lf .lf) .lf))
def A180:Anns:=⟨(.nd 1 (.loop ⟨[(2,(.int .i64)),(3,(.konst (.ptr 0 0))),(6,(.konst (.ptr 1 0))),(7,(.konst (.ptr 2 0))),(10,(.konst (.ptr 3 0))),(35,(.int .i64)),(36,(.int .i64))],[(B17),(B17),(.var [(.konst .nils)]),(.var [(.konst (.vec 4))]),(.row .page)],[]⟩) .lf .lf),.lf,[]⟩
theorem o180:OK 41 (g180.sem fC):=tk (E:=E180) (A:=A180) ⟨o86,⟨o89,⟨o85,tv,tv⟩,tv⟩,⟨o179,⟨o91,tv,tv⟩,tv⟩⟩ Tryz.func41 g180 (by kernel_rfl) fun x=>by kernel_rfl
def g181:Sig:=⟨⟨bt 0 [.agg [.arr .i 16],.agg [.arr .i 16]],[],[]⟩,.one (.bool),[],[],false,false,[],[]⟩
def A181:Anns:=⟨(.nd 0 (.loop ⟨[(2,(.konst (.ptr 0 0))),(3,(.konst (.ptr 1 0))),(5,(.int .i64))],[(.var [(.arr .i 16)]),(.var [(.arr .i 16)])],[]⟩) .lf .lf),.lf,[]⟩
theorem o181:OK 76 (g181.sem fi):=tk (E:=Tr.lf) (A:=A181) tv Tryz.func76 g181 (by kernel_rfl) fun x=>by kernel_rfl
def g182:Sig:=⟨⟨bt 0 [.agg [.arr .i 16,.int .i64,.int .i64],.agg [.arr .i 16,.int .i64,.int .i64]],[],[]⟩,.one (.bool),[],[],false,false,[],[]⟩
def E182:Tr Sem1:=(.nd 76 (g181.sem fi) .lf .lf)
theorem o182:OK 33 (g182.sem fh):=tk (E:=E182) (A:=AN) ⟨o181,tv,tv⟩ Tryz.func33 g182 (by kernel_rfl) fun x=>by kernel_rfl
def g183:Sig:=⟨⟨bt 0 [.el .page,.el .page],[],[]⟩,.one (.bool),[],[],false,false,[],[]⟩
theorem o183:OK 132 (g183.sem gM):=tk (E:=Tr.lf) (A:=AN) tv Tryz.func132 g183 (by kernel_rfl) fun x=>by kernel_rfl
def g184:Sig:=⟨⟨bt 0 [.list .page,.list .page],[],[]⟩,.one (.bool),[],[],false,false,[],[]⟩
def E184:Tr Sem1:=(.nd 132 (g183.sem gM) .lf .lf)
def A184:Anns:=⟨(.nd 0 (.loop ⟨[(0,(.list .page)),(1,(.list .page)),(5,(.int .i64))],[],[]⟩) .lf .lf),.lf,[]⟩
theorem o184:OK 77 (g184.sem fU):=tk (E:=E184) (A:=A184) ⟨o183,tv,tv⟩ Tryz.func77 g184 (by kernel_rfl) fun x=>by kernel_rfl
def g185:Sig:=⟨⟨bt 0 [.agg [.list .page],.agg [.list .page]],[],[]⟩,.one (.bool),[],[],false,false,[],[]⟩
def E185:Tr Sem1:=(.nd 77 (g184.sem fU) .lf .lf)
theorem o185:OK 34 (g185.sem cV):=tk (E:=E185) (A:=AN) ⟨o184,tv,tv⟩ Tryz.func34 g185 (by kernel_rfl) fun x=>by kernel_rfl
def g186:Sig:=⟨⟨bt 0 [.int .i64],[],[]⟩,.one (.str),[],[],true,false,[],[]⟩
def A186:Anns:=⟨(.nd 0 (.loop ⟨[(0,(.int .i64)),(3,.str)],[],[]⟩) .lf .lf),.lf,[]⟩
theorem o186:OK 133 (g186.sem cA):=tk (E:=Tr.lf) (A:=A186) tv Tryz.func133 g186 (by kernel_rfl) fun x=>by kernel_rfl
def g187:Sig:=⟨⟨bt 0 [.konst (.vec 0),.int .i64],[.row .page],[]⟩,.one (.int .i64),[.row .page],[(0,0,big)],true,false,[],[]⟩
def E187:Tr Sem1:=(.nd 133 (g186.sem cA) .lf .lf)
def A187:Anns:=⟨(.nd 0 (.loop ⟨[(0,(.konst (.vec 0))),(1,(.int .i64)),(5,(.int .i64))],[(.row .page)],[]⟩) .lf .lf),.lf,[]⟩
theorem o187:OK 79 (g187.sem eP):=tk (E:=E187) (A:=A187) ⟨o186,tv,tv⟩ Tryz.func79 g187 (by kernel_rfl) fun x=>by kernel_rfl
def g188:Sig:=⟨⟨bt 0 [.agg [.konst (.vec 0)],.int .i64],[.row .page],[]⟩,.one (.int .i64),[.row .page],[(0,0,big)],true,false,[],[]⟩
def E188:Tr Sem1:=(.nd 79 (g187.sem eP) .lf .lf)
theorem o188:OK 36 (g188.sem dm):=tk (E:=E188) (A:=AN) ⟨o187,tv,tv⟩ Tryz.func36 g188 (by kernel_rfl) fun x=>by kernel_rfl
def g189:Sig:=⟨⟨bt 0 [.list .page,.int .i64],[],[]⟩,.one (.int .i64),[],[],false,false,[],[]⟩
def E189:Tr Sem1:=(.nd 133 (g186.sem cA) .lf .lf)
def A189:Anns:=⟨(.nd 0 (.loop ⟨[(0,(.list .page)),(1,(.int .i64)),(5,(.int .i64))],[],[]⟩) .lf .lf),.lf,[]⟩
theorem o189:OK 80 (g189.sem eO):=tk (E:=E189) (A:=A189) ⟨o186,tv,tv⟩ Tryz.func80 g189 (by kernel_rfl) fun x=>by kernel_rfl
def g190:Sig:=⟨⟨bt 0 [.agg [.list .page],.int .i64],[],[]⟩,.one (.int .i64),[],[],false,false,[],[]⟩
def E190:Tr Sem1:=(.nd 80 (g189.sem eO) .lf .lf)
theorem o190:OK 38 (g190.sem dl):=tk (E:=E190) (A:=AN) ⟨o189,tv,tv⟩ Tryz.func38 g190 (by kernel_rfl) fun x=>by kernel_rfl
def g191:Sig:=⟨⟨bt 0 [.agg [.arr .i 16,.int .i64,.int .i64],.agg [.list .page],.int .i64],[],[]⟩,.one (.bool),[],[],false,false,[],[]⟩
def E191:Tr Sem1:=(.nd 34 (g185.sem cV) (.nd 31 (g7.sem cW) (.nd 30 (g4.sem fk) (.nd 28 (g2.sem fj) .lf .lf) .lf) (.nd 33 (g182.sem fh) .lf .lf)) (.nd 40 (g83.sem gO) (.nd 38 (g190.sem dl) (.nd 36 (g188.sem dm) .lf .lf) .lf) (.nd 41 (g180.sem fC) .lf .lf)))
theorem o191:OK 6 (g191.sem cG):=tk (E:=E191) (A:=AN) ⟨o185,⟨o7,⟨o4,⟨o2,tv,tv⟩,tv⟩,⟨o182,tv,tv⟩⟩,⟨o83,⟨o190,⟨o188,tv,tv⟩,tv⟩,⟨o180,tv,tv⟩⟩⟩ Tryz.func6 g191 (by kernel_rfl) fun x=>by kernel_rfl
end Go.Proofs.YtmpliclmlpjopaaGreat.RunCpu
