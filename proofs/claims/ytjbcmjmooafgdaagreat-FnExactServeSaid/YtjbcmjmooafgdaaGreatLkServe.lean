/- Theory for the proofs of this claim: see its last text. -/
import Derived.Test.YtjbcmjmooafgdaaGreatFnServe
import Derived.Test.YtjbcmjmooafgdaaGreatDenF
import Derived.Test.YtjbcmjmooafgdaaGreatDenH
import Derived.Test.YtjbcmjmooafgdaaGreatShl
import Derived.Test.YtjbcmjmooafgdaaGreatProg
import Derived.KernelRfl
set_option maxRecDepth 100000
set_option maxHeartbeats 4000000
set_option linter.unusedVariables false
noncomputable section
namespace Go.Proofs.YtjbcmjmooafgdaaGreat.Serve
open Go Go.Den Go.Den.G Go.Proofs Go.Proofs.YtjbcmjmooafgdaaGreat
abbrev i6:VT:= .int .i64
abbrev q0:VT:= .konst (.ptr 0 0)
abbrev q1:VT:= .konst (.ptr 1 0)
abbrev q2:VT:= .konst (.ptr 2 0)
abbrev q3:VT:= .konst (.ptr 3 0)
abbrev V4:VT:= .agg [.arr .i 16,i6,i6,.list .page,i6,i6,.str,i6,.str,i6,i6,i6,i6,i6,i6]
abbrev B3:BT:= .var [.arr .i 16,i6,i6,.konst (.vec 2),i6,i6,.str,i6,.str,i6,i6,i6,i6,i6,i6]
abbrev B2:BT:= .var [.arr .i 16,i6,i6,.konst (.vec 1),i6,i6,.str,i6,.str,i6,i6,i6,i6,i6,i6]
abbrev V1:VT:= .agg [.arr .i 16,i6,i6,.konst (.vec 0),i6,i6,.str,i6,.str,i6,i6,i6,i6,i6,i6]
abbrev B0:BT:= .var [(.arr .i 16),i6,i6,(.konst (.vec 2)),i6,i6,.str,i6,.str,i6,i6,i6,i6,i6,i6]
def Ly:Lay:=[]
def TT:Tr TI:=.nd 69 ⟨.fn,1,8,[.nilf],none,false⟩ (.nd 34 ⟨.struct [(0,32)],1,24,[.nils],none,false⟩ (.nd 17 ⟨.ptr 140,1,8,[.nilp],none,false⟩ (.nd 9 ⟨.str,1,16,[.str []],some .s,false⟩ (.nd 5 ⟨.int .u8,1,1,[.int .u8 0],some .u,false⟩ (.nd 3 ⟨.int .i64,1,8,[.int .i64 0],some .i,false⟩ (.nd 2 ⟨.int .i64,1,8,[.int .i64 0],some .i,false⟩ (.nd 1 ⟨.fn,1,8,[.nilf],none,false⟩ .lf .lf) .lf) (.nd 4 ⟨.bool,1,1,[.bool false],some .b,false⟩ .lf .lf)) (.nd 7 ⟨.struct [(0,2),(1,3),(2,4),(3,6)],4,24,[.int .i64 0,.int .i64 0,.bool false,.int .u8 0],none,false⟩ (.nd 6 ⟨.int .u8,1,1,[.int .u8 0],some .u,false⟩ .lf .lf) (.nd 8 ⟨.struct [(0,2),(1,3),(2,4),(3,6)],4,24,[.int .i64 0,.int .i64 0,.bool false,.int .u8 0],none,false⟩ .lf .lf))) (.nd 13 ⟨.struct [(0,9),(1,12)],2,24,[.str [],.int .u64 0],none,false⟩ (.nd 11 ⟨.str,1,16,[.str []],some .s,false⟩ (.nd 10 ⟨.str,1,16,[.str []],some .s,false⟩ .lf .lf) (.nd 12 ⟨.int .u64,1,8,[.int .u64 0],none,false⟩ .lf .lf)) (.nd 15 ⟨.ptr 130,1,8,[.nilp],none,false⟩ (.nd 14 ⟨.struct [(0,9),(1,12)],2,24,[.str [],.int .u64 0],none,false⟩ .lf .lf) (.nd 16 ⟨.ptr 133,1,8,[.nilp],none,false⟩ .lf .lf)))) (.nd 26 ⟨.struct [(0,25)],1,24,[.nils],none,false⟩ (.nd 22 ⟨.array 16 3,16,128,[.arr .i 16 []],none,false⟩ (.nd 20 ⟨.iface,1,16,[.err true],none,false⟩ (.nd 19 ⟨.struct [(0,17)],1,8,[.nilp],none,false⟩ (.nd 18 ⟨.struct [(0,17)],1,8,[.nilp],none,false⟩ .lf .lf) .lf) (.nd 21 ⟨.int .i32,1,4,[.int .i32 0],none,false⟩ .lf .lf)) (.nd 24 ⟨.struct [(0,22),(16,3),(17,3)],18,144,[.arr .i 16 [],.int .i64 0,.int .i64 0],none,true⟩ (.nd 23 ⟨.struct [(0,22),(16,3),(17,3)],18,144,[.arr .i 16 [],.int .i64 0,.int .i64 0],none,false⟩ .lf .lf) (.nd 25 ⟨.slice 74,1,24,[.nils],none,false⟩ .lf .lf))) (.nd 30 ⟨.fn,1,8,[.nilf],none,false⟩ (.nd 28 ⟨.struct [(0,24),(18,27),(19,3),(20,3),(21,9),(22,3),(23,9),(24,3),(25,3),(26,3),(27,3),(28,3),(29,3)],30,272,[.arr .i 16 [],.int .i64 0,.int .i64 0,.nils,.int .i64 0,.int .i64 0,.str [],.int .i64 0,.str [],.int .i64 0,.int .i64 0,.int .i64 0,.int .i64 0,.int .i64 0,.int .i64 0],none,false⟩ (.nd 27 ⟨.struct [(0,25)],1,24,[.nils],none,false⟩ .lf .lf) (.nd 29 ⟨.struct [(0,24),(18,27),(19,3),(20,3),(21,9),(22,3),(23,9),(24,3),(25,3),(26,3),(27,3),(28,3),(29,3)],30,272,[.arr .i 16 [],.int .i64 0,.int .i64 0,.nils,.int .i64 0,.int .i64 0,.str [],.int .i64 0,.str [],.int .i64 0,.int .i64 0,.int .i64 0,.int .i64 0,.int .i64 0,.int .i64 0],none,false⟩ .lf .lf)) (.nd 32 ⟨.slice 83,1,24,[.nils],none,false⟩ (.nd 31 ⟨.struct [(0,22),(16,3),(17,3)],18,144,[.arr .i 16 [],.int .i64 0,.int .i64 0],none,true⟩ .lf .lf) (.nd 33 ⟨.struct [(0,32)],1,24,[.nils],none,false⟩ .lf .lf))))) (.nd 52 ⟨.fn,1,8,[.nilf],none,false⟩ (.nd 44 ⟨.fn,1,8,[.nilf],none,false⟩ (.nd 40 ⟨.fn,1,8,[.nilf],none,false⟩ (.nd 38 ⟨.fn,1,8,[.nilf],none,false⟩ (.nd 36 ⟨.struct [(0,31),(18,34),(19,3),(20,3),(21,9),(22,3),(23,9),(24,3),(25,3),(26,3),(27,3),(28,3),(29,3)],30,272,[.arr .i 16 [],.int .i64 0,.int .i64 0,.nils,.int .i64 0,.int .i64 0,.str [],.int .i64 0,.str [],.int .i64 0,.int .i64 0,.int .i64 0,.int .i64 0,.int .i64 0,.int .i64 0],none,false⟩ (.nd 35 ⟨.struct [(0,31),(18,34),(19,3),(20,3),(21,9),(22,3),(23,9),(24,3),(25,3),(26,3),(27,3),(28,3),(29,3)],30,272,[.arr .i 16 [],.int .i64 0,.int .i64 0,.nils,.int .i64 0,.int .i64 0,.str [],.int .i64 0,.str [],.int .i64 0,.int .i64 0,.int .i64 0,.int .i64 0,.int .i64 0,.int .i64 0],none,false⟩ .lf .lf) .lf) (.nd 39 ⟨.fn,1,8,[.nilf],none,false⟩ .lf .lf)) (.nd 42 ⟨.fn,1,8,[.nilf],none,false⟩ (.nd 41 ⟨.fn,1,8,[.nilf],none,false⟩ .lf .lf) (.nd 43 ⟨.fn,1,8,[.nilf],none,false⟩ .lf .lf))) (.nd 48 ⟨.fn,1,8,[.nilf],none,false⟩ (.nd 46 ⟨.fn,1,8,[.nilf],none,false⟩ (.nd 45 ⟨.fn,1,8,[.nilf],none,false⟩ .lf .lf) (.nd 47 ⟨.fn,1,8,[.nilf],none,false⟩ .lf .lf)) (.nd 50 ⟨.fn,1,8,[.nilf],none,false⟩ (.nd 49 ⟨.fn,1,8,[.nilf],none,false⟩ .lf .lf) (.nd 51 ⟨.fn,1,8,[.nilf],none,false⟩ .lf .lf)))) (.nd 61 ⟨.fn,1,8,[.nilf],none,false⟩ (.nd 56 ⟨.fn,1,8,[.nilf],none,false⟩ (.nd 54 ⟨.fn,1,8,[.nilf],none,false⟩ (.nd 53 ⟨.fn,1,8,[.nilf],none,false⟩ .lf .lf) (.nd 55 ⟨.fn,1,8,[.nilf],none,false⟩ .lf .lf)) (.nd 59 ⟨.fn,1,8,[.nilf],none,false⟩ (.nd 58 ⟨.fn,1,8,[.nilf],none,false⟩ .lf .lf) (.nd 60 ⟨.fn,1,8,[.nilf],none,false⟩ .lf .lf))) (.nd 65 ⟨.fn,1,8,[.nilf],none,false⟩ (.nd 63 ⟨.ptr 36,1,8,[.nilp],none,false⟩ (.nd 62 ⟨.fn,1,8,[.nilf],none,false⟩ .lf .lf) (.nd 64 ⟨.ptr 31,1,8,[.nilp],none,false⟩ .lf .lf)) (.nd 67 ⟨.fn,1,8,[.nilf],none,false⟩ (.nd 66 ⟨.fn,1,8,[.nilf],none,false⟩ .lf .lf) (.nd 68 ⟨.fn,1,8,[.nilf],none,false⟩ .lf .lf)))))) (.nd 103 ⟨.fn,1,8,[.nilf],none,false⟩ (.nd 86 ⟨.fn,1,8,[.nilf],none,false⟩ (.nd 78 ⟨.fn,1,8,[.nilf],none,false⟩ (.nd 74 ⟨.struct [(0,3),(1,3),(2,9)],3,32,[.int .i64 0,.int .i64 0,.str []],some .page,true⟩ (.nd 72 ⟨.fn,1,8,[.nilf],none,false⟩ (.nd 71 ⟨.fn,1,8,[.nilf],none,false⟩ (.nd 70 ⟨.fn,1,8,[.nilf],none,false⟩ .lf .lf) .lf) (.nd 73 ⟨.struct [(0,3),(1,3),(2,9)],3,32,[.int .i64 0,.int .i64 0,.str []],none,false⟩ .lf .lf)) (.nd 76 ⟨.fn,1,8,[.nilf],none,false⟩ (.nd 75 ⟨.fn,1,8,[.nilf],none,false⟩ .lf .lf) (.nd 77 ⟨.int .u64,1,8,[.int .u64 0],none,false⟩ .lf .lf))) (.nd 82 ⟨.int .u64,1,8,[.int .u64 0],none,false⟩ (.nd 80 ⟨.fn,1,8,[.nilf],none,false⟩ (.nd 79 ⟨.fn,1,8,[.nilf],none,false⟩ .lf .lf) (.nd 81 ⟨.fn,1,8,[.nilf],none,false⟩ .lf .lf)) (.nd 84 ⟨.fn,1,8,[.nilf],none,false⟩ (.nd 83 ⟨.struct [(0,3),(1,3),(2,9)],3,32,[.int .i64 0,.int .i64 0,.str []],some .page,true⟩ .lf .lf) (.nd 85 ⟨.fn,1,8,[.nilf],none,false⟩ .lf .lf)))) (.nd 95 ⟨.fn,1,8,[.nilf],none,false⟩ (.nd 91 ⟨.ptr 3,1,8,[.nilp],none,false⟩ (.nd 89 ⟨.fn,1,8,[.nilf],none,false⟩ (.nd 88 ⟨.fn,1,8,[.nilf],none,false⟩ (.nd 87 ⟨.fn,1,8,[.nilf],none,false⟩ .lf .lf) .lf) (.nd 90 ⟨.fn,1,8,[.nilf],none,false⟩ .lf .lf)) (.nd 93 ⟨.fn,1,8,[.nilf],none,false⟩ (.nd 92 ⟨.fn,1,8,[.nilf],none,false⟩ .lf .lf) (.nd 94 ⟨.slice 5,1,24,[.nils],none,false⟩ .lf .lf))) (.nd 99 ⟨.fn,1,8,[.nilf],none,false⟩ (.nd 97 ⟨.fn,1,8,[.nilf],none,false⟩ (.nd 96 ⟨.fn,1,8,[.nilf],none,false⟩ .lf .lf) (.nd 98 ⟨.fn,1,8,[.nilf],none,false⟩ .lf .lf)) (.nd 101 ⟨.fn,1,8,[.nilf],none,false⟩ (.nd 100 ⟨.fn,1,8,[.nilf],none,false⟩ .lf .lf) (.nd 102 ⟨.fn,1,8,[.nilf],none,false⟩ .lf .lf))))) (.nd 124 ⟨.ptr 5,1,8,[.nilp],none,false⟩ (.nd 113 ⟨.iface,1,16,[.err true],none,false⟩ (.nd 109 ⟨.ptr 111,1,8,[.nilp],none,false⟩ (.nd 107 ⟨.fn,1,8,[.nilf],none,false⟩ (.nd 105 ⟨.fn,1,8,[.nilf],none,false⟩ (.nd 104 ⟨.ptr 83,1,8,[.nilp],none,false⟩ .lf .lf) .lf) (.nd 108 ⟨.fn,1,8,[.nilf],none,false⟩ .lf .lf)) (.nd 111 ⟨.struct [(0,109),(1,94)],2,32,[.nilp,.nils],none,false⟩ (.nd 110 ⟨.struct [(0,109),(1,94)],2,32,[.nilp,.nils],none,false⟩ .lf .lf) (.nd 112 ⟨.iface,1,16,[.err true],none,false⟩ .lf .lf))) (.nd 118 ⟨.fn,1,8,[.nilf],none,false⟩ (.nd 116 ⟨.fn,1,8,[.nilf],none,false⟩ (.nd 115 ⟨.fn,1,8,[.nilf],none,false⟩ .lf .lf) (.nd 117 ⟨.fn,1,8,[.nilf],none,false⟩ .lf .lf)) (.nd 121 ⟨.fn,1,8,[.nilf],none,false⟩ (.nd 119 ⟨.int .u32,1,4,[.int .u32 0],none,false⟩ .lf .lf) (.nd 123 ⟨.fn,1,8,[.nilf],none,false⟩ .lf .lf)))) (.nd 133 ⟨.struct [(0,131)],0,0,[],none,false⟩ (.nd 129 ⟨.struct [(0,17),(1,17),(2,17),(3,9)],4,40,[.nilp,.nilp,.nilp,.str []],none,false⟩ (.nd 127 ⟨.fn,1,8,[.nilf],none,false⟩ (.nd 126 ⟨.fn,1,8,[.nilf],none,false⟩ .lf .lf) (.nd 128 ⟨.fn,1,8,[.nilf],none,false⟩ .lf .lf)) (.nd 131 ⟨.array 0 16,0,0,[],none,false⟩ (.nd 130 ⟨.struct [(0,17),(1,17),(2,17),(3,9)],4,40,[.nilp,.nilp,.nilp,.str []],none,false⟩ .lf .lf) (.nd 132 ⟨.struct [(0,131)],0,0,[],none,false⟩ .lf .lf))) (.nd 137 ⟨.int .i32,1,4,[.int .i32 0],none,false⟩ (.nd 135 ⟨.int .u8,1,1,[.int .u8 0],some .u,false⟩ (.nd 134 ⟨.int .u8,1,1,[.int .u8 0],some .u,false⟩ .lf .lf) (.nd 136 ⟨.fn,1,8,[.nilf],none,false⟩ .lf .lf)) (.nd 139 ⟨.struct [(0,12),(1,12),(2,119),(3,134),(4,5),(5,5),(6,135),(7,136),(8,124),(9,137),(10,138)],11,48,[.int .u64 0,.int .u64 0,.int .u32 0,.int .u8 0,.int .u8 0,.int .u8 0,.int .u8 0,.nilf,.nilp,.int .i32 0,.int .i32 0],none,false⟩ (.nd 138 ⟨.int .i32,1,4,[.int .i32 0],none,false⟩ .lf .lf) (.nd 140 ⟨.struct [(0,12),(1,12),(2,119),(3,134),(4,5),(5,5),(6,135),(7,136),(8,124),(9,137),(10,138)],11,48,[.int .u64 0,.int .u64 0,.int .u32 0,.int .u8 0,.int .u8 0,.int .u8 0,.int .u8 0,.nilf,.nilp,.int .i32 0,.int .i32 0],none,false⟩ .lf .lf))))))
abbrev OK (n:Nat)(S:Sem1):Prop:=jC Tryz.prog Ly n S
def AN:Anns:=⟨.lf,.lf,[]⟩
theorem tok:TOK Tryz.prog TT:=by unfold TOK;kernel_rfl
theorem eqs:qd Tryz.prog TT:=sW (by kernel_rfl)
theorem mix:Tryz.prog.follows .mixedOrders=true:=by kernel_rfl
theorem tv:True:=trivial
abbrev n1 (k:Nat)(v:Sem1):Tr Sem1:= .nd k v .lf .lf
theorem l1 {k:Nat}{v:Sem1}(h:OK k v):(n1 k v).All (fun n S=>OK n S):=⟨h,trivial,trivial⟩
def chk (fn:Func)(g:Sig):Bool:= !(fn.name== "runtime.NumGoroutine")&&((match fn.body with|some c=>fP fn.ntmps c|none=>false)&&Nat.ble (lenN g.D.ts) fn.ntmps)
theorem tk {E:Tr Sem1}{A:Anns}(h:E.All (fun n S=>OK n S)){n:FuncId}{fn:Func}(hf:Tryz.prog.funcs[n]? =some fn)(g:Sig)(hc:chk fn g=true){S:g.D.Ty→Option (g.r.Ty×BTL.Ty g.ks)}(hS:∀x,g.den E TT A F fn x=S x):OK n (g.sem S):=by
 unfold chk at hc
 rw[Bool.and_eq_true,Bool.and_eq_true]at hc
 exact su ⟨tok,eqs,h.get,mix⟩ hf (by cases h0:(fn.name== "runtime.NumGoroutine")with|false=>rfl|true=>rw[h0]at hc;cases hc.1) hc.2.1 g hc.2.2 S hS
def g0:Sig:=⟨⟨bg 0 [.el .page,i6],[],[]⟩,.one i6,[],[],false,false,[],[]⟩
theorem o0:OK 50 (g0.sem df):=tk (E:=Tr.lf) (A:=AN) tv Tryz.func50 g0 (by kernel_rfl) fun x=>by kernel_rfl
def g1:Sig:=⟨⟨bg 0 [.list .page,i6],[],[]⟩,.one i6,[],[],false,false,[],[]⟩
def E1:Tr Sem1:=n1 50 (g0.sem df)
def A1:Anns:=⟨(.nd 0 (.loop ⟨[(0,(.list .page)),(1,i6),(5,i6)],[],[]⟩) .lf .lf),.lf,[]⟩
theorem o1:OK 24 (g1.sem cK):=tk (E:=E1) (A:=A1) (l1 o0) Tryz.func24 g1 (by kernel_rfl) fun x=>by kernel_rfl
def g2:Sig:=⟨⟨bg 0 [.agg [.list .page],i6],[],[]⟩,.one i6,[],[],false,false,[],[]⟩
def E2:Tr Sem1:=n1 24 (g1.sem cK)
theorem o2:OK 11 (g2.sem cn):=tk (E:=E2) (A:=AN) (l1 o1) Tryz.func11 g2 (by kernel_rfl) fun x=>by kernel_rfl
def g3:Sig:=⟨⟨bg 0 [V4,i6],[],[]⟩,.one i6,[],[],false,false,[],[]⟩
def E3:Tr Sem1:=n1 11 (g2.sem cn)
theorem o3:OK 4 (g3.sem dI):=tk (E:=E3) (A:=AN) (l1 o2) Tryz.func4 g3 (by kernel_rfl) fun x=>by kernel_rfl
def g4:Sig:=⟨⟨bg 0 [.agg [.arr .i 16]],[],[]⟩,.one (.agg [.arr .i 16]),[],[],false,false,[],[]⟩
def A4:Anns:=⟨(.nd 0 (.loop ⟨[(1,q0),(2,q1),(3,q2),(4,i6)],[(.var [(.arr .i 16)]),(.var [(.arr .i 16)]),(.var [(.arr .i 16)])],[]⟩) .lf .lf),.lf,[]⟩
theorem o4:OK 35 (g4.sem co):=tk (E:=Tr.lf) (A:=A4) tv Tryz.func35 g4 (by kernel_rfl) fun x=>by kernel_rfl
def g5:Sig:=⟨⟨bg 0 [.agg [.arr .i 16,i6,i6]],[],[]⟩,.one (.agg [.arr .i 16,i6,i6]),[],[],false,false,[],[]⟩
def E5:Tr Sem1:=n1 35 (g4.sem co)
theorem o5:OK 15 (g5.sem dJ):=tk (E:=E5) (A:=AN) (l1 o4) Tryz.func15 g5 (by kernel_rfl) fun x=>by kernel_rfl
def g6:Sig:=⟨⟨bg 0 [.el .page],[],[]⟩,.one (.el .page),[],[],false,false,[],[]⟩
theorem o6:OK 61 (g6.sem ej):=tk (E:=Tr.lf) (A:=AN) tv Tryz.func61 g6 (by kernel_rfl) fun x=>by kernel_rfl
def g7:Sig:=⟨⟨bg 0 [.list .page],[],[]⟩,.one (.konst (.vec 0)),[.row .page],[],false,true,[(2,0,.page)],[]⟩
def E7:Tr Sem1:=n1 61 (g6.sem ej)
def A7:Anns:=⟨(.nd 0 (.loop ⟨[(0,(.list .page)),(3,(.konst (.vec 0))),(4,i6)],[(.row .page)],[]⟩) .lf .lf),.lf,[]⟩
theorem o7:OK 36 (g7.sem cL):=tk (E:=E7) (A:=A7) (l1 o6) Tryz.func36 g7 (by kernel_rfl) fun x=>by kernel_rfl
def g8:Sig:=⟨⟨bg 0 [.agg [.list .page]],[],[]⟩,.one (.agg [.konst (.vec 0)]),[.row .page],[],false,true,[(2,1,.page)],[]⟩
def E8:Tr Sem1:=n1 36 (g7.sem cL)
theorem o8:OK 16 (g8.sem cq):=tk (E:=E8) (A:=AN) (l1 o7) Tryz.func16 g8 (by kernel_rfl) fun x=>by kernel_rfl
def g9:Sig:=⟨⟨bg 0 [V4],[],[]⟩,.one (V1),[.row .page],[],false,true,[(2,4,.page)],[]⟩
def E9:Tr Sem1:=.nd 16 (g8.sem cq) (n1 15 (g5.sem dJ)) .lf
def A9:Anns:=⟨.lf,.lf,[(2,4,.page),(3,4,.page)]⟩
theorem o9:OK 6 (g9.sem bR):=tk (E:=E9) (A:=A9) ⟨o8,(l1 o5),tv⟩ Tryz.func6 g9 (by kernel_rfl) fun x=>by kernel_rfl
def g10:Sig:=⟨⟨bg 0 [i6],[],[]⟩,.one (.bool),[],[],false,false,[],[]⟩
theorem o10:OK 79 (g10.sem dj):=tk (E:=Tr.lf) (A:=AN) tv Tryz.func79 g10 (by kernel_rfl) fun x=>by kernel_rfl
def g11:Sig:=⟨⟨bg 0 [.agg [.arr .i 16,i6,i6]],[],[]⟩,.one (.bool),[],[],false,false,[],[]⟩
def E11:Tr Sem1:=n1 79 (g10.sem dj)
theorem o11:OK 51 (g11.sem dL):=tk (E:=E11) (A:=AN) (l1 o10) Tryz.func51 g11 (by kernel_rfl) fun x=>by kernel_rfl
def g12:Sig:=⟨⟨bg 0 [i6,i6,i6],[],[]⟩,.one (.bool),[],[],false,false,[],[]⟩
theorem o12:OK 26 (g12.sem am):=tk (E:=Tr.lf) (A:=AN) tv Tryz.func26 g12 (by kernel_rfl) fun x=>by kernel_rfl
def g13:Sig:=⟨⟨bg 0 [i6],[],[]⟩,.one (.bool),[],[],false,false,[],[]⟩
def E13:Tr Sem1:=n1 26 (g12.sem am)
theorem o13:OK 80 (g13.sem cN):=tk (E:=E13) (A:=AN) (l1 o12) Tryz.func80 g13 (by kernel_rfl) fun x=>by kernel_rfl
def g14:Sig:=⟨⟨bg 0 [i6],[],[]⟩,.one (.bool),[],[],false,false,[],[]⟩
def E14:Tr Sem1:=n1 26 (g12.sem am)
theorem o14:OK 81 (g14.sem cO):=tk (E:=E14) (A:=AN) (l1 o12) Tryz.func81 g14 (by kernel_rfl) fun x=>by kernel_rfl
def g15:Sig:=⟨⟨bg 0 [.agg [.list .page]],[],[]⟩,.one (.bool),[],[],false,false,[],[]⟩
def E15:Tr Sem1:=.nd 81 (g14.sem cO) (n1 80 (g13.sem cN)) .lf
def A15:Anns:=⟨(.nd 0 (.loop ⟨[(1,q0),(3,i6)],[(.var [(.list .page)])],[]⟩) .lf .lf),.lf,[]⟩
theorem o15:OK 52 (g15.sem cr):=tk (E:=E15) (A:=A15) ⟨o14,(l1 o13),tv⟩ Tryz.func52 g15 (by kernel_rfl) fun x=>by kernel_rfl
def g16:Sig:=⟨⟨bg 0 [i6,i6],[],[]⟩,.one i6,[],[],false,false,[],[]⟩
theorem o16:OK 53 (g16.sem bS):=tk (E:=Tr.lf) (A:=AN) tv Tryz.func53 g16 (by kernel_rfl) fun x=>by kernel_rfl
def g17:Sig:=⟨⟨bg 0 [i6,i6],[],[]⟩,.one i6,[],[],false,false,[],[]⟩
def E17:Tr Sem1:=n1 53 (g16.sem bS)
def A17:Anns:=⟨(.nd 0 (.loop ⟨[(0,i6),(1,i6),(5,(.int .u64)),(6,i6)],[],[]⟩) .lf .lf),.lf,[]⟩
theorem o17:OK 28 (g17.sem aM):=tk (E:=E17) (A:=A17) (l1 o16) Tryz.func28 g17 (by kernel_rfl) fun x=>by kernel_rfl
def g18:Sig:=⟨⟨bg 0 [V4],[],[]⟩,.one (.bool),[],[],false,false,[],[]⟩
def E18:Tr Sem1:=.nd 51 (g11.sem dL) (.nd 28 (g17.sem aM) (n1 26 (g12.sem am)) .lf) (n1 52 (g15.sem cr))
def A18:Anns:=⟨.lf,.lf,[(1,4,.page)]⟩
theorem o18:OK 25 (g18.sem dK):=tk (E:=E18) (A:=A18) ⟨o11,⟨o17,(l1 o12),tv⟩,(l1 o15)⟩ Tryz.func25 g18 (by kernel_rfl) fun x=>by kernel_rfl
def g19:Sig:=⟨⟨bg 0 [V4,i6],[],[]⟩,.one i6,[],[],false,false,[],[]⟩
def E19:Tr Sem1:=.nd 26 (g12.sem am) (n1 25 (g18.sem dK)) .lf
def A19:Anns:=⟨.lf,.lf,[(2,4,.page)]⟩
theorem o19:OK 12 (g19.sem dl):=tk (E:=E19) (A:=A19) ⟨o12,(l1 o18),tv⟩ Tryz.func12 g19 (by kernel_rfl) fun x=>by kernel_rfl
def g20:Sig:=⟨⟨bg 0 [.agg [.list .page]],[],[]⟩,.one (.agg [.konst (.vec 0)]),[.row .page],[],false,true,[(2,1,.page)],[]⟩
theorem o20:OK 27 (g20.sem bU):=tk (E:=Tr.lf) (A:=AN) tv Tryz.func27 g20 (by kernel_rfl) fun x=>by kernel_rfl
def g21:Sig:=⟨⟨bg 0 [V4],[],[]⟩,.one (V4),[],[],false,false,[],[]⟩
def E21:Tr Sem1:=n1 27 (g20.sem bU)
def A21:Anns:=⟨.lf,.lf,[(1,4,.page),(2,4,.page)]⟩
theorem o21:OK 13 (g21.sem cB):=tk (E:=E21) (A:=A21) (l1 o20) Tryz.func13 g21 (by kernel_rfl) fun x=>by kernel_rfl
def g22:Sig:=⟨⟨bg 0 [.agg [.list .page],i6],[],[]⟩,.one i6,[],[],false,false,[],[]⟩
def A22:Anns:=⟨(.nd 0 (.loop ⟨[(1,i6),(2,q0),(5,i6)],[(.var [(.list .page)])],[]⟩) .lf .lf),.lf,[]⟩
theorem o22:OK 82 (g22.sem aH):=tk (E:=Tr.lf) (A:=A22) tv Tryz.func82 g22 (by kernel_rfl) fun x=>by kernel_rfl
def g23:Sig:=⟨⟨bg 0 [.agg [.list .page],i6,i6,i6],[],[]⟩,.one i6,[],[],false,false,[],[]⟩
def E23:Tr Sem1:=.nd 82 (g22.sem aH) (n1 26 (g12.sem am)) .lf
def A23:Anns:=⟨(.nd 0 (.loop ⟨[(1,i6),(2,i6),(3,i6),(4,q0),(9,i6)],[(.var [(.list .page)])],[]⟩) .lf .lf),.lf,[]⟩
theorem o23:OK 54 (g23.sem aX):=tk (E:=E23) (A:=A23) ⟨o22,(l1 o12),tv⟩ Tryz.func54 g23 (by kernel_rfl) fun x=>by kernel_rfl
def g24:Sig:=⟨⟨bg 0 [.agg [.list .page],i6,i6],[],[]⟩,.one (.str),[],[],false,false,[],[]⟩
def E24:Tr Sem1:=n1 82 (g22.sem aH)
def A24:Anns:=⟨(.nd 0 (.loop ⟨[(1,i6),(2,i6),(3,q0),(7,(.konst (.vec 1))),(8,i6)],[(.var [(.list .page)]),(.row .u)],[]⟩) .lf .lf),.lf,[]⟩
theorem o24:OK 56 (g24.sem bT):=tk (E:=E24) (A:=A24) (l1 o22) Tryz.func56 g24 (by kernel_rfl) fun x=>by kernel_rfl
def g25:Sig:=⟨⟨bg 0 [.str,i6,i6],[],[]⟩,.one i6,[],[],false,false,[],[]⟩
def A25:Anns:=⟨(.nd 0 (.loop ⟨[(0,.str),(1,i6),(7,(.int .u64)),(8,i6)],[],[]⟩) .lf .lf),.lf,[]⟩
theorem o25:OK 55 (g25.sem cM):=tk (E:=Tr.lf) (A:=A25) tv Tryz.func55 g25 (by kernel_rfl) fun x=>by kernel_rfl
def g26:Sig:=⟨⟨bg 0 [.agg [.list .page],i6,i6],[],[]⟩,.tup [i6,i6],[],[],false,false,[],[]⟩
def E26:Tr Sem1:=.nd 55 (g25.sem cM) (n1 54 (g23.sem aX)) (n1 56 (g24.sem bT))
theorem o26:OK 29 (g26.sem cf):=tk (E:=E26) (A:=AN) ⟨o25,(l1 o23),(l1 o24)⟩ Tryz.func29 g26 (by kernel_rfl) fun x=>by kernel_rfl
def g27:Sig:=⟨⟨bg 0 [V4,i6,i6],[],[]⟩,.one (V4),[],[],false,false,[],[]⟩
def A27:Anns:=⟨.lf,.lf,[(3,4,.page),(6,4,.page)]⟩
theorem o27:OK 30 (g27.sem eH):=tk (E:=Tr.lf) (A:=A27) tv Tryz.func30 g27 (by kernel_rfl) fun x=>by kernel_rfl
def g28:Sig:=⟨⟨bg 0 [i6,i6],[],[]⟩,.one i6,[],[],false,false,[],[]⟩
def E28:Tr Sem1:=n1 53 (g16.sem bS)
def A28:Anns:=⟨(.nd 0 (.loop ⟨[(0,i6),(5,(.int .u64)),(6,i6)],[],[]⟩) .lf .lf),.lf,[]⟩
theorem o28:OK 57 (g28.sem aC):=tk (E:=E28) (A:=A28) (l1 o16) Tryz.func57 g28 (by kernel_rfl) fun x=>by kernel_rfl
def g29:Sig:=⟨⟨bg 0 [.agg [.list .page],i6,i6,i6],[],[]⟩,.one (.bool),[],[],false,false,[],[]⟩
def E29:Tr Sem1:=.nd 54 (g23.sem aX) (n1 26 (g12.sem am)) .lf
theorem o29:OK 83 (g29.sem bw):=tk (E:=E29) (A:=AN) ⟨o23,(l1 o12),tv⟩ Tryz.func83 g29 (by kernel_rfl) fun x=>by kernel_rfl
def g30:Sig:=⟨⟨bg 0 [.agg [.list .page],i6,.str],[],[]⟩,.one (.agg [.list .page]),[],[],false,false,[],[]⟩
def E30:Tr Sem1:=.nd 82 (g22.sem aH) (n1 27 (g20.sem bU)) .lf
def A30:Anns:=⟨(.nd 0 (.loop ⟨[(1,i6),(2,.str),(3,q0),(6,q2)],[(.var [(.konst (.vec 1))]),(.row .page),(.var [(.konst .nils)])],[]⟩) .lf .lf),.lf,[]⟩
theorem o30:OK 84 (g30.sem di):=tk (E:=E30) (A:=A30) ⟨o22,(l1 o20),tv⟩ Tryz.func84 g30 (by kernel_rfl) fun x=>by kernel_rfl
def g31:Sig:=⟨⟨bg 0 [V4,i6,i6],[],[]⟩,.tup [V4,i6],[],[],false,false,[],[]⟩
def E31:Tr Sem1:=.nd 84 (g30.sem di) (n1 83 (g29.sem bw)) .lf
def A31:Anns:=⟨.lf,.lf,[(3,4,.page),(6,4,.page)]⟩
theorem o31:OK 58 (g31.sem cQ):=tk (E:=E31) (A:=A31) ⟨o30,(l1 o29),tv⟩ Tryz.func58 g31 (by kernel_rfl) fun x=>by kernel_rfl
def g32:Sig:=⟨⟨bg 0 [V4,i6,i6],[],[]⟩,.tup [V4,i6],[],[],false,false,[],[]⟩
def E32:Tr Sem1:=.nd 83 (g29.sem bw) (n1 56 (g24.sem bT)) .lf
def A32:Anns:=⟨.lf,.lf,[(3,4,.page),(6,4,.page)]⟩
theorem o32:OK 59 (g32.sem cw):=tk (E:=E32) (A:=A32) ⟨o29,(l1 o24),tv⟩ Tryz.func59 g32 (by kernel_rfl) fun x=>by kernel_rfl
def g33:Sig:=⟨⟨bg 0 [.agg [.list .page],i6,i6],[],[]⟩,.one (.agg [.list .page]),[],[],false,false,[],[]⟩
def A33:Anns:=⟨(.nd 0 (.loop ⟨[(1,i6),(3,q0),(6,q1),(7,(.konst (.vec 2))),(8,.bool),(9,q3),(10,i6)],[(.var [(.list .page)]),(.var [(.konst .nils)]),(.row .page),(.var [i6,i6,.str])],[]⟩) .lf .lf),(.nd 98 ⟨[(6,q0),(7,(.konst (.vec 1)))],[(.var [(.konst .nils)]),(.row .page)],[]⟩ (.nd 70 ⟨[(1,i6),(3,q0),(6,q1),(7,(.konst (.vec 2))),(8,.bool),(9,q3),(10,i6)],[(.var [(.list .page)]),(.var [(.konst .nils)]),(.row .page),(.var [i6,i6,.str])],[]⟩ .lf .lf) .lf),[]⟩
theorem o33:OK 85 (g33.sem dh):=tk (E:=Tr.lf) (A:=A33) tv Tryz.func85 g33 (by kernel_rfl) fun x=>by kernel_rfl
def g34:Sig:=⟨⟨bg 0 [V4,i6],[],[]⟩,.tup [V4,i6],[],[],false,false,[],[]⟩
def E34:Tr Sem1:=.nd 82 (g22.sem aH) (n1 26 (g12.sem am)) (n1 85 (g33.sem dh))
def A34:Anns:=⟨(.nd 0 (.loop ⟨[(2,q0),(4,q1),(6,i6),(7,q3),(8,i6)],[(.var [(.arr .i 16),i6,i6,(.list .page),i6,i6,.str,i6,.str,i6,i6,i6,i6,i6,i6]),(B0),(.row .page),(.var [(.list .page)])],[]⟩) .lf .lf),.lf,[(2,4,.page),(4,4,.page)]⟩
theorem o34:OK 60 (g34.sem ct):=tk (E:=E34) (A:=A34) ⟨o22,(l1 o12),(l1 o33)⟩ Tryz.func60 g34 (by kernel_rfl) fun x=>by kernel_rfl
def g35:Sig:=⟨⟨bg 0 [V4,i6],[],[]⟩,.tup [V4,i6],[],[],false,false,[],[]⟩
def E35:Tr Sem1:=.nd 58 (g31.sem cQ) (.nd 57 (g28.sem aC) (n1 28 (g17.sem aM)) .lf) (.nd 60 (g34.sem ct) (n1 59 (g32.sem cw)) .lf)
def A35:Anns:=⟨.lf,.lf,[(2,4,.page),(4,4,.page)]⟩
theorem o35:OK 31 (g35.sem b6):=tk (E:=E35) (A:=A35) ⟨o31,⟨o28,(l1 o17),tv⟩,⟨o34,(l1 o32),tv⟩⟩ Tryz.func31 g35 (by kernel_rfl) fun x=>by kernel_rfl
def g36:Sig:=⟨⟨bg 0 [.agg [.arr .i 16,i6,i6],i6,i6,i6],[],[]⟩,.one (.agg [.arr .i 16,i6,i6]),[],[],false,false,[],[]⟩
def E36:Tr Sem1:=n1 57 (g28.sem aC)
def A36:Anns:=⟨.lf,(.nd 30 ⟨[(1,i6),(2,i6),(3,i6),(4,q0),(8,q1),(9,i6)],[(.var [(.arr .i 16),i6,i6]),(.var [(.arr .i 16),i6,i6])],[]⟩ .lf .lf),[]⟩
theorem o36:OK 32 (g36.sem cA):=tk (E:=E36) (A:=A36) (l1 o28) Tryz.func32 g36 (by kernel_rfl) fun x=>by kernel_rfl
def g37:Sig:=⟨⟨bg 0 [i6,i6],[],[]⟩,.one i6,[],[],false,false,[],[]⟩
theorem o37:OK 33 (g37.sem cP):=tk (E:=Tr.lf) (A:=AN) tv Tryz.func33 g37 (by kernel_rfl) fun x=>by kernel_rfl
def g38:Sig:=⟨⟨bg 0 [i6,i6],[],[]⟩,.one i6,[],[],false,false,[],[]⟩
def E38:Tr Sem1:=.nd 57 (g28.sem aC) (n1 26 (g12.sem am)) .lf
theorem o38:OK 34 (g38.sem dg):=tk (E:=E38) (A:=AN) ⟨o28,(l1 o12),tv⟩ Tryz.func34 g38 (by kernel_rfl) fun x=>by kernel_rfl
def g39:Sig:=⟨⟨bg 0 [V4,i6],[],[]⟩,.one (V4),[],[],false,false,[],[]⟩
def E39:Tr Sem1:=.nd 31 (g35.sem b6) (.nd 29 (g26.sem cf) (n1 28 (g17.sem aM)) (n1 30 (g27.sem eH))) (.nd 33 (g37.sem cP) (n1 32 (g36.sem cA)) (n1 34 (g38.sem dg)))
def A39:Anns:=⟨.lf,.lf,[(2,4,.page),(4,4,.page),(7,4,.page)]⟩
theorem o39:OK 14 (g39.sem cu):=tk (E:=E39) (A:=A39) ⟨o35,⟨o26,(l1 o17),(l1 o27)⟩,⟨o37,(l1 o36),(l1 o38)⟩⟩ Tryz.func14 g39 (by kernel_rfl) fun x=>by kernel_rfl
def g40:Sig:=⟨⟨bg 0 [V4,i6],[],[]⟩,.tup [V4,i6],[],[],false,false,[],[]⟩
def E40:Tr Sem1:=.nd 13 (g21.sem cB) (n1 12 (g19.sem dl)) (n1 14 (g39.sem cu))
def A40:Anns:=⟨.lf,.lf,[(2,4,.page),(4,4,.page)]⟩
theorem o40:OK 5 (g40.sem dM):=tk (E:=E40) (A:=A40) ⟨o21,(l1 o19),(l1 o39)⟩ Tryz.func5 g40 (by kernel_rfl) fun x=>by kernel_rfl
def g41:Sig:=⟨⟨bg 0 [i6],[],[]⟩,.one (.bool),[],[],false,false,[],[]⟩
theorem o41:OK 86 (g41.sem da):=tk (E:=Tr.lf) (A:=AN) tv Tryz.func86 g41 (by kernel_rfl) fun x=>by kernel_rfl
def g42:Sig:=⟨⟨bg 0 [.agg [.arr .i 16,i6,i6]],[],[]⟩,.one (.bool),[],[],false,false,[],[]⟩
def E42:Tr Sem1:=n1 86 (g41.sem da)
theorem o42:OK 62 (g42.sem dG):=tk (E:=E42) (A:=AN) (l1 o41) Tryz.func62 g42 (by kernel_rfl) fun x=>by kernel_rfl
def g43:Sig:=⟨⟨bg 0 [i6,i6,i6],[],[]⟩,.one (.bool),[],[],false,false,[],[]⟩
theorem o43:OK 38 (g43.sem ae):=tk (E:=Tr.lf) (A:=AN) tv Tryz.func38 g43 (by kernel_rfl) fun x=>by kernel_rfl
def g44:Sig:=⟨⟨bg 0 [i6],[],[]⟩,.one (.bool),[],[],false,false,[],[]⟩
def E44:Tr Sem1:=n1 38 (g43.sem ae)
theorem o44:OK 87 (g44.sem ef):=tk (E:=E44) (A:=AN) (l1 o43) Tryz.func87 g44 (by kernel_rfl) fun x=>by kernel_rfl
def g45:Sig:=⟨⟨bg 0 [i6],[],[]⟩,.one (.bool),[],[],false,false,[],[]⟩
def E45:Tr Sem1:=n1 38 (g43.sem ae)
theorem o45:OK 88 (g45.sem eh):=tk (E:=E45) (A:=AN) (l1 o43) Tryz.func88 g45 (by kernel_rfl) fun x=>by kernel_rfl
def g46:Sig:=⟨⟨bg 0 [.agg [.list .page]],[],[]⟩,.one (.bool),[],[],false,false,[],[]⟩
def E46:Tr Sem1:=.nd 88 (g45.sem eh) (n1 87 (g44.sem ef)) .lf
def A46:Anns:=⟨(.nd 0 (.loop ⟨[(1,q0),(6,(.list .page)),(7,i6),(8,i6)],[(.var [(.list .page)])],[]⟩) .lf .lf),.lf,[]⟩
theorem o46:OK 63 (g46.sem ck):=tk (E:=E46) (A:=A46) ⟨o45,(l1 o44),tv⟩ Tryz.func63 g46 (by kernel_rfl) fun x=>by kernel_rfl
def g47:Sig:=⟨⟨bg 0 [i6],[],[]⟩,.one (.bool),[],[],false,false,[],[]⟩
def E47:Tr Sem1:=n1 38 (g43.sem ae)
theorem o47:OK 64 (g47.sem eg):=tk (E:=E47) (A:=AN) (l1 o43) Tryz.func64 g47 (by kernel_rfl) fun x=>by kernel_rfl
def g48:Sig:=⟨⟨bg 0 [i6],[],[]⟩,.one (.bool),[],[],false,false,[],[]⟩
def E48:Tr Sem1:=n1 38 (g43.sem ae)
theorem o48:OK 65 (g48.sem ei):=tk (E:=E48) (A:=AN) (l1 o43) Tryz.func65 g48 (by kernel_rfl) fun x=>by kernel_rfl
def g49:Sig:=⟨⟨bg 0 [i6,i6],[],[]⟩,.one i6,[],[],false,false,[],[]⟩
theorem o49:OK 40 (g49.sem bv):=tk (E:=Tr.lf) (A:=AN) tv Tryz.func40 g49 (by kernel_rfl) fun x=>by kernel_rfl
def g50:Sig:=⟨⟨bg 0 [i6,i6],[],[]⟩,.one (.bool),[],[],false,false,[],[]⟩
def E50:Tr Sem1:=n1 40 (g49.sem bv)
theorem o50:OK 89 (g50.sem dz):=tk (E:=E50) (A:=AN) (l1 o49) Tryz.func89 g50 (by kernel_rfl) fun x=>by kernel_rfl
def g51:Sig:=⟨⟨bg 0 [V4],[],[]⟩,.one (.bool),[],[],false,false,[],[]⟩
def E51:Tr Sem1:=.nd 89 (g50.sem dz) (n1 38 (g43.sem ae)) .lf
def A51:Anns:=⟨.lf,.lf,[(1,4,.page)]⟩
theorem o51:OK 66 (g51.sem bW):=tk (E:=E51) (A:=A51) ⟨o50,(l1 o43),tv⟩ Tryz.func66 g51 (by kernel_rfl) fun x=>by kernel_rfl
def g52:Sig:=⟨⟨bg 0 [V4],[],[]⟩,.one (.bool),[],[],false,false,[],[]⟩
def E52:Tr Sem1:=.nd 64 (g47.sem eg) (.nd 62 (g42.sem dG) (n1 38 (g43.sem ae)) (n1 63 (g46.sem ck))) (.nd 66 (g51.sem bW) (n1 65 (g48.sem ei)) .lf)
def A52:Anns:=⟨.lf,.lf,[(1,4,.page)]⟩
theorem o52:OK 37 (g52.sem dF):=tk (E:=E52) (A:=A52) ⟨o47,⟨o42,(l1 o43),(l1 o46)⟩,⟨o51,(l1 o48),tv⟩⟩ Tryz.func37 g52 (by kernel_rfl) fun x=>by kernel_rfl
def g53:Sig:=⟨⟨bg 0 [V4,i6],[],[]⟩,.one i6,[],[],false,false,[],[]⟩
def E53:Tr Sem1:=.nd 38 (g43.sem ae) (n1 37 (g52.sem dF)) .lf
def A53:Anns:=⟨.lf,.lf,[(2,4,.page)]⟩
theorem o53:OK 17 (g53.sem bq):=tk (E:=E53) (A:=A53) ⟨o43,(l1 o52),tv⟩ Tryz.func17 g53 (by kernel_rfl) fun x=>by kernel_rfl
def g54:Sig:=⟨⟨bg 0 [.list .page],[],[]⟩,.one (.konst (.vec 0)),[.row .page],[],false,true,[(2,0,.page)],[]⟩
theorem o54:OK 67 (g54.sem aw):=tk (E:=Tr.lf) (A:=AN) tv Tryz.func67 g54 (by kernel_rfl) fun x=>by kernel_rfl
def g55:Sig:=⟨⟨bg 0 [.agg [.list .page]],[],[]⟩,.one (.agg [.konst (.vec 0)]),[.row .page],[],false,true,[(2,1,.page)],[]⟩
def E55:Tr Sem1:=n1 67 (g54.sem aw)
theorem o55:OK 39 (g55.sem aL):=tk (E:=E55) (A:=AN) (l1 o54) Tryz.func39 g55 (by kernel_rfl) fun x=>by kernel_rfl
def g56:Sig:=⟨⟨bg 0 [V4],[],[]⟩,.one (V1),[.row .page],[],false,true,[(2,4,.page)],[]⟩
def E56:Tr Sem1:=n1 39 (g55.sem aL)
def A56:Anns:=⟨.lf,.lf,[(1,4,.page),(2,4,.page)]⟩
theorem o56:OK 18 (g56.sem b9):=tk (E:=E56) (A:=A56) (l1 o55) Tryz.func18 g56 (by kernel_rfl) fun x=>by kernel_rfl
def g57:Sig:=⟨⟨bg 0 [.el .page,q0],[.var [i6]],[]⟩,.one (.bool),[.var [i6]],[],false,false,[],[]⟩
theorem o57:OK 96 (g57.sem bo):=tk (E:=Tr.lf) (A:=AN) tv Tryz.func96 g57 (by kernel_rfl) fun x=>by kernel_rfl
def g58:Sig:=⟨⟨bg 0 [.list .page,.konst (.func (.func 96) [] [.ptr 0 0])],[.var [i6]],[]⟩,.one i6,[.var [i6]],[],false,false,[],[]⟩
def E58:Tr Sem1:=n1 96 (g57.sem bo)
def A58:Anns:=⟨(.nd 0 (.loop ⟨[(0,(.list .page)),(1,(.konst (.func (.func 96) [] [(.ptr 0 0)]))),(7,i6),(8,i6)],[(.var [i6])],[]⟩) .lf .lf),.lf,[]⟩
theorem o58:OK 95 (g58.sem ah):=tk (E:=E58) (A:=A58) (l1 o57) Tryz.func95 g58 (by kernel_rfl) fun x=>by kernel_rfl
def g59:Sig:=⟨⟨bg 0 [.agg [.list .page],i6],[],[]⟩,.one i6,[],[],false,false,[],[]⟩
def E59:Tr Sem1:=.nd 95 (g58.sem ah) (n1 38 (g43.sem ae)) .lf
theorem o59:OK 90 (g59.sem an):=tk (E:=E59) (A:=AN) ⟨o58,(l1 o43),tv⟩ Tryz.func90 g59 (by kernel_rfl) fun x=>by kernel_rfl
def g60:Sig:=⟨⟨bg 0 [.agg [.list .page],i6,i6,i6],[],[]⟩,.one i6,[],[],false,false,[],[]⟩
def E60:Tr Sem1:=n1 90 (g59.sem an)
def A60:Anns:=⟨(.nd 0 (.loop ⟨[(1,i6),(3,i6),(4,q0),(11,i6),(12,i6)],[(.var [(.list .page)])],[]⟩) .lf .lf),.lf,[]⟩
theorem o60:OK 68 (g60.sem bh):=tk (E:=E60) (A:=A60) (l1 o59) Tryz.func68 g60 (by kernel_rfl) fun x=>by kernel_rfl
def g61:Sig:=⟨⟨bg 0 [.agg [.list .page],i6,i6],[],[]⟩,.one (.str),[],[],false,false,[],[]⟩
def E61:Tr Sem1:=n1 90 (g59.sem an)
def A61:Anns:=⟨(.nd 0 (.loop ⟨[(1,i6),(3,q0),(7,(.konst (.vec 1))),(12,i6),(13,i6)],[(.var [(.list .page)]),(.row .u)],[]⟩) .lf .lf),.lf,[]⟩
theorem o61:OK 70 (g61.sem aI):=tk (E:=E61) (A:=A61) (l1 o59) Tryz.func70 g61 (by kernel_rfl) fun x=>by kernel_rfl
def g62:Sig:=⟨⟨bg 0 [.str],[],[]⟩,.one i6,[],[],false,false,[],[]⟩
def A62:Anns:=⟨(.nd 0 (.loop ⟨[(0,.str),(3,i6),(6,i6),(7,i6)],[],[]⟩) .lf .lf),.lf,[]⟩
theorem o62:OK 69 (g62.sem eG):=tk (E:=Tr.lf) (A:=A62) tv Tryz.func69 g62 (by kernel_rfl) fun x=>by kernel_rfl
def g63:Sig:=⟨⟨bg 0 [.agg [.list .page],i6,i6],[],[]⟩,.tup [i6,i6],[],[],false,false,[],[]⟩
def E63:Tr Sem1:=.nd 69 (g62.sem eG) (n1 68 (g60.sem bh)) (n1 70 (g61.sem aI))
theorem o63:OK 41 (g63.sem aY):=tk (E:=E63) (A:=AN) ⟨o62,(l1 o60),(l1 o61)⟩ Tryz.func41 g63 (by kernel_rfl) fun x=>by kernel_rfl
def g64:Sig:=⟨⟨bg 0 [q0,i6,i6],[B2,.row .page],[]⟩,.tup [],[B3,.konst .gone,.row .page],[(1,0,big),(0,3,4),(0,11,12),(0,13,15)],false,false,[(0,4,.page)],[1]⟩
def A64:Anns:=⟨.lf,.lf,[(0,4,.page)]⟩
theorem o64:OK 42 (g64.sem eF):=tk (E:=Tr.lf) (A:=A64) tv Tryz.func42 g64 (by kernel_rfl) fun x=>by kernel_rfl
def g65:Sig:=⟨⟨bg 0 [i6],[],[]⟩,.one (.bool),[],[],false,false,[],[]⟩
def E65:Tr Sem1:=n1 38 (g43.sem ae)
theorem o65:OK 71 (g65.sem aV):=tk (E:=E65) (A:=AN) (l1 o43) Tryz.func71 g65 (by kernel_rfl) fun x=>by kernel_rfl
def g66:Sig:=⟨⟨bg 0 [i6,i6],[],[]⟩,.one i6,[],[],false,false,[],[]⟩
theorem o66:OK 72 (g66.sem bj):=tk (E:=Tr.lf) (A:=AN) tv Tryz.func72 g66 (by kernel_rfl) fun x=>by kernel_rfl
def E67:Tr Sem1:=.nd 72 (g66.sem bj) (n1 71 (g65.sem aV)) .lf
def I67:Sem1:=tj E67 TT AN 1000000 Tryz.f73 false []
theorem o67:OK 73 I67:=in_ok ⟨tok,eqs,Tr.All.get (t:=E67) ⟨o66,(l1 o65),tv⟩,mix⟩ Tryz.func73 (by kernel_rfl) (by kernel_rfl) false []
def g68:Sig:=⟨⟨bg 0 [.agg [.list .page],i6,i6,i6],[],[]⟩,.one (.bool),[],[],false,false,[],[]⟩
def E68:Tr Sem1:=.nd 90 (g59.sem an) (n1 38 (g43.sem ae)) .lf
def A68:Anns:=⟨(.nd 0 (.loop ⟨[(1,i6),(3,i6),(4,q0),(21,i6),(22,i6)],[(.var [(.list .page)])],[]⟩) .lf .lf),.lf,[]⟩
theorem o68:OK 91 (g68.sem aB):=tk (E:=E68) (A:=A68) ⟨o59,(l1 o43),tv⟩ Tryz.func91 g68 (by kernel_rfl) fun x=>by kernel_rfl
def g69:Sig:=⟨⟨bg 0 [.agg [.list .page],i6,.str],[],[]⟩,.one (.agg [.konst (.vec 0)]),[.row .page],[],false,true,[(6,1,.page)],[]⟩
def E69:Tr Sem1:=.nd 90 (g59.sem an) (n1 39 (g55.sem aL)) .lf
def A69:Anns:=⟨(.nd 0 (.loop ⟨[(1,i6),(2,.str),(3,q0),(6,q1),(7,q2)],[(.var [(.list .page)]),(.var [(.konst .nils)]),(.var [(.konst (.vec 3))]),(.row .page)],[]⟩) .lf .lf),.lf,[]⟩
theorem o69:OK 92 (g69.sem bH):=tk (E:=E69) (A:=A69) ⟨o59,(l1 o55),tv⟩ Tryz.func92 g69 (by kernel_rfl) fun x=>by kernel_rfl
def g70:Sig:=⟨⟨bg 0 [q0,i6,i6],[B2,.row .page],[]⟩,.one i6,[B3,.konst .gone,.row .page],[(1,0,big),(0,3,4),(0,7,8)],false,false,[(0,4,.page)],[1]⟩
def E70:Tr Sem1:=.nd 92 (g69.sem bH) (n1 91 (g68.sem aB)) .lf
def A70:Anns:=⟨.lf,.lf,[(0,4,.page)]⟩
theorem o70:OK 74 (g70.sem bf):=tk (E:=E70) (A:=A70) ⟨o69,(l1 o68),tv⟩ Tryz.func74 g70 (by kernel_rfl) fun x=>by kernel_rfl
def g71:Sig:=⟨⟨bg 0 [q0,i6,i6],[B2,.row .page],[]⟩,.one i6,[B3,.konst .gone,.row .page],[(1,0,big),(0,3,4),(0,8,9)],false,false,[(0,4,.page)],[1]⟩
def E71:Tr Sem1:=.nd 91 (g68.sem aB) (n1 70 (g61.sem aI)) .lf
def A71:Anns:=⟨.lf,.lf,[(0,4,.page)]⟩
theorem o71:OK 75 (g71.sem aR):=tk (E:=E71) (A:=A71) ⟨o68,(l1 o61),tv⟩ Tryz.func75 g71 (by kernel_rfl) fun x=>by kernel_rfl
def g72:Sig:=⟨⟨bg 0 [.str,i6],[],[]⟩,.one (.str),[],[],false,false,[],[]⟩
theorem o72:OK 94 (g72.sem bp):=sh Tryz.func94 (by kernel_rfl) (by kernel_rfl) (by kernel_rfl) (fun s c w h1 h2=>Tryz.strings_Repeat s c w h1 h2)
def g73:Sig:=⟨⟨bg 0 [.el .page,q0],[.var [i6,i6,.str]],[]⟩,.one (.bool),[.var [i6,i6,.str]],[],false,false,[],[]⟩
theorem o73:OK 97 (g73.sem bE):=tk (E:=Tr.lf) (A:=AN) tv Tryz.func97 g73 (by kernel_rfl) fun x=>by kernel_rfl
def g74:Sig:=⟨⟨bg 0 [.list .page,.konst (.func (.func 97) [] [.ptr 0 0])],[.var [i6,i6,.str]],[]⟩,.one i6,[.var [i6,i6,.str]],[],false,false,[],[]⟩
def E74:Tr Sem1:=n1 97 (g73.sem bE)
def A74:Anns:=⟨(.nd 0 (.loop ⟨[(0,(.list .page)),(1,(.konst (.func (.func 97) [] [(.ptr 0 0)]))),(7,i6),(8,i6)],[(.var [i6,i6,.str])],[]⟩) .lf .lf),.lf,[]⟩
theorem o74:OK 95 (g74.sem aj):=tk (E:=E74) (A:=A74) (l1 o73) Tryz.func95 g74 (by kernel_rfl) fun x=>by kernel_rfl
theorem o75:OK 98 pH:=ins_ok (ρ:=⟨fun n=>match n with|22=>98|29=>105|30=>106|_=>0,fun n=>match n with|3=>3|4=>4|9=>83|24=>32|_=>0,id⟩) ⟨mix,by kernel_rfl,by kernel_rfl,by kernel_rfl,fun _=>by kernel_rfl,by kernel_rfl,fun _=>by kernel_rfl,by kernel_rfl,fun _=>by kernel_rfl,fun _=>by kernel_rfl,by kernel_rfl⟩
def g76:Sig:=⟨⟨bg 0 [.agg [.list .page],.el .page],[],[]⟩,.one (.agg [.konst (.vec 0)]),[.row .page],[],false,true,[(4,1,.page)],[]⟩
def E76:Tr Sem1:=.nd 95 (g74.sem aj) (n1 67 (g54.sem aw)) (n1 98 pH)
def A76:Anns:=⟨.lf,(.nd 22 ⟨[(2,q0),(3,q1),(4,q2),(5,i6)],[(.var [(.list .page)]),(.var [i6,i6,.str]),(.var [(.konst .nils)])],[]⟩ .lf .lf),[]⟩
theorem o76:OK 93 (g76.sem aZ):=tk (E:=E76) (A:=A76) ⟨o74,(l1 o54),(l1 o75)⟩ Tryz.func93 g76 (by kernel_rfl) fun x=>by kernel_rfl
def g77:Sig:=⟨⟨bg 0 [q0,i6],[B2,.row .page],[]⟩,.one i6,[B3,.konst .gone,.row .page],[(1,0,big),(0,3,4),(0,5,6)],false,false,[(0,4,.page)],[1]⟩
def E77:Tr Sem1:=.nd 93 (g76.sem aZ) (.nd 90 (g59.sem an) (n1 38 (g43.sem ae)) .lf) (n1 94 (g72.sem bp))
def A77:Anns:=⟨(.nd 0 (.loop2 ⟨[(0,q0),(1,i6),(5,q3),(6,i6)],[(B0),(.konst .gone),(.row .page),(.var [(.konst (.vec 2))])],[]⟩ ⟨[(0,q0),(1,i6),(5,q3),(6,i6)],[(B0),(.konst .gone),(.row .page),(.var [(.konst (.vec 4))]),(.row .page)],[]⟩) .lf .lf),.lf,[(0,4,.page)]⟩
theorem o77:OK 76 (g77.sem be):=tk (E:=E77) (A:=A77) ⟨o76,⟨o59,(l1 o43),tv⟩,(l1 o72)⟩ Tryz.func76 g77 (by kernel_rfl) fun x=>by kernel_rfl
def g78:Sig:=⟨⟨bg 0 [q0,i6],[B2,.row .page],[]⟩,.one i6,[B3,.konst .gone,.row .page],[(1,0,big),(0,3,4),(0,5,6),(0,7,11)],false,false,[(0,4,.page)],[1]⟩
def E78:Tr Sem1:=.nd 73 I67 (.nd 71 (g65.sem aV) (n1 40 (g49.sem bv)) (n1 72 (g66.sem bj))) (.nd 75 (g71.sem aR) (n1 74 (g70.sem bf)) (n1 76 (g77.sem be)))
def A78:Anns:=⟨.lf,.lf,[(0,4,.page)]⟩
theorem o78:OK 44 (g78.sem bG):=tk (E:=E78) (A:=A78) ⟨o67,⟨o65,(l1 o49),(l1 o66)⟩,⟨o71,(l1 o70),(l1 o77)⟩⟩ Tryz.func44 g78 (by kernel_rfl) fun x=>by kernel_rfl
def E79:Tr Sem1:=.nd 72 (g66.sem bj) (n1 71 (g65.sem aV)) .lf
def I79:Sem1:=tj E79 TT AN 1000000 Tryz.f43 false [(0,0,1)]
theorem o79:OK 43 I79:=in_ok ⟨tok,eqs,Tr.All.get (t:=E79) ⟨o66,(l1 o65),tv⟩,mix⟩ Tryz.func43 (by kernel_rfl) (by kernel_rfl) false [(0,0,1)]
def g80:Sig:=⟨⟨bg 0 [i6,i6],[],[]⟩,.one i6,[],[],false,false,[],[]⟩
def E80:Tr Sem1:=n1 38 (g43.sem ae)
theorem o80:OK 45 (g80.sem c9):=tk (E:=E80) (A:=AN) (l1 o43) Tryz.func45 g80 (by kernel_rfl) fun x=>by kernel_rfl
def g81:Sig:=⟨⟨bg 0 [q0,i6],[B2,.row .page],[]⟩,.tup [],[B3,.konst .gone,.row .page],[(1,0,big),(0,0,2),(0,3,4),(0,5,6),(0,7,15)],false,false,[(0,4,.page)],[1]⟩
def E81:Tr Sem1:=.nd 44 (g78.sem bG) (.nd 42 (g64.sem eF) (.nd 41 (g63.sem aY) (n1 40 (g49.sem bv)) .lf) (n1 43 I79)) (.nd 71 (g65.sem aV) (n1 45 (g80.sem c9)) (n1 72 (g66.sem bj)))
def A81:Anns:=⟨.lf,.lf,[(0,4,.page)]⟩
theorem o81:OK 19 (g81.sem bX):=tk (E:=E81) (A:=A81) ⟨o78,⟨o64,⟨o63,(l1 o49),tv⟩,(l1 o79)⟩,⟨o65,(l1 o80),(l1 o66)⟩⟩ Tryz.func19 g81 (by kernel_rfl) fun x=>by kernel_rfl
def g82:Sig:=⟨⟨bg 0 [V4,i6],[],[]⟩,.tup [V1,i6],[.row .page],[],false,true,[(4,4,.page)],[]⟩
def E82:Tr Sem1:=.nd 18 (g56.sem b9) (n1 17 (g53.sem bq)) (n1 19 (g81.sem bX))
def A82:Anns:=⟨.lf,.lf,[(2,4,.page),(4,4,.page),(7,4,.page)]⟩
theorem o82:OK 7 (g82.sem cY):=tk (E:=E82) (A:=A82) ⟨o56,(l1 o53),(l1 o81)⟩ Tryz.func7 g82 (by kernel_rfl) fun x=>by kernel_rfl
def g83:Sig:=⟨⟨bg 0 [.agg [.arr .i 16],.agg [.arr .i 16]],[],[]⟩,.one (.bool),[],[],false,false,[],[]⟩
def A83:Anns:=⟨(.nd 0 (.loop ⟨[(2,q0),(3,q1),(5,i6)],[(.var [(.arr .i 16)]),(.var [(.arr .i 16)])],[]⟩) .lf .lf),.lf,[]⟩
theorem o83:OK 46 (g83.sem cl):=tk (E:=Tr.lf) (A:=A83) tv Tryz.func46 g83 (by kernel_rfl) fun x=>by kernel_rfl
def g84:Sig:=⟨⟨bg 0 [.agg [.arr .i 16,i6,i6],.agg [.arr .i 16,i6,i6]],[],[]⟩,.one (.bool),[],[],false,false,[],[]⟩
def E84:Tr Sem1:=n1 46 (g83.sem cl)
theorem o84:OK 20 (g84.sem dH):=tk (E:=E84) (A:=AN) (l1 o83) Tryz.func20 g84 (by kernel_rfl) fun x=>by kernel_rfl
def g85:Sig:=⟨⟨bg 0 [.el .page,.el .page],[],[]⟩,.one (.bool),[],[],false,false,[],[]⟩
theorem o85:OK 77 (g85.sem db):=tk (E:=Tr.lf) (A:=AN) tv Tryz.func77 g85 (by kernel_rfl) fun x=>by kernel_rfl
def g86:Sig:=⟨⟨bg 0 [.list .page,.list .page],[],[]⟩,.one (.bool),[],[],false,false,[],[]⟩
def E86:Tr Sem1:=n1 77 (g85.sem db)
def A86:Anns:=⟨(.nd 0 (.loop ⟨[(0,(.list .page)),(1,(.list .page)),(5,i6)],[],[]⟩) .lf .lf),.lf,[]⟩
theorem o86:OK 47 (g86.sem cJ):=tk (E:=E86) (A:=A86) (l1 o85) Tryz.func47 g86 (by kernel_rfl) fun x=>by kernel_rfl
def g87:Sig:=⟨⟨bg 0 [.agg [.list .page],.agg [.list .page]],[],[]⟩,.one (.bool),[],[],false,false,[],[]⟩
def E87:Tr Sem1:=n1 47 (g86.sem cJ)
theorem o87:OK 21 (g87.sem cm):=tk (E:=E87) (A:=AN) (l1 o86) Tryz.func21 g87 (by kernel_rfl) fun x=>by kernel_rfl
def g88:Sig:=⟨⟨bg 0 [V4,V4],[],[]⟩,.one (.bool),[],[],false,false,[],[]⟩
def E88:Tr Sem1:=.nd 21 (g87.sem cm) (n1 20 (g84.sem dH)) .lf
def A88:Anns:=⟨.lf,.lf,[(2,4,.page),(3,4,.page)]⟩
theorem o88:OK 8 (g88.sem bQ):=tk (E:=E88) (A:=A88) ⟨o87,(l1 o84),tv⟩ Tryz.func8 g88 (by kernel_rfl) fun x=>by kernel_rfl
def g89:Sig:=⟨⟨bg 0 [i6],[],[]⟩,.one (.str),[],[],true,false,[],[]⟩
def A89:Anns:=⟨(.nd 0 (.loop ⟨[(0,i6),(3,.str)],[],[]⟩) .lf .lf),.lf,[]⟩
theorem o89:OK 78 (g89.sem aN):=tk (E:=Tr.lf) (A:=A89) tv Tryz.func78 g89 (by kernel_rfl) fun x=>by kernel_rfl
def g90:Sig:=⟨⟨bg 0 [.konst (.vec 0),i6],[.row .page],[]⟩,.one i6,[.row .page],[(0,0,big)],true,false,[],[]⟩
def E90:Tr Sem1:=n1 78 (g89.sem aN)
def A90:Anns:=⟨(.nd 0 (.loop ⟨[(0,(.konst (.vec 0))),(1,i6),(5,i6)],[(.row .page)],[]⟩) .lf .lf),.lf,[]⟩
theorem o90:OK 48 (g90.sem bZ):=tk (E:=E90) (A:=A90) (l1 o89) Tryz.func48 g90 (by kernel_rfl) fun x=>by kernel_rfl
def g91:Sig:=⟨⟨bg 0 [.agg [.konst (.vec 0)],i6],[.row .page],[]⟩,.one i6,[.row .page],[(0,0,big)],true,false,[],[]⟩
def E91:Tr Sem1:=n1 48 (g90.sem bZ)
theorem o91:OK 22 (g91.sem bJ):=tk (E:=E91) (A:=AN) (l1 o90) Tryz.func22 g91 (by kernel_rfl) fun x=>by kernel_rfl
def g92:Sig:=⟨⟨bg 0 [V1,i6],[.row .page],[]⟩,.one i6,[.row .page],[(0,0,big)],true,false,[],[]⟩
def E92:Tr Sem1:=n1 22 (g91.sem bJ)
def A92:Anns:=⟨.lf,.lf,[(2,4,.page)]⟩
theorem o92:OK 9 (g92.sem ce):=tk (E:=E92) (A:=A92) (l1 o91) Tryz.func9 g92 (by kernel_rfl) fun x=>by kernel_rfl
def g93:Sig:=⟨⟨bg 0 [.list .page,i6],[],[]⟩,.one i6,[],[],false,false,[],[]⟩
def E93:Tr Sem1:=n1 78 (g89.sem aN)
def A93:Anns:=⟨(.nd 0 (.loop ⟨[(0,(.list .page)),(1,i6),(5,i6)],[],[]⟩) .lf .lf),.lf,[]⟩
theorem o93:OK 49 (g93.sem bY):=tk (E:=E93) (A:=A93) (l1 o89) Tryz.func49 g93 (by kernel_rfl) fun x=>by kernel_rfl
def g94:Sig:=⟨⟨bg 0 [.agg [.list .page],i6],[],[]⟩,.one i6,[],[],false,false,[],[]⟩
def E94:Tr Sem1:=n1 49 (g93.sem bY)
theorem o94:OK 23 (g94.sem bI):=tk (E:=E94) (A:=AN) (l1 o93) Tryz.func23 g94 (by kernel_rfl) fun x=>by kernel_rfl
def g95:Sig:=⟨⟨bg 0 [V4,i6],[],[]⟩,.one i6,[],[],false,false,[],[]⟩
def E95:Tr Sem1:=n1 23 (g94.sem bI)
def A95:Anns:=⟨.lf,.lf,[(2,4,.page)]⟩
theorem o95:OK 10 (g95.sem cc):=tk (E:=E95) (A:=A95) (l1 o94) Tryz.func10 g95 (by kernel_rfl) fun x=>by kernel_rfl
def g96:Sig:=⟨⟨bg 0 [V4,i6],[],[]⟩,.one (.bool),[],[],false,false,[],[]⟩
def E96:Tr Sem1:=.nd 7 (g82.sem cY) (.nd 5 (g40.sem dM) (n1 4 (g3.sem dI)) (n1 6 (g9.sem bR))) (.nd 9 (g92.sem ce) (n1 8 (g88.sem bQ)) (n1 10 (g95.sem cc)))
def A96:Anns:=⟨.lf,.lf,[(6,4,.page),(8,4,.page),(9,4,.page),(14,4,.page)]⟩
theorem o96:OK 3 (g96.sem aT):=tk (E:=E96) (A:=A96) ⟨o82,⟨o40,(l1 o3),(l1 o9)⟩,⟨o92,(l1 o88),(l1 o95)⟩⟩ Tryz.func3 g96 (by kernel_rfl) fun x=>by kernel_rfl
end Go.Proofs.YtjbcmjmooafgdaaGreat.Serve
