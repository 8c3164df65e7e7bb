/- Theory for the proofs of this claim: see its last text. -/
import Derived.Test.YtgpplhdmdndffaaGreatFnParts
import Derived.Test.YtgpplhdmdndffaaGreatDenF
import Derived.KernelRfl
import Derived.Laws.MathBits
set_option linter.unusedSimpArgs false
section
set_option linter.unusedVariables false
noncomputable section
namespace Go.Den.G
def uP (x1:((Int×Unit)×Unit)):Option (Bool×Unit):=
 (bnd (az ((x1.1.1,1,44,()),())) (fun(x2:(Bool×Unit))=>some x2))
def wu (x1:((Int×Unit)×Unit)):Option (Bool×Unit):=
 (bnd (br (eqI x1.1.1 33) (some Bool.true) (some (eqI x1.1.1 35))) (fun(x2:Bool)=>bnd (br x2 (some Bool.true) (some (eqI x1.1.1 36))) (fun(x3:Bool)=>some (x3,()))))
def ri (x1:((Int×Unit)×Unit)):Option (((List Int)×((List UInt8)×Unit))×Unit):=
 (bnd (az ((x1.1.1,1,9,()),())) (fun(x2:(Bool×Unit))=>br x2.1 (some (((1::(2::(4::(8::([]:List Int))))),(114::(114::(32::(109::(114::(32::(114::(109::(32::(114::(105::(32::(109::(105::([]:List UInt8))))))))))))))),()),())) (bnd (br (eqI x1.1.1 10) (some Bool.true) (bnd (dz x1) (fun(x3:(Bool×Unit))=>some x3.1))) (fun(x4:Bool)=>br x4 (some (((1::(2::(4::(8::([]:List Int))))),(114::(114::(32::(109::(114::(32::(114::(105::(32::(109::(105::([]:List UInt8)))))))))))),()),())) (br (eqI x1.1.1 28) (some (((1::(2::(4::(8::([]:List Int))))),(114::(114::(32::(109::(114::([]:List UInt8)))))),()),())) (bnd (br (eqI x1.1.1 11) (some (Sum.inl ((x1.1.1,(eqI x1.1.1 11),()),(1::(2::(4::(8::([]:List Int))))),(2::(4::(8::([]:List Int)))),(8::([]:List Int)),(0::([]:List Int)),()))) (bnd (br (eqI x1.1.1 12) (some (Sum.inl ((x1.1.1,(eqI x1.1.1 12),()),(1::(2::(4::(8::([]:List Int))))),(2::(4::(8::([]:List Int)))),(8::([]:List Int)),(0::([]:List Int)),()))) (bnd (br (eqI x1.1.1 18) (some (Sum.inl ((x1.1.1,(eqI x1.1.1 18),()),(1::(2::(4::(8::([]:List Int))))),(2::(4::(8::([]:List Int)))),(8::([]:List Int)),(0::([]:List Int)),()))) (some (Sum.inl ((x1.1.1,(eqI x1.1.1 19),()),(1::(2::(4::(8::([]:List Int))))),(2::(4::(8::([]:List Int)))),(8::([]:List Int)),(0::([]:List Int)),())))) (fun(x5:(Sum ((Int×(Bool×Unit))×((List Int)×((List Int)×((List Int)×((List Int)×Unit))))) (Sum ((Int×(Bool×Unit))×((List Int)×((List Int)×((List Int)×((List Int)×Unit))))) (Sum ((Int×(Bool×Unit))×((List Int)×((List Int)×((List Int)×((List Int)×Unit))))) (((List Int)×((List UInt8)×Unit))×Unit)))))=>ba x5 (fun(x6:((Int×(Bool×Unit))×((List Int)×((List Int)×((List Int)×((List Int)×Unit))))))=>some (Sum.inl x6)) some))) (fun(x7:(Sum ((Int×(Bool×Unit))×((List Int)×((List Int)×((List Int)×((List Int)×Unit))))) (Sum ((Int×(Bool×Unit))×((List Int)×((List Int)×((List Int)×((List Int)×Unit))))) (((List Int)×((List UInt8)×Unit))×Unit))))=>ba x7 (fun(x8:((Int×(Bool×Unit))×((List Int)×((List Int)×((List Int)×((List Int)×Unit))))))=>some (Sum.inl x8)) some))) (fun(x9:(Sum ((Int×(Bool×Unit))×((List Int)×((List Int)×((List Int)×((List Int)×Unit))))) (((List Int)×((List UInt8)×Unit))×Unit)))=>ba x9 (fun(x10:((Int×(Bool×Unit))×((List Int)×((List Int)×((List Int)×((List Int)×Unit))))))=>br x10.1.2.1 (some ((x10.2.1,(114::(45::(32::(109::(45::([]:List UInt8)))))),()),())) (bnd (br (eqI x10.1.1 13) (some (Sum.inl ((x10.1.1,(eqI x10.1.1 13),()),x10.2))) (bnd (br (eqI x10.1.1 14) (some (Sum.inl ((x10.1.1,(eqI x10.1.1 14),()),x10.2))) (bnd (br (eqI x10.1.1 15) (some (Sum.inl ((x10.1.1,(eqI x10.1.1 15),()),x10.2))) (some (Sum.inl ((x10.1.1,(eqI x10.1.1 16),()),x10.2)))) (fun(x11:(Sum ((Int×(Bool×Unit))×((List Int)×((List Int)×((List Int)×((List Int)×Unit))))) (Sum ((Int×(Bool×Unit))×((List Int)×((List Int)×((List Int)×((List Int)×Unit))))) (Sum ((Int×(Bool×Unit))×((List Int)×((List Int)×((List Int)×((List Int)×Unit))))) (((List Int)×((List UInt8)×Unit))×Unit)))))=>ba x11 (fun(x12:((Int×(Bool×Unit))×((List Int)×((List Int)×((List Int)×((List Int)×Unit))))))=>some (Sum.inl x12)) some))) (fun(x13:(Sum ((Int×(Bool×Unit))×((List Int)×((List Int)×((List Int)×((List Int)×Unit))))) (Sum ((Int×(Bool×Unit))×((List Int)×((List Int)×((List Int)×((List Int)×Unit))))) (((List Int)×((List UInt8)×Unit))×Unit))))=>ba x13 (fun(x14:((Int×(Bool×Unit))×((List Int)×((List Int)×((List Int)×((List Int)×Unit))))))=>some (Sum.inl x14)) some))) (fun(x15:(Sum ((Int×(Bool×Unit))×((List Int)×((List Int)×((List Int)×((List Int)×Unit))))) (((List Int)×((List UInt8)×Unit))×Unit)))=>ba x15 (fun(x16:((Int×(Bool×Unit))×((List Int)×((List Int)×((List Int)×((List Int)×Unit))))))=>br x16.1.2.1 (some ((x16.2.1,(45::(114::(32::(45::(109::([]:List UInt8)))))),()),())) (bnd (br (eqI x16.1.1 17) (some (Sum.inl ((x16.1.1,(eqI x16.1.1 17),()),x16.2.2))) (bnd (br (eqI x16.1.1 36) (some (Sum.inl ((x16.1.1,(eqI x16.1.1 36),()),x16.2.2))) (bnd (br (eqI x16.1.1 26) (some (Sum.inl ((x16.1.1,(eqI x16.1.1 26),()),x16.2.2))) (some (Sum.inl ((x16.1.1,(eqI x16.1.1 27),()),x16.2.2)))) (fun(x17:(Sum ((Int×(Bool×Unit))×((List Int)×((List Int)×((List Int)×Unit)))) (Sum ((Int×(Bool×Unit))×((List Int)×((List Int)×((List Int)×Unit)))) (Sum ((Int×(Bool×Unit))×((List Int)×((List Int)×((List Int)×Unit)))) (((List Int)×((List UInt8)×Unit))×Unit)))))=>ba x17 (fun(x18:((Int×(Bool×Unit))×((List Int)×((List Int)×((List Int)×Unit)))))=>some (Sum.inl x18)) some))) (fun(x19:(Sum ((Int×(Bool×Unit))×((List Int)×((List Int)×((List Int)×Unit)))) (Sum ((Int×(Bool×Unit))×((List Int)×((List Int)×((List Int)×Unit)))) (((List Int)×((List UInt8)×Unit))×Unit))))=>ba x19 (fun(x20:((Int×(Bool×Unit))×((List Int)×((List Int)×((List Int)×Unit)))))=>some (Sum.inl x20)) some))) (fun(x21:(Sum ((Int×(Bool×Unit))×((List Int)×((List Int)×((List Int)×Unit)))) (((List Int)×((List UInt8)×Unit))×Unit)))=>ba x21 (fun(x22:((Int×(Bool×Unit))×((List Int)×((List Int)×((List Int)×Unit)))))=>br x22.1.2.1 (some ((x22.2.1,(114::(114::(32::(114::(109::([]:List UInt8)))))),()),())) (br (eqI x22.1.1 25) (some ((x22.2.1,(114::(109::([]:List UInt8))),()),())) (bnd (br (eqI x22.1.1 29) (some (Sum.inl ((x22.1.1,(eqI x22.1.1 29),()),x22.2))) (bnd (br (eqI x22.1.1 31) (some (Sum.inl ((x22.1.1,(eqI x22.1.1 31),()),x22.2))) (some (Sum.inl ((x22.1.1,(eqI x22.1.1 32),()),x22.2)))) (fun(x23:(Sum ((Int×(Bool×Unit))×((List Int)×((List Int)×((List Int)×Unit)))) (Sum ((Int×(Bool×Unit))×((List Int)×((List Int)×((List Int)×Unit)))) (((List Int)×((List UInt8)×Unit))×Unit))))=>ba x23 (fun(x24:((Int×(Bool×Unit))×((List Int)×((List Int)×((List Int)×Unit)))))=>some (Sum.inl x24)) some))) (fun(x25:(Sum ((Int×(Bool×Unit))×((List Int)×((List Int)×((List Int)×Unit)))) (((List Int)×((List UInt8)×Unit))×Unit)))=>ba x25 (fun(x26:((Int×(Bool×Unit))×((List Int)×((List Int)×((List Int)×Unit)))))=>br x26.1.2.1 (some ((x26.2.2.1,(45::(114::(32::(45::(109::(32::(45::(105::([]:List UInt8))))))))),()),())) (br (eqI x26.1.1 30) (some ((x26.2.2.1,(114::(45::(32::(109::(45::([]:List UInt8)))))),()),())) (bnd (br (eqI x26.1.1 33) (some (Sum.inl ((x26.1.1,(eqI x26.1.1 33),()),x26.2.1,x26.2.2.2))) (some (Sum.inl ((x26.1.1,(eqI x26.1.1 44),()),x26.2.1,x26.2.2.2)))) (fun(x27:(Sum ((Int×(Bool×Unit))×((List Int)×((List Int)×Unit))) (((List Int)×((List UInt8)×Unit))×Unit)))=>ba x27 (fun(x28:((Int×(Bool×Unit))×((List Int)×((List Int)×Unit))))=>br x28.1.2.1 (some ((x28.2.2.1,(45::(105::([]:List UInt8))),()),())) (br (eqI x28.1.1 35) (some (((1::([]:List Int)),(114::(45::(32::(109::(45::([]:List UInt8)))))),()),())) (bnd (br (eqI x28.1.1 39) (some (Sum.inl ((x28.1.1,(eqI x28.1.1 39),()),x28.2))) (some (Sum.inl ((x28.1.1,(eqI x28.1.1 40),()),x28.2)))) (fun(x29:(Sum ((Int×(Bool×Unit))×((List Int)×((List Int)×Unit))) (((List Int)×((List UInt8)×Unit))×Unit)))=>ba x29 (fun(x30:((Int×(Bool×Unit))×((List Int)×((List Int)×Unit))))=>br x30.1.2.1 (some ((x30.2.1,(45::(45::([]:List UInt8))),()),())) (bnd (br (eqI x30.1.1 41) (some (Sum.inl (((eqI x30.1.1 41),()),x30.2.2))) (some (Sum.inl (((eqI x30.1.1 42),()),x30.2.2)))) (fun(x31:(Sum ((Bool×Unit)×((List Int)×Unit)) (((List Int)×((List UInt8)×Unit))×Unit)))=>ba x31 (fun(x32:((Bool×Unit)×((List Int)×Unit)))=>bnd (br x32.1.1 (some (Sum.inr (((1::([]:List Int)),(45::(45::([]:List UInt8))),()),()))) (some (Sum.inl x32))) (fun(x33:(Sum ((Bool×Unit)×((List Int)×Unit)) (((List Int)×((List UInt8)×Unit))×Unit)))=>ba x33 (fun(x34:((Bool×Unit)×((List Int)×Unit)))=>some ((x34.2.1,(45::(45::([]:List UInt8))),()),())) some)) some))) some)))) some)))) some)))) some))) some))) some)))))))
def ll (x1:(((Int×(Int×(Int×(Int×(Int×(Int×(Int×Unit)))))))×Unit)×Unit)):Option ((List UInt8)×Unit):=
 (br (eqI x1.1.1.1 1) (some ((114::([]:List UInt8)),())) (br (eqI x1.1.1.1 2) (some ((109::([]:List UInt8)),())) (br (eqI x1.1.1.1 3) (some ((105::([]:List UInt8)),())) (some ((45::([]:List UInt8)),())))))
def xH (x1:((Ins×Unit)×Unit)):Option (Bool×Unit):=
 (br (eqI x1.1.1.op 26) (bnd (br (eqI x1.1.1.frm 1) (some Bool.true) (bnd (br (eqI x1.1.1.frm 2) (some (ltI 2 x1.1.1.size)) (some Bool.false)) (fun(x2:Bool)=>some x2))) (fun(x3:Bool)=>some (x3,()))) (br (eqI x1.1.1.op 27) (bnd (br (eqI x1.1.1.frm 1) (some Bool.true) (bnd (br (eqI x1.1.1.frm 2) (some (ltI 2 x1.1.1.size)) (some Bool.false)) (fun(x4:Bool)=>some x4))) (fun(x5:Bool)=>bnd (br x5 (some Bool.true) (bnd (br (eqI x1.1.1.frm 4) (some (eqI x1.1.1.size 8)) (some Bool.false)) (fun(x6:Bool)=>some x6))) (fun(x7:Bool)=>some (x7,())))) (some ((eqI x1.1.1.frm 0),()))))
def kk (x1:((Int×Unit)×Unit)):Option (Bool×Unit):=
 (bnd (br (eqI x1.1.1 1) (some Bool.true) (some (eqI x1.1.1 2))) (fun(x2:Bool)=>bnd (br x2 (some Bool.true) (some (eqI x1.1.1 4))) (fun(x3:Bool)=>bnd (br x3 (some Bool.true) (some (eqI x1.1.1 8))) (fun(x4:Bool)=>some (x4,())))))
def ze (x1:((Int×(Int×Unit))×Unit)):Option (Bool×Unit):=
 (bnd (kk (x1.1.2,())) (fun(x2:(Bool×Unit))=>bnd (br x2.1 (bnd (az ((x1.1.1,0,15,()),())) (fun(x3:(Bool×Unit))=>bnd (br x3.1 (some Bool.true) (bnd (br (eqI x1.1.2.1 1) (bnd (aS ((x1.1.1,()),())) (fun(x4:(Bool×Unit))=>some x4.1)) (some Bool.false)) (fun(x5:Bool)=>some x5))) (fun(x6:Bool)=>some x6))) (some Bool.false)) (fun(x7:Bool)=>some (x7,()))))
def rD (x1:((Int×(Int×Unit))×Unit)):Option (Bool×Unit):=
 (bnd (cm x1) (fun(x2:(Int×Unit))=>some ((eqI x2.1 x1.1.1),())))
def qY (x1:(((Int×(Int×(Int×(Int×(Int×(Int×(Int×Unit)))))))×Unit)×Unit)):Option (Bool×Unit):=
 (bnd (br (eqI x1.1.1.2.2.2.2.1 1) (some Bool.true) (bnd (br (bm (eqI x1.1.1.2.2.2.1 (-1))) (bnd (br (eqI x1.1.1.2.2.2.2.1 2) (some Bool.true) (some (eqI x1.1.1.2.2.2.2.1 4))) (fun(x2:Bool)=>bnd (br x2 (some Bool.true) (some (eqI x1.1.1.2.2.2.2.1 8))) (fun(x3:Bool)=>some x3))) (some Bool.false)) (fun(x4:Bool)=>some x4))) (fun(x5:Bool)=>bnd (br (eqI x1.1.1.1 2) (some (eqI x1.1.1.2.1 0)) (some Bool.false)) (fun(x6:Bool)=>bnd (br x6 (some (eqI x1.1.1.2.2.2.2.2.2.1 0)) (some Bool.false)) (fun(x7:Bool)=>bnd (br x7 (bnd (az ((x1.1.1.2.2.1,(-1),16,()),())) (fun(x8:(Bool×Unit))=>some x8.1)) (some Bool.false)) (fun(x9:Bool)=>bnd (br x9 (bnd (az ((x1.1.1.2.2.2.1,(-1),15,()),())) (fun(x10:(Bool×Unit))=>some x10.1)) (some Bool.false)) (fun(x11:Bool)=>bnd (br x11 (some (bm (eqI x1.1.1.2.2.2.1 4))) (some Bool.false)) (fun(x12:Bool)=>bnd (br x12 (some x5) (some Bool.false)) (fun(x13:Bool)=>bnd (br x13 (bnd (br (bm (eqI x1.1.1.2.2.1 16)) (some Bool.true) (some (eqI x1.1.1.2.2.2.1 (-1)))) (fun(x14:Bool)=>some x14)) (some Bool.false)) (fun(x15:Bool)=>bnd (br x15 (bnd (rD ((x1.1.1.2.2.2.2.2.1,4,()),())) (fun(x16:(Bool×Unit))=>some x16.1)) (some Bool.false)) (fun(x17:Bool)=>some (x17,())))))))))))
def pn (x1:(((Int×(Int×(Int×(Int×(Int×(Int×(Int×Unit)))))))×(Int×Unit))×Unit)):Option (Bool×Unit):=
 (bnd (kk (x1.1.2,())) (fun(x2:(Bool×Unit))=>br (bm x2.1) (some (Bool.false,())) (br (eqI x1.1.1.1 1) (bnd (fO ((x1.1.1.2.1,()),())) (fun(x3:((Int×(Int×(Int×(Int×(Int×(Int×(Int×Unit)))))))×Unit))=>br (kC (eqI x1.1.1.1 x3.1.1) (kC (eqI x1.1.1.2.1 x3.1.2.1) (kC (eqI x1.1.1.2.2.1 x3.1.2.2.1) (kC (eqI x1.1.1.2.2.2.1 x3.1.2.2.2.1) (kC (eqI x1.1.1.2.2.2.2.1 x3.1.2.2.2.2.1) (kC (eqI x1.1.1.2.2.2.2.2.1 x3.1.2.2.2.2.2.1) (eqI x1.1.1.2.2.2.2.2.2.1 x3.1.2.2.2.2.2.2.1))))))) (bnd (ze ((x1.1.1.2.1,x1.1.2),())) (fun(x4:(Bool×Unit))=>some x4)) (some (Bool.false,())))) (br (eqI x1.1.1.1 2) (bnd (qY ((x1.1.1,()),())) (fun(x5:(Bool×Unit))=>some x5)) (br (eqI x1.1.1.1 3) (bnd (dJ (x1.1.1.2.2.2.2.2.2,())) (fun(x6:((Int×(Int×(Int×(Int×(Int×(Int×(Int×Unit)))))))×Unit))=>some ((kC (eqI x1.1.1.1 x6.1.1) (kC (eqI x1.1.1.2.1 x6.1.2.1) (kC (eqI x1.1.1.2.2.1 x6.1.2.2.1) (kC (eqI x1.1.1.2.2.2.1 x6.1.2.2.2.1) (kC (eqI x1.1.1.2.2.2.2.1 x6.1.2.2.2.2.1) (kC (eqI x1.1.1.2.2.2.2.2.1 x6.1.2.2.2.2.2.1) (eqI x1.1.1.2.2.2.2.2.2.1 x6.1.2.2.2.2.2.2.1))))))),()))) (some ((kC (eqI x1.1.1.1 0) (kC (eqI x1.1.1.2.1 0) (kC (eqI x1.1.1.2.2.1 0) (kC (eqI x1.1.1.2.2.2.1 0) (kC (eqI x1.1.1.2.2.2.2.1 0) (kC (eqI x1.1.1.2.2.2.2.2.1 0) (eqI x1.1.1.2.2.2.2.2.2.1 0))))))),())))))))
def uO (x1:((Ins×Unit)×Unit)):Option (Bool×Unit):=
 (bnd (dz ((x1.1.1.op,()),())) (fun(x2:(Bool×Unit))=>bnd (br x2.1 (some Bool.true) (some (eqI x1.1.1.op 44))) (fun(x3:Bool)=>br x3 (bnd (mb ((x1.1.1.src.imm,()),())) (fun(x4:(Bool×Unit))=>some x4)) (bnd (br (eqI x1.1.1.op 9) (some (eqI x1.1.1.size 8)) (some Bool.false)) (fun(x5:Bool)=>bnd (br x5 (some (eqI x1.1.1.dst.kind 1)) (some Bool.false)) (fun(x6:Bool)=>br x6 (some (Bool.true,())) (br (eqI x1.1.1.size 0) (bnd (rD ((x1.1.1.src.imm,4,()),())) (fun(x7:(Bool×Unit))=>some x7)) (bnd (rD ((x1.1.1.src.imm,(jp 4 x1.1.1.size),()),())) (fun(x8:(Bool×Unit))=>some x8)))))))))
def rj (x1:(((Int×(Int×(Int×(Int×(Int×(Int×(Int×Unit)))))))×Unit)×Unit)):Option (Bool×Unit):=
 (bnd (br (eqI x1.1.1.1 1) (bnd (aS ((x1.1.1.2.1,()),())) (fun(x2:(Bool×Unit))=>some x2.1)) (some Bool.false)) (fun(x3:Bool)=>some (x3,())))
def xI (x1:((Ins×Unit)×Unit)):Option (Bool×Unit):=
 (bnd (fL ((x1.1.1.op,()),())) (fun(x2:((Int×(Bool×Unit))×Unit))=>bnd (br (eqI x1.1.1.size 8) (some (bm x2.1.2.1)) (some Bool.false)) (fun(x3:Bool)=>some (x3,()))))
def lU (x1:((Int×Unit)×Unit)):Option (Bool×Unit):=
 (bnd (az ((x1.1.1,8,15,()),())) (fun(x2:(Bool×Unit))=>some x2))
def uc (x1:(((Int×(Int×(Int×(Int×(Int×(Int×(Int×Unit)))))))×(Int×Unit))×Unit)):Option (Bool×Unit):=
 (bnd (br (eqI x1.1.1.1 1) (some (eqI x1.1.2.1 1)) (some Bool.false)) (fun(x2:Bool)=>bnd (br x2 (bnd (az ((x1.1.1.2.1,4,7,()),())) (fun(x3:(Bool×Unit))=>some x3.1)) (some Bool.false)) (fun(x4:Bool)=>some (x4,()))))
def rh (x1:(((Int×(Int×(Int×(Int×(Int×(Int×(Int×Unit)))))))×(Int×Unit))×Unit)):Option (Bool×Unit):=
 (br (eqI x1.1.1.1 1) (bnd (lU ((x1.1.1.2.1,()),())) (fun(x2:(Bool×Unit))=>bnd (br x2.1 (some Bool.true) (bnd (uc x1) (fun(x3:(Bool×Unit))=>some x3.1))) (fun(x4:Bool)=>some (x4,())))) (br (eqI x1.1.1.1 2) (bnd (lU ((x1.1.1.2.2.1,()),())) (fun(x5:(Bool×Unit))=>bnd (br x5.1 (some Bool.true) (bnd (lU ((x1.1.1.2.2.2.1,()),())) (fun(x6:(Bool×Unit))=>some x6.1))) (fun(x7:Bool)=>some (x7,())))) (some (Bool.false,()))))
def uQ (x1:((Ins×Unit)×Unit)):Option (Bool×Unit):=
 (bnd (xI x1) (fun(x2:(Bool×Unit))=>br x2.1 (some (Bool.true,())) (bnd (rh (((dw x1.1.1.dst ()),x1.1.1.size,()),())) (fun(x3:(Bool×Unit))=>br x3.1 (some (Bool.true,())) (bnd (gl x1) (fun(x4:(Int×Unit))=>bnd (rh (((dw x1.1.1.src ()),x4),())) (fun(x5:(Bool×Unit))=>some x5)))))))
def re (x1:((Ins×Unit)×Unit)):Option (Bool×Unit):=
 (bnd (uP ((x1.1.1.op,()),())) (fun(x2:(Bool×Unit))=>bnd (br (bm x2.1) (some Bool.true) (bnd (az ((x1.1.1.len,0,15,()),())) (fun(x3:(Bool×Unit))=>some (bm x3.1)))) (fun(x4:Bool)=>bnd (br x4 (some Bool.true) (bnd (az ((x1.1.1.cond,0,15,()),())) (fun(x5:(Bool×Unit))=>some (bm x5.1)))) (fun(x6:Bool)=>bnd (br x6 (some Bool.true) (bnd (br (bm (eqI x1.1.1.cond 0)) (bnd (wu ((x1.1.1.op,()),())) (fun(x7:(Bool×Unit))=>some (bm x7.1))) (some Bool.false)) (fun(x8:Bool)=>some x8))) (fun(x9:Bool)=>br x9 (some (Bool.false,())) (bnd (ri ((x1.1.1.op,()),())) (fun(x10:(((List Int)×((List UInt8)×Unit))×Unit))=>iter (σ:=(((List UInt8)×(Bool×((List Int)×(Int×(Int×Unit)))))×((Int×(Int×(Int×(Int×(Int×(Int×(Int×(Int×(Int×(Int×(Int×(Int×(Int×(Int×(Int×(Int×(Int×(Int×(Int×Unit)))))))))))))))))))×Unit))) F (fun(x11:((((List UInt8)×(Bool×((List Int)×(Int×(Int×Unit)))))×((Int×(Int×(Int×(Int×(Int×(Int×(Int×(Int×(Int×(Int×(Int×(Int×(Int×(Int×(Int×(Int×(Int×(Int×(Int×Unit)))))))))))))))))))×Unit))->(Option (Bool×Unit))))=>(fun(x12:(((List UInt8)×(Bool×((List Int)×(Int×(Int×Unit)))))×((Int×(Int×(Int×(Int×(Int×(Int×(Int×(Int×(Int×(Int×(Int×(Int×(Int×(Int×(Int×(Int×(Int×(Int×(Int×Unit)))))))))))))))))))×Unit)))=>(let u1:=(x12.2.1.2.2.2.2.1,x12.2.1.2.2.2.2.2.1,x12.2.1.2.2.2.2.2.2.1,x12.2.1.2.2.2.2.2.2.2.1,x12.2.1.2.2.2.2.2.2.2.2.1,x12.2.1.2.2.2.2.2.2.2.2.2.1,x12.2.1.2.2.2.2.2.2.2.2.2.2.1,());(let u0:=(x12.2.1.2.2.2.2.2.2.2.2.2.2.2.1,x12.2.1.2.2.2.2.2.2.2.2.2.2.2.2.1,x12.2.1.2.2.2.2.2.2.2.2.2.2.2.2.2.1,x12.2.1.2.2.2.2.2.2.2.2.2.2.2.2.2.2.1,x12.2.1.2.2.2.2.2.2.2.2.2.2.2.2.2.2.2.1,x12.2.1.2.2.2.2.2.2.2.2.2.2.2.2.2.2.2.2.1,x12.2.1.2.2.2.2.2.2.2.2.2.2.2.2.2.2.2.2.2.1,());(br (ltI x12.1.2.2.2.2.1 x12.1.2.2.2.1) (br (inR x12.1.2.2.2.2.1 (da x12.1.2.2.1)) (bnd (br x12.1.2.1 (some Bool.true) (some (eqI (bk x12.1.2.2.1 x12.1.2.2.2.2.1 (aJ .i)) x12.2.1.2.1))) (fun(x13:Bool)=>x11 ((x12.1.1,x13,x12.1.2.2.1,x12.1.2.2.2.1,(aL IntKind.i64 x12.1.2.2.2.2.1 1),()),x12.2))) none) (bnd (ll ((u1,()),())) (fun(x14:((List UInt8)×Unit))=>bnd (ll ((u0,()),())) (fun(x15:((List UInt8)×Unit))=>br (dO x14.1 x15.1) (bnd (br (bm x12.1.2.1) (some Bool.true) (bnd (xH (((m8 x12.2.1),()),())) (fun(x16:(Bool×Unit))=>some (bm x16.1)))) (fun(x17:Bool)=>bnd (br x17 (some Bool.true) (br (dO (32::([]:List UInt8)) x12.1.1) (br (dO (eI (32::([]:List UInt8)) x12.1.1) (32::([]:List UInt8))) (br (dO (32::([]:List UInt8)) (eI x14.1 x15.1)) (br (dO (eI (32::([]:List UInt8)) (eI x14.1 x15.1)) (32::([]:List UInt8))) (br (hasLim (eI (eI (32::([]:List UInt8)) x12.1.1) (32::([]:List UInt8)))) (some (bm (hasS (eI (eI (32::([]:List UInt8)) x12.1.1) (32::([]:List UInt8))) (eI (eI (32::([]:List UInt8)) (eI x14.1 x15.1)) (32::([]:List UInt8)))))) none) none) none) none) none)) (fun(x18:Bool)=>br x18 (some (Bool.false,())) (bnd (pn ((u1,(F7 1 x12.2.1.2.1),()),())) (fun(x19:(Bool×Unit))=>br (bm x19.1) (some (Bool.false,())) (bnd (gl (((m8 x12.2.1),()),())) (fun(x20:(Int×Unit))=>bnd (pn ((u0,x20),())) (fun(x21:(Bool×Unit))=>br (bm x21.1) (some (Bool.false,())) (bnd (br (eqI x12.2.1.2.2.2.2.2.2.2.2.2.2.2.1 3) (bnd (uO (((m8 x12.2.1),()),())) (fun(x22:(Bool×Unit))=>some (bm x22.1))) (some Bool.false)) (fun(x23:Bool)=>br x23 (some (Bool.false,())) (bnd (dz ((x12.2.1.1,()),())) (fun(x24:(Bool×Unit))=>bnd (br x24.1 (some (eqI x12.2.1.2.2.2.2.2.2.2.2.2.2.2.1 1)) (some Bool.false)) (fun(x25:Bool)=>bnd (br x25 (some (bm (eqI x12.2.1.2.2.2.2.2.2.2.2.2.2.2.2.1 1))) (some Bool.false)) (fun(x26:Bool)=>br x26 (some (Bool.false,())) (bnd (rj ((u1,()),())) (fun(x27:(Bool×Unit))=>bnd (br x27.1 (some Bool.true) (bnd (rj ((u0,()),())) (fun(x28:(Bool×Unit))=>some x28.1))) (fun(x29:Bool)=>bnd (br (bm x29) (some Bool.true) (bnd (uQ (((m8 x12.2.1),()),())) (fun(x30:(Bool×Unit))=>some (bm x30.1)))) (fun(x31:Bool)=>some (x31,()))))))))))))))))))) none)))))))) ((x10.1.2.1,Bool.false,x10.1.1,(da x10.1.1),0,()),(ew x1.1.1 ()),()))))))))
end Go.Den.G
end
end
namespace Go.Den.G
open Go.Den
def sx (m:Nat)(v:Int):Int:=if(v%2^64/2^m)%2=1 then v%2^(m+1)-2^(m+1)else v%2^(m+1)
theorem pm {n:Int}(h0:0<=n)(h1:n<2^64):IntKind.wrap .u64 n=n:=by
 simp only[IntKind.wrap,IntKind.bits,IntKind.signed,Bool.false_and,og,if_false]
 exact jb h0 h1
theorem J0 (n:Int):IntKind.wrap .u64 n=n%2^64:=by
 simp[IntKind.wrap,IntKind.bits,IntKind.signed]
theorem pL (v i:Int)(h0:0<=i)(h1:i<=63):bg ((v,i,()),())=some (v%2^64/2^i.toNat%2,()):=by
 unfold bg
 dsimp only
 have hw:an IntKind.u64 i=i:=pm h0 (by omega)
 rw[hw,ag (gY h0)]
 have hi:min i.toNat 64=i.toNat:=by omega
 have e:gC (dC IntKind.u64 (an IntKind.u64 v) i) 2=v%2^64/2^i.toNat%2:=by
  unfold gC dC an
  rw[J0]
  show Int.tmod (Int.fdiv (v%2^64) (2^(min i.toNat 64))) 2=_
  rw[hi]
  have hp:(0:Int)<2^i.toNat:=cI (by decide)
  rw[i7 _ (je hp),mS (qE (eg _ (by decide)) (je hp))]
 rw[e]
 rcases Int.emod_two_eq (v%2^64/2^i.toNat)with h|h
 ·rw[h,aq (aD (by decide))]
 ·rw[h,ag (bK rfl)]
def kQ (m u:Nat):Nat:=2^(m+1)*((u/2^m%2)*(2^(63-m)-1))+u%2^(m+1)
theorem ED (m u i:Nat)(hm:m<=63)(hi:i<=63):kQ m u/2^i%2=u/2^(min i m)%2:=by
 have hb:∀a j:Nat,a/2^j%2=(a.testBit j).toNat:=fun a j=>by rw[oA];rcases sP (a/2^j)with h|h<;>simp[h]
 rw[hb,hb]
 congr 1
 unfold kQ
 rw[Nat.testBit_two_pow_mul_add _ (cr _ (cE _))]
 split
 ·rename_i h
  rw[qr,show min i m=i by omega]
  simp[h]
 ·rename_i h
  rw[show min i m=m by omega,hb]
  cases hs:u.testBit m with
  |false=>simp
  |true=>
   simp only[Bool.toNat_true,jg]
   rw[Nat.testBit_two_pow_sub_one]
   simp;omega
theorem wi (m u:Nat)(hm:m<=63):kQ m u<2^64:=by
 unfold kQ
 have h1:u%2^(m+1)<2^(m+1):=cr _ (cE _)
 have h2:(u/2^m%2)*(2^(63-m)-1)<=2^(63-m)-1:=by
  have:u/2^m%2<=1:=by omega
  calc _<=1*(2^(63-m)-1):=ed _ this
   _=_:=jg _
 have h3:2^(m+1)*2^(63-m)=(2:Nat)^64:=by rw[<-eD];congr 1;omega
 have h4:2^(m+1)*((u/2^m%2)*(2^(63-m)-1))<=2^(m+1)*(2^(63-m)-1):=oe _ h2
 have h6:2^(m+1)*(2^(63-m)-1)=2^64-2^(m+1):=by rw[Nat.mul_sub,eB,h3]
 rw[h6]at h4
 have h5:(2:Nat)^(m+1)<=2^64:=cX (by decide) (by omega)
 omega
def uns (v:Int):Nat:=(v%2^64).toNat
theorem bX (v:Int):((uns v:Nat):Int)=v%2^64:=by unfold uns;have:=eg v (show(2:Int)^64≠0 by decide);omega
theorem Hi (m:Nat)(v:Int)(hm:m<=63):IntKind.wrap .i64 (kQ m (uns v):Nat)=sx m v:=by
 have hlt:=wi m (uns v) hm
 have hu:=bX v
 have hp:((2^m:Nat):Int)=2^m:=by simp
 have hp1:((2^(m+1):Nat):Int)=2^(m+1):=by simp
 have hs:v%2^64/2^m%2=((uns v/2^m%2:Nat):Int):=by rw[<-hu];simp
 have hr:v%2^(m+1)=((uns v%2^(m+1):Nat):Int):=by
  have h1:v%2^(m+1)=v%2^64%2^(m+1):=by
   rw[gP]
   exact⟨2^(63-m),by rw[<-jh];congr 1;omega⟩
  rw[h1,<-hu];simp
 have hmod:uns v%2^(m+1)<2^(m+1):=cr _ (cE _)
 have h64:2^(m+1)*2^(63-m)=(2:Nat)^64:=by rw[<-eD];congr 1;omega
 unfold sx
 rw[hs,hr]
 have hle:(2:Nat)^(m+1)<=2^64:=cX (by decide) (by omega)
 have hdbl:(2:Nat)^(m+1)=2^m*2:=cP 2 m
 have hle2:(2:Nat)^m<=2^63:=cX (by decide) hm
 have hhi:uns v%2^(m+1)/2^m=uns v/2^m%2:=by rw[hdbl,mU]
 rcases sP (uns v/2^m)with h|h
 ·rw[h,iD]
  have e:kQ m (uns v)=uns v%2^(m+1):=by unfold kQ;rw[h];simp
  rw[e]
  have:uns v%2^(m+1)<2^m:=by
   rw[h]at hhi
   exact(Nat.div_eq_zero_iff.1 hhi).resolve_left (by have:=cE m;omega)
  exact fd (by unfold I64;omega)
 ·rw[h,aa (by rfl)]
  have e:kQ m (uns v)+2^(m+1)=2^64+uns v%2^(m+1):=by
   unfold kQ
   rw[h,jg,Nat.mul_sub,eB,h64]
   omega
  have h2:2^m<=uns v%2^(m+1):=by
   rw[h]at hhi
   have:=lC (uns v%2^(m+1)) (2^m)
   rw[hhi]at this;omega
  have:((kQ m (uns v):Nat):Int)=((uns v%2^(m+1):Nat):Int)-2^(m+1)+2^64:=by rw[<-hp1];omega
  rw[this]
  have hw:∀n:Int,IntKind.wrap .i64 (n+2^64)=IntKind.wrap .i64 n:=fun n=>by
   have h3:(n+2^64)%2^IntKind.i64.bits=n%2^IntKind.i64.bits:=Int.add_emod_right ..
   simp only[IntKind.wrap,h3]
  rw[hw]
  rw[<-hp1]
  exact fd (by unfold I64;omega)
theorem jq (v n:Int)(h0:1<=n)(h1:n<=8):bi ((v,n,()),())=some (sx (8*n-1).toNat v,()):=by
 unfold bi
 obtain⟨k,hk⟩:∃k:Nat,n=k:=⟨n.toNat,by omega⟩
 subst hk
 generalize hm:(8*(k:Int)-1).toNat=m
 have hm63:m<=63:=by omega
 refine(iJ (fun x=>x.1.1=v/\x.1.2.1=(k:Int)/\ -1<=x.1.2.2.2.1/\x.1.2.2.2.1<=63/\x.1.2.2.1=((kQ m (uns v)/2^(x.1.2.2.2.1+1).toNat:Nat):Int)) (fun x=>(x.1.2.2.2.1+1).toNat)
  (fun _=>some (sx m v,())) ?_ F _ ⟨rfl,rfl,by show(-1:Int)<=63;decide,by show(63:Int)<=63;decide,?_⟩ (by show((63:Int)+1).toNat<F;decide)).trans rfl
 ·rintro⟨⟨v',k',acc,i,_⟩,_⟩ rec ⟨rfl,hk',h2,h3,hacc⟩ hrec
  dsimp only at hk' h2 h3 hacc hrec|-
  subst hk'
  by_cases hi:0<=i
  ·obtain⟨j,rfl⟩:=bU hi
   rw[ag (gY hi)]
   have e1:bo .i64 (cj .i64 8 (k:Int)) 1=(m:Int):=by
    rw[dh,bN];omega
   rw[e1]
   have e2:jp (j:Int) (m:Int)=((min j m:Nat):Int):=by unfold jp;split<;>omega
   rw[e2,pL _ _ (by omega) (by omega),af]
   dsimp only
   have e3:v'%2^64/2^(((min j m:Nat):Int)).toNat%2=((kQ m (uns v')/2^j%2:Nat):Int):=by
    rw[ED m _ j hm63 (by omega),<-bX];simp
   rw[e3]
   have hlt:=wi m (uns v') hm63
   have e4:kQ m (uns v')/2^(((j:Int)+1).toNat)=kQ m (uns v')/2^j/2:=by
    rw[show((j:Int)+1).toNat=j+1 by omega,cP,oC]
   rw[e4]at hacc
   generalize hq:kQ m (uns v')/2^j=q at hacc|-
   have hq2:q<2^64:=by rw[<-hq];exact gQ (oo _ _) hlt
   have e5:aL .u64 (cj .u64 2 acc) (an .u64 ((q%2:Nat):Int))=(q:Int):=by
    unfold aL cj an
    rw[hacc,pm (n:=2*((q/2:Nat):Int)) (by omega) (by omega),pm (n:=((q%2:Nat):Int)) (by omega) (by omega),pm (by omega) (by omega)]
    omega
   rw[e5,bN]
   refine hrec _ ⟨rfl,rfl,by dsimp only;omega,by dsimp only;omega,?_⟩ (by dsimp only;omega)
   dsimp only
   rw[show((j:Int)-1+1).toNat=j by omega,hq]
  ·rw[aq (mI hi)]
   have:i= -1:=by omega
   subst this
   rw[hacc]
   have:kQ m (uns v')/2^((-1:Int)+1).toNat=kQ m (uns v'):=by simp
   rw[this]
   show some (IntKind.wrap .i64 _,())=_
   rw[Hi m v' hm63]
 ·have hlt:=wi m (uns v) hm63
  show(0:Int)=((kQ m (uns v)/2^((63:Int)+1).toNat:Nat):Int)
  rw[show((63:Int)+1).toNat=64 from rfl,mY hlt];rfl
theorem qb (v n:Int)(h0:1<=n)(h1:n<=8):cm ((v,n,()),())=some (sx (8*n-1).toNat v,()):=by
 unfold cm
 dsimp only
 have e:bo .i64 64 (cj .i64 8 n)=64-8*n:=by rw[dh,bN]
 rw[e,ag (gY),ag (gY)]
 congr 2
 obtain⟨m,hm⟩:∃m:Nat,8*n-1=m:=⟨(8*n-1).toNat,by omega⟩
 have hn:64-8*n=((63-m:Nat):Int):=by omega
 rw[hm,hn]
 have hm63:m<=63:=by omega
 simp only[bu]
 unfold dC eW
 rw[show min (((63-m:Nat):Int)).toNat IntKind.i64.bits=63-m by simp[IntKind.bits];omega]
 have hp:(0:Int)<2^(63-m):=cI (by decide)
 rw[i7 _ (je hp)]
 have h64:(2:Int)^(m+1)*2^(63-m)=2^64:=by rw[<-jh];congr 1;omega
 have h63:(2:Int)^m*2^(63-m)=2^63:=by rw[<-jh];congr 1;omega
 have hr:=eg v (show(2:Int)^(m+1)≠0 from jf (cI (by decide)))
 have hr2:=eZ v (show(0:Int)<2^(m+1)from cI (by decide))
 have hsv:v%2^64/2^m%2=v%2^(m+1)/2^m:=by
  have h1:v%2^(m+1)=v%2^64%2^(m+1):=by
   rw[gP]
   exact⟨2^(63-m),h64.symm⟩
  rw[h1,jS 2 m]
  have hu:=bX v
  rw[<-hu]
  have:((2:Int)^m)=((2^m:Nat):Int):=by simp
  rw[this]
  have h2:((2^m:Nat):Int)*2=((2^m*2:Nat):Int):=by simp
  rw[h2]
  rw[<-gf,<-dM,<-gf,mU]
  simp
 have hdm:v=v%2^(m+1)+2^(m+1)*(v/2^(m+1)):=(Int.emod_add_mul_ediv ..).symm
 have hmul:v*2^(63-m)%2^64=v%2^(m+1)*2^(63-m):=by
  rw[<-h64,Int.mul_comm v,Int.mul_comm (2^(m+1)),Int.mul_emod_mul_of_pos _ _ hp,Int.mul_comm]
 unfold sx
 rw[hsv]
 generalize v%2^(m+1)=r at*
 have hpm:(0:Int)<2^m:=cI (by decide)
 have hdbl:(2:Int)^(m+1)=2^m*2:=jS 2 m
 simp only[IntKind.wrap,IntKind.bits,IntKind.signed,jR,aG,ge_iff_le]
 rw[show((64:Nat)-1)=63 from rfl,hmul]
 by_cases hs:(2:Int)^m<=r
 ·have hq:r/2^m=1:=by
   rw[qt hpm]
   omega
  rw[hq,aa rfl]
  have hge:(2:Int)^63<=r*2^(63-m):=by rw[<-h63];exact Int.mul_le_mul_of_nonneg_right hs (je hp)
  rw[aa hge,<-h64,<-Int.sub_mul,Int.mul_ediv_cancel _ (jf hp)]
 ·have hq:r/2^m=0:=qu hr (by omega)
  rw[hq]
  have hge:¬(2:Int)^63<=r*2^(63-m):=by
   rw[<-h63,Int.not_le]
   exact Int.mul_lt_mul_of_pos_right (by omega) hp
  rw[ae hge,iD,Int.mul_ediv_cancel _ (jf hp)]
def fitsB (v n:Int):Bool:=eqI (sx (8*n-1).toNat v) v
theorem xb (v n:Int)(h0:1<=n)(h1:n<=4):bC ((v,n,()),())=some (fitsB v n,()):=by
 unfold bC
 dsimp only
 rw[show jp n 4=n by unfold jp;split<;>omega,jq v n h0 (by omega),af]
 rfl
set_option maxRecDepth 100000
def pg (m:List Page)(i:Int):Page:=bk m i (aJ .page)
def inB (a b c:Int):Bool:=decide (b<=a)&&decide (a<=c)
theorem uy (a b c:Int):ax ((a,b,c,()),())=some (inB a b c,()):=by
 unfold ax inB
 dsimp only
 by_cases h:b<=a
 ·rw[ag (gY h),af];simp[leI,h]
 ·rw[aq (mI h),af];simp[h]
theorem qh (a b c:Int):az ((a,b,c,()),())=some (inB a b c,()):=uy a b c
def oI (b:Int):Bool:=inB b 0 65535&&eqI (gC b 256) 0
def rn (p:Int):Bool:=inB p 0 7
theorem wZ (b:Int):jD ((b,()),())=some (oI b,()):=by
 unfold jD oI
 rw[uy,af]
 dsimp only
 cases inB b 0 65535<;>simp[aV,ap,af]
theorem Gc (b:Int):ma ((b,()),())=some (oI b,()):=wZ b
theorem xa (b:Int):jF ((b,()),())=some (rn b,()):=by
 unfold jF rn
 rw[uy,af]
theorem Ge (b:Int):mc ((b,()),())=some (rn b,()):=xa b
def good (m:List Page)(i:Int):Bool:=
 oI (pg m i).base&&(rn (pg m i).perm&&(eqI ((pg m i).data.length:Int) 256&&(!decide (0<i)||ltI (pg m (i-1)).base (pg m i).base)))
def pv (m:List Page)(i:Nat):Bool:=(List.range' i (m.length-i)).all fun j=>good m j
theorem vQ {m:List Page}{i:Nat}(h:i<m.length):pv m i=(good m i&&pv m (i+1)):=by
 unfold pv
 rw[show m.length-i=(m.length-(i+1))+1 by omega,List.range'_succ]
 rfl
theorem xo {m:List Page}{i:Nat}(h:m.length<=i):pv m i=true:=by
 unfold pv
 rw[show m.length-i=0 by omega];rfl
def Ac (m:List Page):Bool:=decide ((m.length:Int)<=32)&&pv m 0
theorem wU (m:List Page)(i:Nat):good m i=(oI (pg m i).base&&(rn (pg m i).perm&&(eqI ((pg m i).data.length:Int) 256&&(!decide (0<(i:Int))||ltI (pg m ((i:Int)-1)).base (pg m i).base)))):=rfl
theorem z5 (a b:Int):leI a b= !ltI b a:=by unfold leI ltI;by_cases h:a<=b<;>simp[h]<;>omega
theorem uo (m:List Page)(hm:(m.length:Int)<4611686018427387904):iT (((m,()),()),())=some (Ac m,()):=by
 unfold iT Ac
 simp only[bW]
 by_cases h32:(32:Int)<m.length
 ·rw[ag (kN h32)];simp[show ¬(m.length:Int)<=32 by omega]
 ·rw[aq (kJ h32)]
  refine(iJ (fun x=>x.2.1.1=m/\0<=x.1.1/\x.1.1<=(m.length:Int)) (fun x=>m.length-x.1.1.toNat) (fun x=>some (pv m x.1.1.toNat,())) ?_ F _ ?_ ?_).trans ?_
  ·rintro⟨⟨i,_⟩,⟨xs,_⟩,_⟩ rec ⟨rfl,h0,h1⟩ hrec
   dsimp only at h0 h1 hrec hm h32|-
   by_cases hi:i<xs.length
   ·obtain⟨n,rfl⟩:=bU h0
    have hn:n<xs.length:=by omega
    rw[ag (kN hi),ag (cQ h0 hi),wZ,af]
    dsimp only
    have hst:rec (((aL IntKind.i64 (n:Int) 1),()),(xs,()),())=some (pv xs (n+1),()):=by
     rw[aW]
     rw[hrec _ ⟨rfl,by dsimp only;omega,by dsimp only;omega⟩ (by dsimp only;omega)]
     rfl
    rw[hst,bu,vQ hn,wU]
    show _=some ((oI (bk xs (n:Int) (aJ .page)).base&&_)&&_,())
    cases oI (bk xs (n:Int) (aJ .page)).base
    ·rfl
    ·rw[mr,kB,ap,xa,af]
     dsimp only
     show _=some ((true&&(rn (bk xs (n:Int) (aJ .page)).perm&&_))&&_,())
     cases rn (bk xs (n:Int) (aJ .page)).perm
     ·rfl
     ·rw[mr,kB,ap,mr]
      show _=some ((true&&(true&&(eqI ((bk xs (n:Int) (aJ .page)).data.length:Int) 256&&_)))&&_,())
      cases eqI ((bk xs (n:Int) (aJ .page)).data.length:Int) 256
      ·rfl
      ·rw[kB,ap]
       by_cases hp:0<(n:Int)
       ·rw[ag (kN hp),bN,ag (cQ),z5]
        show _=some ((true&&(true&&(true&&(!decide (0<(n:Int))||ltI (bk xs ((n:Int)-1) (aJ .page)).base (bk xs (n:Int) (aJ .page)).base))))&&_,())
        rw[show decide (0<(n:Int))=true from aF hp]
        cases ltI (bk xs ((n:Int)-1) (aJ .page)).base (bk xs (n:Int) (aJ .page)).base
        ·simp[aV]
        ·simp[ap]
       ·rw[aq (kJ hp),show decide (0<(n:Int))=false from aP hp];simp
   ·rw[aq (kJ hi),xo (by omega)]
  ·exact⟨rfl,by simp,by simp⟩
  ·simp[F];omega
  ·simp[show(m.length:Int)<=32 by omega]
theorem lX (m:List Page)(hm:(m.length:Int)<4611686018427387904)(hF:m.length<F):dy (((m,()),()),())=some (Ac m,()):=by
 unfold dy Ac
 simp only[bW]
 refine(iJ (fun x=>x.2.1.1=m/\x.1.1=m/\x.1.2.1=(m.length:Int)/\0<=x.1.2.2.1/\x.1.2.2.1<=(m.length:Int)) (fun x=>m.length-x.1.2.2.1.toNat) (fun x=>some (decide ((m.length:Int)<=32)&&pv m x.1.2.2.1.toNat,())) ?_ F _ ?_ ?_).trans ?_
 ·rintro⟨⟨ys,len,i,_⟩,⟨xs,_⟩,_⟩ rec ⟨rfl,h2,h3,h0,h1⟩ hrec
  dsimp only at h0 h1 h2 h3 hrec hm hF|-
  subst h2
  subst h3
  by_cases hi:i<ys.length
  ·obtain⟨n,rfl⟩:=bU h0
   have hn:n<ys.length:=by omega
   rw[ag (kN hi),ag (cQ h0 hi),Gc,af]
   dsimp only
   have hst:rec ((ys,(ys.length:Int),(aL IntKind.i64 (n:Int) 1),()),(ys,()),())=some (decide ((ys.length:Int)<=32)&&pv ys (n+1),()):=by
    rw[aW]
    rw[hrec _ ⟨rfl,rfl,rfl,by dsimp only;omega,by dsimp only;omega⟩ (by dsimp only;omega)]
    rfl
   rw[hst,bu,vQ hn,wU]
   show _=some (_&&((oI (bk ys (n:Int) (aJ .page)).base&&_)&&_),())
   cases oI (bk ys (n:Int) (aJ .page)).base
   ·simp[mr,aV]
   ·rw[mr,kB,ap,Ge,af]
    dsimp only
    show _=some (_&&((true&&(rn (bk ys (n:Int) (aJ .page)).perm&&_))&&_),())
    cases rn (bk ys (n:Int) (aJ .page)).perm
    ·simp[mr,aV]
    ·rw[mr,kB,ap,mr]
     show _=some (_&&((true&&(true&&(eqI ((bk ys (n:Int) (aJ .page)).data.length:Int) 256&&_)))&&_),())
     cases eqI ((bk ys (n:Int) (aJ .page)).data.length:Int) 256
     ·simp[aV]
     ·rw[kB,ap]
      by_cases hp:0<(n:Int)
      ·rw[ag (kN hp),bN,ag (cQ),z5]
       show _=some (_&&((true&&(true&&(true&&(!decide (0<(n:Int))||ltI (bk ys ((n:Int)-1) (aJ .page)).base (bk ys (n:Int) (aJ .page)).base))))&&_),())
       rw[show decide (0<(n:Int))=true from aF hp]
       cases ltI (bk ys ((n:Int)-1) (aJ .page)).base (bk ys (n:Int) (aJ .page)).base
       ·simp[aV]
       ·simp[ap]
      ·rw[aq (kJ hp),show decide (0<(n:Int))=false from aP hp];simp
  ·rw[aq (kJ hi),xo (by omega)]
   simp[leI]
 ·exact⟨rfl,rfl,rfl,by simp,by simp⟩
 ·simpa using hF
 ·simp
def leN:List UInt8->Nat
 |[]=>0
 |b::r=>b.toNat+256*leN r
theorem C6:∀(t:List UInt8),leN t<256^t.length
 |[]=>by simp[leN]
 |b::r=>by
  have:=C6 r
  have hb:b.toNat<256:=b.toNat_lt
  simp only[leN,fa,cP]
  omega
theorem yA:∀(t:List UInt8) (k:Nat) (h:k<t.length),leN (t.take (k+1))=leN (t.take k)+t[k].toNat*256^k
 |[],k,h=>by simp at h
 |b::r,0,_=>by simp[leN]
 |b::r,k+1,h=>by
  have hk:k<r.length:=by simpa using h
  have:=yA r k hk
  simp only[sY,leN,List.getElem_cons_succ,cP]at this|-
  rw[this,kb]
  have:256*(r[k].toNat*256^k)=r[k].toNat*(256^k*256):=by rw[Nat.mul_left_comm,cH 256 (256^k)]
  omega
theorem C5 (t:List UInt8)(k:Nat)(h:k<t.length):leN (t.drop k)=t[k].toNat+256*leN (t.drop (k+1)):=by
 rw[py h,leN]
theorem qJ {t:List UInt8}{k:Nat}(h:k<t.length):gi t (k:Int)=(t[k].toNat:Int):=by simp[gi,h]
theorem HB {n:Int}(h0:0<=n)(h:n<18446744073709551616):IntKind.wrap .u64 n=n:=by
 simp only[IntKind.wrap,IntKind.bits,IntKind.signed,Bool.false_and]
 simp only[show(2:Int)^64=18446744073709551616 from rfl]
 simp only[og,if_false]
 exact jb h0 h
theorem D8 (t:List UInt8)(h8:t.length<=8):eK ((t,0,(t.length:Int),()),())=some (IntKind.wrap .i64 (leN t),()):=by
 unfold eK
 simp only[bW]
 rw[bN]
 refine(iJ (fun x=>x.1.1=t/\x.1.2.1=0/\ -1<=x.1.2.2.2.1/\x.1.2.2.2.1<(t.length:Int)/\x.1.2.2.1=(leN (t.drop (x.1.2.2.2.1+1).toNat):Int)) (fun x=>(x.1.2.2.2.1+1).toNat) (fun _=>some (IntKind.wrap .i64 (leN t),())) ?_ F _ ?_ ?_)
 ·rintro⟨⟨s,z,v,i,_⟩,_⟩ rec ⟨rfl,hz,h0,h1,h2⟩ hrec
  dsimp only at hz h0 h1 h2 hrec h8|-
  subst hz
  by_cases hi:0<=i
  ·obtain⟨n,rfl⟩:=bU hi
   have hn:n<s.length:=by omega
   have hlt:=C6 (s.drop (n+1))
   have hb:s[n].toNat<256:=s[n].toNat_lt
   have hpow:256^(s.drop (n+1)).length<=256^7:=cX (by decide) (by rw[fH];omega)
   rw[show(256:Nat)^7=72057594037927936 from rfl]at hpow
   rw[show((n:Int)+1).toNat=n+1 by omega]at h2
   rw[ag (gY hi),aW,show(0:Int)+n=n by omega,ag (cQ hi (by omega)),qJ hn]
   rw[hrec _ ⟨rfl,rfl,?_,?_,?_⟩ ?_]
   ·dsimp only;rw[bN];omega
   ·dsimp only;rw[bN];omega
   ·dsimp only
    rw[bN,show((n:Int)-1+1).toNat=n by omega,C5 s n hn,h2]
    unfold aL cj an
    rw[HB (n:=256*(leN (s.drop (n+1)):Int)) (by omega) (by omega),HB (n:=(s[n].toNat:Int)) (by omega) (by omega),HB (by omega) (by omega)]
    omega
   ·dsimp only;rw[bN];omega
  ·obtain rfl:i= -1:=by omega
   rw[aq (mI hi),h2]
   rfl
 ·refine⟨rfl,rfl,by dsimp only;omega,by dsimp only;omega,?_⟩
  dsimp only
  rw[show((t.length:Int)-1+1).toNat=t.length by omega,List.drop_length]
  rfl
 ·simp[F];omega
theorem Ei (x:Int):BitVec.ofInt 64 (IntKind.wrap .i64 x)=BitVec.ofInt 64 x:=by
 apply qv
 simp only[gd,IntKind.wrap,IntKind.bits,IntKind.signed,jR,aG,ge_iff_le]
 simp only[show(2:Int)^64=18446744073709551616 from rfl,show(2:Int)^(64-1)=9223372036854775808 from rfl,show((2^64:Nat):Int)=18446744073709551616 from rfl]
 split<;>omega
theorem Iy (a c k:Nat)(ha:a<2^k)(hc:a+c*2^k<18446744073709551616):ior .i64 (a:Int) (IntKind.wrap .i64 ((c:Int)*2^k))=IntKind.wrap .i64 ((a+c*2^k:Nat):Int):=by
 unfold ior
 rw[show IntKind.i64.bits=64 from rfl,Ei]
 congr 1
 rw[oq]
 have e1:(BitVec.ofInt 64 (a:Int)).toNat=a:=by
  rw[gd];simp only[show((2^64:Nat):Int)=18446744073709551616 from rfl];omega
 have e2:(BitVec.ofInt 64 ((c:Int)*2^k)).toNat=c*2^k:=by
  rw[gd];simp only[show((2^64:Nat):Int)=18446744073709551616 from rfl]
  rw[show((c:Int)*2^k)=((c*2^k:Nat):Int)by simp]
  omega
 rw[e1,e2,Nat.or_comm,<-Nat.shiftLeft_eq,<-Nat.shiftLeft_add_eq_or_of_lt ha,Nat.shiftLeft_eq,ou]
theorem Hz (t:List UInt8)(h8:t.length<=8):iS ((t,()),())=some (IntKind.wrap .i64 (leN t),()):=by
 unfold iS
 simp only[bW]
 refine(iJ (fun x=>x.1.1=t/\x.1.2.2.1=(t.length:Int)/\0<=x.1.2.2.2.1/\x.1.2.2.2.1<=(t.length:Int)/\x.1.2.1=IntKind.wrap .i64 (leN (t.take x.1.2.2.2.1.toNat))) (fun x=>t.length-x.1.2.2.2.1.toNat) (fun _=>some (IntKind.wrap .i64 (leN t),())) ?_ F _ ?_ ?_)
 ·rintro⟨⟨s,acc,len,i,_⟩,_⟩ rec ⟨rfl,hz,h0,h1,h2⟩ hrec
  dsimp only at hz h0 h1 h2 hrec h8|-
  subst hz
  by_cases hi:i<s.length
  ·obtain⟨n,rfl⟩:=bU h0
   have hn:n<s.length:=by omega
   have hlt:=C6 (s.take n)
   rw[ge,Nat.min_eq_left (by omega)]at hlt
   have hb:s[n].toNat<256:=s[n].toNat_lt
   have hpow:256^n<=256^7:=cX (by decide) (by omega)
   rw[show(256:Nat)^7=72057594037927936 from rfl]at hpow
   have h256:(256:Nat)^n=2^(8*n):=by rw[Nat.pow_mul]
   rw[bu]at h2
   rw[ag (kN hi),ag (cQ h0 hi),dh,ag (gY),qJ hn,DF (by unfold I64;omega)]
   rw[hrec _ ⟨rfl,rfl,?_,?_,?_⟩ ?_]
   ·dsimp only;rw[aW];omega
   ·dsimp only;rw[aW];omega
   ·dsimp only
    rw[aW,show((n:Int)+1).toNat=n+1 by omega,yA s n hn,h2,fd (n:=(leN (s.take n):Int)) (by unfold I64;omega)]
    unfold eW
    rw[show min (8*(n:Int)).toNat IntKind.i64.bits=8*n by rw[show IntKind.i64.bits=64 from rfl];omega]
    have hmul:s[n].toNat*256^n<=255*256^n:=ed _ (by omega)
    have:=Iy (leN (s.take n)) s[n].toNat (8*n) (by rw[<-h256];exact hlt) (by rw[<-h256];omega)
    rw[this,h256]
   ·dsimp only;rw[aW];omega
  ·obtain rfl:i=s.length:=by omega
   rw[aq (kJ hi),h2,bu,List.take_length]
 ·refine⟨rfl,rfl,by dsimp only;omega,by dsimp only;omega,?_⟩
  rfl
 ·simp[F];omega
structure MemR (m:List Page):Prop where
 len:m.length<=32
 pg:∀x∈m,0<=x.base/\x.base<=65280/\x.base%256=0/\x.data.length=256
theorem D5 {b:Int}(h:oI b=true):0<=b/\b<=65280/\b%256=0:=by
 simp only[oI,inB,ar,aG,eqI]at h
 obtain⟨⟨h0,h1⟩,h2⟩:=h
 have h2:b.tmod 256=0:=h2
 rw[mS h0]at h2
 omega
theorem memOK_r {m:List Page}(h:Ac m=true):MemR m:=by
 simp only[Ac,ar,aG,pv,fc]at h
 refine⟨by omega,fun x hx=>?_⟩
 obtain⟨i,hi,rfl⟩:=jN hx
 have:=h.2 i (by rw[List.mem_range'];exact⟨i,by omega,by omega⟩)
 unfold good pg at this
 rw[le hi]at this
 simp only[ar,eqI,aG]at this
 obtain⟨h1,_,h3,_⟩:=this
 obtain⟨a,b,c⟩:=D5 h1
 exact⟨a,b,c,by omega⟩
def ic (p:Page->Bool):List Page->Nat->Int
 |[],_=> -1
 |x::r,i=>if p x=true then(i:Int)else ic p r (i+1)
theorem oX (p:Page->Bool):∀(m:List Page) (i:Nat),(ic p m i= -1/\∀x∈m,p x=false)\/∃j,∃h:j<m.length,ic p m i=((i+j:Nat):Int)/\p m[j]=true
 |[],_=> .inl ⟨rfl,by simp⟩
 |x::r,i=>by
  simp only[ic]
  cases hx:p x with
  |true=>exact .inr ⟨0,by simp,by simp,by simpa using hx⟩
  |false=>
   rcases oX p r (i+1)with ⟨h1,h2⟩|⟨j,h,h1,h2⟩
   ·refine .inl ⟨by simpa using h1,fun y hy=>?_⟩
    rcases aN.1 hy with rfl|hy
    ·exact hx
    ·exact h2 y hy
   ·refine .inr ⟨j+1,by simp;omega,?_,by simpa using h2⟩
    rw[ae (by simp),h1]
    congr 1;omega
theorem yf {p:Page->Bool}{m:List Page}{i:Nat}(h:∀x∈m,p x=false):ic p m i= -1:=by
 rcases oX p m i with h1|⟨j,hj,_,h2⟩
 ·exact h1.1
 ·rw[h _ (fG hj)]at h2;cases h2
def nD (a:Int)(x:Page):Bool:=decide (x.base<=a)&&decide (a-x.base<256)
def fnd (m:List Page)(a:Int):Int:=ic (nD a) m 0
theorem oK (m:List Page)(hm:MemR m)(a:Int)(ha:I64 a):dA (((m,()),a,()),())=some (fnd m a,()):=by
 unfold dA
 simp only[bW]
 refine(iJ (fun x=>x.2.1.1=m/\x.1.1=a/\0<=x.1.2.1/\x.1.2.1<=(m.length:Int)) (fun x=>m.length-x.1.2.1.toNat) (fun x=>some (ic (nD a) (m.drop x.1.2.1.toNat) x.1.2.1.toNat,())) ?_ F _ ?_ ?_).trans ?_
 ·rintro⟨⟨b,i,_⟩,⟨xs,_⟩,_⟩ rec ⟨h2,h3,h0,h1⟩ hrec
  dsimp only at h0 h1 h2 h3 hrec|-
  subst h2
  subst h3
  have hlen:=hm.len
  by_cases hi:i<xs.length
  ·obtain⟨n,rfl⟩:=bU h0
   have hn:n<xs.length:=by omega
   rw[ag (kN hi),ag (cQ h0 hi),le hn,bu,py hn,ic]
   obtain⟨p0,p1,_,_⟩:=hm.pg _ (fG hn)
   have hst:rec ((b,aL IntKind.i64 (n:Int) 1,()),(xs,()),())=some (ic (nD b) (xs.drop (n+1)) (n+1),()):=by
    rw[aW]
    rw[hrec _ ⟨rfl,rfl,by dsimp only;omega,by dsimp only;omega⟩ (by dsimp only;omega)]
    rfl
   rw[hst]
   unfold I64 at ha
   by_cases hb:xs[n].base<=b
   ·rw[ag (gY hb),ag (cQ h0 hi),af,bN]
    by_cases hc:b-xs[n].base<256
    ·rw[ag (kN hc),aa (by simp[nD,hb,hc])]
    ·rw[aq (kJ hc),ae (by simp[nD,hc])]
   ·rw[aq (mI hb),af,ap,ae (by simp[nD,hb])]
  ·rw[aq (kJ hi),List.drop_eq_nil_of_le (by omega)];rfl
 ·exact⟨rfl,rfl,by simp,by simp⟩
 ·have:=hm.len;simp[F];omega
 ·rfl
theorem zQ (m:List Page)(hm:MemR m)(a:Int)(h0:0<=a)(h1:a<=65535):bp ((m,()),(a,()),())=some (fnd m a,(a,()),()):=by
 unfold bp fK
 simp only[bW]
 refine(iJ (fun x=>x.1.1=m/\x.1.2.1=(m.length:Int)/\x.2.1.1=a/\0<=x.1.2.2.1/\x.1.2.2.1<=(m.length:Int)) (fun x=>m.length-x.1.2.2.1.toNat) (fun x=>some (ic (nD a) (m.drop x.1.2.2.1.toNat) x.1.2.2.1.toNat,(a,()),())) ?_ F _ ?_ ?_).trans ?_
 ·rintro⟨⟨xs,len,i,_⟩,⟨b,_⟩,_⟩ rec ⟨h2,h3,h4,h5,h6⟩ hrec
  dsimp only at h5 h6 h2 h3 h4 hrec|-
  subst h2
  subst h3
  subst h4
  have hlen:=hm.len
  by_cases hi:i<xs.length
  ·obtain⟨n,rfl⟩:=bU h5
   have hn:n<xs.length:=by omega
   rw[ag (kN hi),ag (cQ h5 hi),af,le hn,bu,py hn,ic]
   dsimp only
   obtain⟨p0,p1,p2,_⟩:=hm.pg _ (fG hn)
   have hst:rec ((xs,(xs.length:Int),aL IntKind.i64 (n:Int) 1,()),(b,()),())=some (ic (nD b) (xs.drop (n+1)) (n+1),(b,()),()):=by
    rw[aW]
    rw[hrec _ ⟨rfl,rfl,rfl,by dsimp only;omega,by dsimp only;omega⟩ (by dsimp only;omega)]
    rfl
   rw[hst,show gC b 256=b%256 from mS h0,bN]
   by_cases hc:xs[n].base=b-b%256
   ·rw[ag (bK hc),aa (by simp only[nD,ar,aG];omega)]
   ·rw[aq (aD hc),ae (by simp only[nD,ar,aG];omega)]
  ·rw[aq (kJ hi),List.drop_eq_nil_of_le (by omega)];rfl
 ·exact⟨rfl,rfl,rfl,by simp,by simp⟩
 ·have:=hm.len;simp[F];omega
 ·rfl
theorem yl {m:List Page}(hm:MemR m){a:Int}(h:¬(0<=a/\a<=65535)):fnd m a= -1:=by
 refine yf fun x hx=>?_
 obtain⟨p0,p1,p2,_⟩:=hm.pg x hx
 simp only[nD,sW,decide_eq_false_iff_not]
 omega
theorem vU (m:List Page)(hm:MemR m)(a:Int):cy (((m,()),a,()),())=some (fnd m a,()):=by
 unfold cy
 rw[qh,af]
 dsimp only
 by_cases h:0<=a/\a<=65535
 ·rw[aq (by simp[bm,inB,h.1,h.2]),zQ m hm a h.1 h.2,af]
 ·rw[ag (by simp only[bm,inB,ef,sW,decide_eq_false_iff_not];omega),yl hm h]
theorem qN {m:List Page}(hm:MemR m)(a:Int):fnd m a= -1\/∃j,∃h:j<m.length,fnd m a=(j:Int)/\m[j].base<=a/\a-m[j].base<256/\0<=a/\a<=65535/\a-m[j].base=a%256/\m[j].data.length=256:=by
 rcases oX (nD a) m 0 with ⟨h,_⟩|⟨j,hj,h1,h2⟩
 ·exact .inl h
 ·obtain⟨p0,p1,p2,p3⟩:=hm.pg _ (fG hj)
  simp only[nD,ar,aG]at h2
  exact .inr ⟨j,hj,by rw[eP]at h1;exact h1,h2.1,h2.2,by omega,by omega,by omega,p3⟩
def fo (m:List Page)(a perm:Int):Nat->Int->Int
 |0,_=>0
 |j+1,k=>if fnd m (a+k)<0 then 13 else if dP .i64 (bk m (fnd m (a+k)) (aJ .page)).perm perm=0 then 14 else fo m a perm j (k+1)
theorem wQ {m:List Page}(hm:MemR m){a perm:Int}(h:¬(0<=a/\a<=65535))(j:Nat):fo m a perm (j+1) 0=13:=by
 rw[fo,mC,yl hm h];rfl
theorem yk {m:List Page}(hm:MemR m){a:Int}(h:¬fnd m a<0):inR (fnd m a) (m.length:Int)=true:=by
 rcases qN hm a with h1|⟨j,hj,h1,_⟩
 ·rw[h1]at h;exact ah (by decide) h
 ·rw[h1];exact cQ
theorem wD (m:List Page)(hm:MemR m)(a perm:Int)(n:Nat)(hn8:n<=8192)(ha:I64 a):cB (((m,()),a,(n:Int),perm,()),())=some (fo m a perm n 0,()):=by
 unfold cB
 simp only[bW]
 refine(iJ (fun x=>x.2.1.1=m/\x.1.1=a/\x.1.2.1=(n:Int)/\x.1.2.2.1=perm/\0<=x.1.2.2.2.1/\x.1.2.2.2.1<=(n:Int)/\(x.1.2.2.2.1=0\/(0<=a/\a<=65535))) (fun x=>n-x.1.2.2.2.1.toNat) (fun x=>some (fo m a perm (n-x.1.2.2.2.1.toNat) x.1.2.2.2.1,())) ?_ F _ ?_ ?_).trans ?_
 ·rintro⟨⟨b,l,p,i,_⟩,⟨xs,_⟩,_⟩ rec ⟨h2,h3,h4,h5,h0,h1,h6⟩ hrec
  dsimp only at h0 h1 h2 h3 h4 h5 h6 hrec|-
  subst h2 h3 h4 h5
  by_cases hi:i<(n:Int)
  ·obtain⟨k,rfl⟩:=bU h0
   rw[ag (kN hi),bN,uy,af]
   dsimp only
   have hst:n-((k:Int)).toNat=(n-(k+1))+1:=by omega
   rw[hst]
   by_cases hr:0<=b/\b<=65535
   ·rw[aq (by simp[bm,inB];omega),aW,oK xs hm _ (by unfold I64;omega),af,fo]
    dsimp only
    by_cases hf:fnd xs (b+k)<0
    ·rw[ag (kN hf),aa hf]
    ·rw[aq (kJ hf),ae hf,ag (yk hm hf)]
     by_cases hp:dP .i64 (bk xs (fnd xs (b+k)) (aJ .page)).perm p=0
     ·rw[ag (bK hp),aa hp]
     ·rw[aq (aD hp),ae hp,aW]
      rw[hrec _ ⟨rfl,rfl,rfl,rfl,by dsimp only;omega,by dsimp only;omega,.inr hr⟩ (by dsimp only;omega)]
      dsimp only
      rw[show n-((k:Int)+1).toNat=n-(k+1)by omega]
   ·have hk:k=0:=by omega
    subst hk
    rw[show((0:Nat):Int)=0 from rfl,wQ hm hr]
    by_cases hin:inB b (0-(n:Int)) 65535=true
    ·rw[aq (by rw[hin];rfl),zh (by unfold I64 at *;omega),oK xs hm _ (by rw[mC];exact ha),af,mC,yl hm hr]
     rfl
    ·rw[ag (by rw[my]at hin;rw[hin];rfl)]
  ·have:i=n:=by omega
   subst this
   rw[aq (kJ hi),bu,jd];rfl
 ·exact⟨rfl,rfl,rfl,rfl,by simp,by simp,.inl rfl⟩
 ·simp[F];omega
 ·rfl
theorem mu (m:List Page)(hm:MemR m)(a perm:Int)(n:Nat)(_hn:1<=n)(hn8:n<=8192)(ha:I64 a):cB (((m,()),a,(n:Int),perm,()),())=some (fo m a perm n 0,()):=wD m hm a perm n hn8 ha
theorem mp (m:List Page)(hm:MemR m)(a perm:Int)(n:Nat)(hn8:n<=8192)(ha:I64 a)(hp0:perm≠0)(hn:1<=n):bY (((m,()),a,(n:Int),perm,()),())=some (fo m a perm n 0,()):=by
 unfold bY
 simp only[bW]
 refine(iJ (fun x=>x.2.1.1=m/\x.1.1=a/\x.1.2.2.1=(n:Int)/\x.1.2.1=perm/\0<=x.1.2.2.2.1/\x.1.2.2.2.1<=(n:Int)/\(x.1.2.2.2.1=0\/(0<=a/\a<=65535))) (fun x=>n-x.1.2.2.2.1.toNat) (fun x=>some (fo m a perm (n-x.1.2.2.2.1.toNat) x.1.2.2.2.1,())) ?_ F _ ?_ ?_).trans ?_
 ·rintro⟨⟨b,p,l,i,_⟩,⟨xs,_⟩,_⟩ rec ⟨h2,h3,h4,h5,h0,h1,h6⟩ hrec
  dsimp only at h0 h1 h2 h3 h4 h5 h6 hrec|-
  subst h2 h3 h4 h5
  by_cases hi:i<(n:Int)
  ·obtain⟨k,rfl⟩:=bU h0
   rw[ag (kN hi),vU xs hm,af]
   dsimp only
   have hst:n-((k:Int)).toNat=(n-(k+1))+1:=by omega
   rw[hst]
   by_cases hr:0<=b/\b<=65535
   ·rw[aW,fo]
    by_cases hf:fnd xs (b+k)<0
    ·rw[ag (kN hf),aa hf]
    ·rw[aq (kJ hf),ae hf,ag (yk hm hf),ag (by rw[aD hp0];rfl),af]
     by_cases hp:dP .i64 (bk xs (fnd xs (b+k)) (aJ .page)).perm p=0
     ·rw[ag (bK hp),aa hp]
     ·rw[aq (aD hp),ae hp,aW]
      rw[hrec _ ⟨rfl,rfl,rfl,rfl,by dsimp only;omega,by dsimp only;omega,.inr hr⟩ (by dsimp only;omega)]
      dsimp only
      rw[show n-((k:Int)+1).toNat=n-(k+1)by omega]
   ·have hk:k=0:=by omega
    subst hk
    rw[show((0:Nat):Int)=0 from rfl,wQ hm hr,zh (by unfold I64 at *;omega),mC,yl hm hr]
    rfl
  ·have:i=n:=by omega
   subst this
   rw[aq (kJ hi),bu,jd];rfl
 ·exact⟨rfl,rfl,rfl,rfl,by simp,by simp,.inl rfl⟩
 ·simp[F];omega
 ·rfl
theorem pD {m:List Page}(hm:MemR m){a perm:Int}:∀(j k0:Nat),fo m a perm j k0=0->∀k,k0<=k->k<k0+j->¬fnd m (a+(k:Nat))<0
 |0,k0,_,k,h1,h2=>by omega
 |j+1,k0,h,k,h1,h2=>by
  rw[fo]at h
  split at h
  ·cases h
  ·rename_i hf
   split at h
   ·cases h
   ·by_cases hk:k=k0
    ·subst hk;exact hf
    ·exact pD hm j (k0+1) (by exact_mod_cast h) k (by omega) (by omega)
def tl (m:List Page)(a:Int):Int:=gi (bk m (fnd m a) (aJ .page)).data (a%256)
theorem Kl (m:List Page)(hm:MemR m)(a:Int)(n:Nat)(hn8:n<=8192)(ha:I64 a)(hok:∀k,k<n->¬fnd m (a+(k:Nat))<0):fQ (((m,()),a,(n:Int),()),())=some (l6 ((List.range n).map fun k=>tl m (a+(k:Nat))),()):=by
 unfold fQ
 simp only[bW]
 refine(iJ (fun x=>x.2.1.1=m/\x.1.1=a/\x.1.2.1=(n:Int)/\0<=x.1.2.2.1/\x.1.2.2.1<=(n:Int)/\x.2.2.1=(List.range x.1.2.2.1.toNat).map fun k=>tl m (a+(k:Nat))) (fun x=>n-x.1.2.2.1.toNat) (fun _=>some (l6 ((List.range n).map fun k=>tl m (a+(k:Nat))),())) ?_ F _ ?_ ?_)
 ·rintro⟨⟨b,l,i,_⟩,⟨xs,_⟩,out,_⟩ rec ⟨h2,h3,h4,h0,h1,h5⟩ hrec
  dsimp only at h0 h1 h2 h3 h4 h5 hrec|-
  subst h2 h3 h4
  by_cases hi:i<(n:Int)
  ·obtain⟨k,rfl⟩:=bU h0
   rw[bu]at h5
   have hk:=hok k (by omega)
   rcases qN hm (b+k)with h7|⟨j,hj,h7,h8,h9,h10,h11,h12,h13⟩
   ·rw[h7]at hk;exact ah (by decide) hk
   ·have hb:I64 (b+k):=by unfold I64;omega
    rw[ag (kN hi),zh hb,oK xs hm _ hb,af]
    dsimp only
    rw[ag (yk hm hk),h7,le hj,bN,ag (cQ),h12]
    have hbyte:gi xs[j].data ((b+(k:Int))%256)=tl xs (b+k):=by rw[tl,h7,le hj]
    rw[hbyte,ag (by rw[h5];simp[dO,lim];omega),aW]
    refine hrec _ ⟨rfl,rfl,rfl,by dsimp only;omega,by dsimp only;omega,?_⟩ (by dsimp only;omega)
    dsimp only
    rw[show((k:Int)+1).toNat=k+1 by omega,qF,iy,h5]
    rfl
  ·have:i=n:=by omega
   subst this
   rw[aq (kJ hi),h5,bu]
 ·exact⟨rfl,rfl,rfl,by simp,by simp,rfl⟩
 ·simp[F];omega
theorem CG (m:List Page)(hm:MemR m)(a:Int)(n:Nat)(hn8:n<=8192)(ha:I64 a)(hok:∀k,k<n->¬fnd m (a+(k:Nat))<0):cU (((m,()),a,(n:Int),()),())=some (l6 ((List.range n).map fun k=>tl m (a+(k:Nat))),()):=by
 unfold cU
 simp only[bW]
 rw[ag (uh (by omega) (oz _)),ag (F9 (by omega))]
 refine(iJ (fun x=>x.2.1.1=m/\x.1.1=a/\x.1.2.1=(n:Int)/\0<=x.1.2.2.1/\x.1.2.2.1<=(n:Int)/\x.2.2.1=((List.range x.1.2.2.1.toNat).map fun k=>tl m (a+(k:Nat)))++List.replicate (n-x.1.2.2.1.toNat) 0) (fun x=>n-x.1.2.2.1.toNat) (fun _=>some (l6 ((List.range n).map fun k=>tl m (a+(k:Nat))),())) ?_ F _ ?_ ?_)
 ·rintro⟨⟨b,l,i,_⟩,⟨xs,_⟩,out,_⟩ rec ⟨h2,h3,h4,h0,h1,h5⟩ hrec
  dsimp only at h0 h1 h2 h3 h4 h5 hrec|-
  subst h2 h3 h4
  by_cases hi:i<(n:Int)
  ·obtain⟨k,rfl⟩:=bU h0
   rw[bu]at h5
   have hk:=hok k (by omega)
   rcases qN hm (b+k)with h7|⟨j,hj,h7,h8,h9,h10,h11,h12,h13⟩
   ·rw[h7]at hk;exact ah (by decide) hk
   ·have hb:I64 (b+k):=by unfold I64;omega
    have hol:out.length=n:=by rw[h5];simp;omega
    rw[ag (kN hi),zh hb,vU xs hm,af]
    dsimp only
    rw[ag (yk hm hk),show gC (b+(k:Int)) 256=(b+k)%256 from mS h10,h7,le hj,ag (cQ)]
    have hbyte:gi xs[j].data ((b+(k:Int))%256)=tl xs (b+k):=by rw[tl,h7,le hj]
    rw[hbyte,ag (cQ h0 (by omega)),aW]
    refine hrec _ ⟨rfl,rfl,rfl,by dsimp only;omega,by dsimp only;omega,?_⟩ (by dsimp only;omega)
    dsimp only
    rw[show((k:Int)+1).toNat=k+1 by omega,qF,iy,h5]
    unfold eM
    rw[bu,sV _ _ (by simp),lE,List.length_range,jd,show n-k=(n-(k+1))+1 by omega,List.replicate_succ]
    simp
  ·have:i=n:=by omega
   subst this
   rw[aq (kJ hi),h5,bu,jd]
   simp
 ·refine⟨rfl,rfl,by simp[wt],by simp,by simp,?_⟩
  simp[wt,aJ]
 ·simp[F];omega
def di (n:Int):Bool:=eqI n 1||(eqI n 2||(eqI n 4||eqI n 8))
theorem ID {n:Int}(h:di n=true):∃k:Nat,n=(k:Int)/\1<=k/\k<=8:=by
 simp only[di,eqI,cO,aG]at h
 exact⟨n.toNat,by omega,by omega,by omega⟩
theorem wl (xs:List Int):(l6 xs).length=xs.length:=by simp[l6]
def vF (m:List Page)(a:Int)(n:Nat):Int×Int:=
 if fo m a 1 n 0=0 then(IntKind.wrap .i64 (leN (l6 ((List.range n).map fun k=>tl m (a+(k:Nat))))),0)else(0,fo m a 1 n 0)
theorem Gv {m:List Page}(hm:MemR m){a:Int}{n:Nat}(h:fo m a 1 n 0=0):∀k,k<n->¬fnd m (a+(k:Nat))<0:=fun k hk=>
 pD hm n 0 h k (iG _) (by omega)
theorem AG (m:List Page)(hm:MemR m)(a:Int)(n:Nat)(hn:1<=n)(hn8:n<=8)(ha:I64 a):jE (((m,()),a,(n:Int),()),())=some (((vF m a n).1,(vF m a n).2,()),()):=by
 unfold jE vF
 dsimp only
 rw[mu m hm a 1 n hn (by omega) ha,af]
 by_cases h:fo m a 1 n 0=0
 ·rw[aq (by rw[h];rfl),Kl m hm a n (by omega) ha (Gv hm h),af,aa h]
  dsimp only
  have hl:(l6 ((List.range n).map fun k=>tl m (a+(k:Nat)))).length=n:=by rw[wl];simp
  have:=D8 (l6 ((List.range n).map fun k=>tl m (a+(k:Nat)))) (by omega)
  rw[hl]at this
  rw[this,af]
 ·rw[ag (by rw[aD h];rfl),ae h]
theorem zP (m:List Page)(hm:MemR m)(a:Int)(n:Nat)(hn:1<=n)(hn8:n<=8)(ha:I64 a):fN (((m,()),a,(n:Int),()),())=some (((vF m a n).1,(vF m a n).2,()),()):=by
 unfold fN vF
 dsimp only
 rw[mp m hm a 1 n (by omega) ha (by decide) hn,af]
 by_cases h:fo m a 1 n 0=0
 ·rw[aq (by rw[h];rfl),CG m hm a n (by omega) ha (Gv hm h),af,aa h]
  dsimp only
  rw[Hz _ (by rw[wl];simpa using hn8),af]
 ·rw[ag (by rw[aD h];rfl),ae h]
def pgN (m:List Page)(i:Nat):Page:=m.getD i (aJ .page)
theorem Kz (m:List Page)(i:Nat):pg m (i:Int)=pgN m i:=by simp[pg,pgN,bk]
theorem pe {m:List Page}{i:Nat}(h:i<m.length):pgN m i=m[i]:=by simp[pgN,h]
structure MemT (m:List Page):Prop where
 len:m.length<=32
 pg:∀i,i<m.length->0<=(pgN m i).base/\(pgN m i).base<=65280/\(pgN m i).base%256=0/\0<=(pgN m i).perm/\(pgN m i).perm<=7/\(pgN m i).data.length=256
 ord:∀i,i+1<m.length->(pgN m i).base<(pgN m (i+1)).base
theorem IA {b:Int}(h0:0<=b)(h1:b<=65280)(h2:b%256=0):oI b=true:=by
 simp only[oI,inB,ar,aG,eqI]
 refine⟨⟨h0,by omega⟩,?_⟩
 show b.tmod 256=0
 rw[mS h0];exact h2
theorem MemT.ok {m:List Page}(h:MemT m):Ac m=true:=by
 simp only[Ac,ar,aG,pv,fc]
 refine⟨by have:=h.len;omega,fun i hi=>?_⟩
 rw[List.mem_range']at hi
 obtain⟨k,hk,rfl⟩:=hi
 rw[jg,eP]
 have hk:k<m.length:=by omega
 obtain⟨a,b,c,d,e,f⟩:=h.pg k hk
 unfold good
 rw[Kz]
 simp only[ar,cO,ef,decide_eq_false_iff_not,xe]
 refine⟨IA a b c,?_,by rw[lJ];omega,?_⟩
 ·simp only[rn,inB,ar,aG];omega
 ·cases k with
  |zero=>exact .inl (by omega)
  |succ n=>right;rw[show((n+1:Nat):Int)-1=(n:Int)by omega,Kz];exact h.ord n hk
theorem MemT.mono {m:List Page}(h:MemT m){i:Nat}:∀ {j:Nat},i<j->j<m.length->(pgN m i).base+256<=(pgN m j).base
 |0,hj,_=>ah hj (cN _)
 |j+1,hij,hj=>by
  have h1:=h.ord j hj
  have p1:=(h.pg j (by omega)).2.2.1
  have p2:=(h.pg (j+1) hj).2.2.1
  by_cases he:i=j
  ·subst he;omega
  ·have:=h.mono (i:=i) (j:=j) (by omega) (by omega)
   omega
theorem MemT.apart {m:List Page}(h:MemT m){i j:Nat}(hi:i<m.length)(hj:j<m.length)(hne:i≠j):(pgN m i).base+256<=(pgN m j).base\/(pgN m j).base+256<=(pgN m i).base:=by
 by_cases hlt:i<j
 ·exact .inl (h.mono hlt hj)
 ·exact .inr (h.mono (by omega) hi)
theorem MemT.r {m:List Page}(h:MemT m):MemR m:=memOK_r h.ok
structure Laid (m:List Page)(a:Int)(t:List UInt8)(n:Nat)(x:List Page):Prop where
 len:x.length=m.length
 pg:∀i,i<m.length->(pgN x i).base=(pgN m i).base/\(pgN x i).perm=(pgN m i).perm/\(pgN x i).data.length=256/\
  ∀k:Nat,k<256->(pgN x i).data.getD k 0=if a<=(pgN m i).base+k/\(pgN m i).base+k<a+n then t.getD ((pgN m i).base+k-a).toNat 0 else(pgN m i).data.getD k 0
theorem Laid.start {m:List Page}(h:MemT m)(a:Int)(t:List UInt8):Laid m a t 0 m:=by
 refine⟨rfl,fun i hi=>⟨rfl,rfl,(h.pg i hi).2.2.2.2.2,fun k hk=>?_⟩⟩
 rw[iN]
theorem Laid.memT {m x:List Page}{a:Int}{t:List UInt8}{n:Nat}(h:MemT m)(hx:Laid m a t n x):MemT x:=by
 refine⟨by rw[hx.len];exact h.len,fun i hi=>?_,fun i hi=>?_⟩
 ·rw[hx.len]at hi
  obtain⟨h1,h2,h3,_⟩:=hx.pg i hi
  obtain⟨a,b,c,d,e,f⟩:=h.pg i hi
  rw[h1,h2];exact⟨a,b,c,d,e,h3⟩
 ·rw[hx.len]at hi
  rw[(hx.pg i (by omega)).1,(hx.pg (i+1) hi).1]
  exact h.ord i hi
theorem Jr {x y:Page}(h1:x.base=y.base)(h2:x.perm=y.perm)(h3:x.data=y.data):x=y:=by
 cases x;cases y;simp only at h1 h2 h3;subst h1 h2 h3;rfl
theorem Laid.unique {m x y:List Page}{a:Int}{t:List UInt8}{n:Nat}(hx:Laid m a t n x)(hy:Laid m a t n y):x=y:=by
 refine List.ext_getElem (by rw[hx.len,hy.len]) fun i h1 h2=>?_
 have hi:i<m.length:=by rw[<-hx.len];exact h1
 obtain⟨a1,a2,a3,a4⟩:=hx.pg i hi
 obtain⟨b1,b2,b3,b4⟩:=hy.pg i hi
 rw[pe h1]at a1 a2 a3 a4
 rw[pe h2]at b1 b2 b3 b4
 refine Jr (by rw[a1,b1]) (by rw[a2,b2]) (List.ext_getElem (by rw[a3,b3]) fun k k1 k2=>?_)
 have e1:=a4 k (by omega)
 have e2:=b4 k (by omega)
 rw[<-e2]at e1
 simpa[k1,k2]using e1
theorem Laid.step {m x:List Page}{a:Int}{t:List UInt8}{j:Nat}(hm:MemT m)(hx:Laid m a t j x){i:Nat}(hi:i<m.length){o c:Nat}
  (ho:(o:Int)=a+j-(pgN m i).base) (hoc:o+c<=256) (hjc:j+c<=t.length):
  Laid m a t (j+c) (x.set i (Page.mk (pgN x i).base (pgN x i).perm ((pgN x i).data.take o++(t.drop j).take c++(pgN x i).data.drop (o+c)))):=by
 refine⟨by rw[List.length_set];exact hx.len,fun i' hi'=>?_⟩
 obtain⟨h1,h2,h3,h4⟩:=hx.pg i' hi'
 by_cases he:i'=i
 ·subst he
  have hset:∀p:Page,pgN (x.set i' p) i'=p:=fun p=>by unfold pgN;rw[ec,sT (by rw[hx.len];exact hi'),Option.getD_some]
  rw[hset]
  have l1:((pgN x i').data.take o).length=o:=by rw[ge];omega
  have l2:((t.drop j).take c).length=c:=by rw[ge,fH];omega
  refine⟨h1,h2,by simp only[ch,l1,l2,fH];omega,fun k hk=>?_⟩
  have h4:=h4 k hk
  dsimp only
  rw[ec]at h4|-
  by_cases k1:k<o
  ·rw[qz,lB (by omega),mw,aa k1,h4]
   by_cases hc:a<=(pgN m i').base+k/\(pgN m i').base+k<a+j
   ·rw[aa hc,iP]
   ·rw[ae hc,iN]
  ·by_cases k2:k<o+c
   ·rw[qz,mQ (by omega),l1,lB (by omega),mw,iP,mW,iP,ec]
    rw[show j+(k-o)=((pgN m i').base+k-a).toNat by omega]
   ·rw[mQ (by rw[ch];omega),ch,l1,l2,mW,show o+c+(k-(o+c))=k by omega,h4,iN,iN]
 ·rw[show pgN (x.set i _) i'=pgN x i' from by unfold pgN;rw[ec,mV (by omega),<-ec]]
  refine⟨h1,h2,h3,fun k hk=>?_⟩
  rw[h4 k hk]
  rcases hm.apart hi' hi he with hp|hp
  ·by_cases hc:a<=(pgN m i').base+k/\(pgN m i').base+k<a+j
   ·rw[aa hc,iP]
   ·rw[ae hc,iN]
  ·by_cases hc:a<=(pgN m i').base+k/\(pgN m i').base+k<a+j
   ·rw[aa hc,iP]
   ·rw[ae hc,iN]
theorem wR {p q:Page->Bool}:∀ {m x:List Page} {i:Nat},x.length=m.length->(∀j,j<m.length->p (pgN m j)=q (pgN x j))->ic p m i=ic q x i
 |[],[],_,_,_=>rfl
 |[],_::_,_,h,_=>by simp at h
 |_::_,[],_,h,_=>by simp at h
 |a::r,b::s,i,hl,h=>by
  have h0:=h 0 (by simp)
  simp only[pgN,List.getD_cons_zero]at h0
  simp only[ic,h0]
  rw[wR (m:=r) (x:=s) (i:=i+1) (by simpa using hl) fun j hj=>by simpa[pgN]using h (j+1) (by simp;omega)]
theorem Laid.fnd {m x:List Page}{a:Int}{t:List UInt8}{n:Nat}(hx:Laid m a t n x)(b:Int):fnd x b=fnd m b:=by
 unfold Go.Den.G.fnd
 exact(wR hx.len fun j hj=>by unfold nD;rw[(hx.pg j hj).1]).symm
theorem ym (m:List Page)(i:Nat):bk m (i:Int) (aJ .page)=pgN m i:=by simp[pgN,bk]
theorem GQ (m:List Page)(hm:m.length<=1048576):fR (((m,()),()),())=some ((),m,()):=by
 unfold fR
 dsimp only
 rw[show dO ([]:List Page) m=true from j5 (by simp;omega),aV];rfl
theorem tp (m:List Page)(hm:m.length<=1048576):bQ (((m,()),()),())=some ((),m,()):=by
 unfold bQ fh
 dsimp only
 rw[show dO ([]:List Page) m=true from j5 (by simp;omega),aV]
 cases m with
 |nil=>rw[show eqI (da ([]:List Page)) 0=true from rfl,aV];rw[show eI ([]:List Page) []=[]from rfl];unfold eqO;rw[aa rfl,af]
 |cons p r=>rw[show eqI (da (p::r)) 0=false from aD (by simp[bW];omega),ap,af];rfl
theorem KA (m:List Page)(hm:MemT m)(a:Int)(t:List UInt8)(_ha:I64 a)(ht:t.length<=8192)(hok:∀k,k<t.length->¬fnd m (a+(k:Nat))<0):
  ∃x,hJ (((m,()),a,t,()),())=some ((x,()),())/\Laid m a t t.length x:=by
 unfold hJ
 dsimp only
 rw[GQ m (by have:=hm.len;omega),af]
 refine oZ (fun s=>∃j:Nat,j<=t.length/\s.1.1=a+j/\s.1.2.1=t.drop j/\Laid m a t j s.2.2.1) (fun s=>s.1.2.1.length) (fun _ o=>∃x,o=some ((x,()),())/\Laid m a t t.length x) ?_ F _ ⟨0,by simp,by simp,by simp,Laid.start hm a t⟩ (by unfold F;dsimp only;omega)
 rintro⟨⟨b,u,_⟩,_,x,_,_⟩ rec ⟨j,hj,h1,h2,hx⟩ hrec
 dsimp only at h1 h2 hx hrec|-
 subst h1 h2
 rw[show da (t.drop j)=((t.length-j:Nat):Int)from by rw[bW,fH]]
 by_cases hjl:j<t.length
 ·have hmx:=hx.memT hm
  have hf:=hok j hjl
  rw[<-hx.fnd]at hf
  rcases qN hmx.r (a+j)with h0|⟨i,hi,h0,hb1,hb2,r0,r1,hb3,hdl⟩
  ·rw[h0]at hf;exact ah (by decide) hf
  ·have him:i<m.length:=by rw[<-hx.len];exact hi
   obtain⟨p1,p2,p3,p4,p5,p6⟩:=hmx.pg i hi
   rw[<-pe hi]at hb1 hb2 hb3 hdl
   obtain⟨o,ho⟩:=bU (show 0<=a+j-(pgN x i).base by omega)
   have hs:bo .i64 (a+j) (pgN x i).base=(o:Int):=by rw[bN,ho]
   obtain⟨c,hc⟩:∃c:Nat,c=min (t.length-j) (256-o):=⟨_,rfl⟩
   have hi':jp ((t.length-j:Nat):Int) (bo .i64 256 (o:Int))=(c:Int):=by
    rw[bN];unfold jp;split<;>omega
   have hfi:fnd x (a+j)=(i:Int):=h0
   rw[ag (kN),oK x hmx.r _ (by unfold I64;omega),af]
   dsimp only
   rw[hfi]
   simp only[ym,hs,hi',bW,p6]
   rw[aW (a:=(o:Int)),aW (a:=a+j)]
   rw[ag (cQ),ag (cQ),ag (uh),ag (uh)]
   rw[ag (j5 (by unfold k9;simp only[ge];omega)),ag (uh)]
   rw[ag (j5 (by unfold k9 nq eI;simp only[ge,ch,fH];omega)),ag (cQ),ag (uh)]
   refine hrec _ ⟨j+c,by omega,by dsimp only;omega,?_,?_⟩ ?_
   ·dsimp only;unfold nq;rw[List.drop_drop,bu]
   ·have:=Laid.step hm hx him (o:=o) (c:=c) (by rw[<-(hx.pg i him).1];omega) (by omega) (by omega)
    dsimp only
    unfold eM k9 nq eI
    rw[bu,bu,bu,show((o:Int)+(c:Int)).toNat=o+c by omega]
    exact this
   ·dsimp only;unfold nq;simp only[fH];omega
 ·have:j=t.length:=by omega
  subst this
  rw[aq (kJ)]
  exact⟨x,rfl,hx⟩
theorem lay_ex (m:List Page)(hm:MemT m)(a:Int)(t:List UInt8)(_ha:I64 a)(ht:t.length<=8192)(hok:∀k,k<t.length->¬fnd m (a+(k:Nat))<0):
  ∃x,gG (((m,()),a,t,()),())=some ((),x,())/\Laid m a t t.length x:=by
 unfold gG
 dsimp only
 rw[tp m (by have:=hm.len;omega),af]
 refine oZ (fun s=>∃j:Nat,j<=t.length/\s.1.1=a+j/\s.1.2.1=t.drop j/\Laid m a t j s.2.2.2.2.1/\s.2.1.1=m) (fun s=>s.1.2.1.length) (fun _ o=>∃x,o=some ((),x,())/\Laid m a t t.length x) ?_ F _ ⟨0,by simp,by simp,by simp,Laid.start hm a t,rfl⟩ (by unfold F;dsimp only;omega)
 rintro⟨⟨b,u,_⟩,⟨m',_⟩,_,_,x,_⟩ rec ⟨j,hj,h1,h2,hx,h3⟩ hrec
 dsimp only at h1 h2 h3 hx hrec|-
 subst h1 h2 h3
 rw[show da (t.drop j)=((t.length-j:Nat):Int)from by rw[bW,fH]]
 by_cases hjl:j<t.length
 ·have hmx:=hx.memT hm
  have hf:=hok j hjl
  rcases qN hm.r (a+j)with h0|⟨i,hi,h0,hb1,hb2,r0,r1,hb3,hdl⟩
  ·rw[h0]at hf;exact ah (by decide) hf
  ·have hix:i<x.length:=by rw[hx.len];exact hi
   obtain⟨p1,p2,p3,p4,p5,p6⟩:=hmx.pg i hix
   rw[<-pe hi]at hb1 hb2 hb3 hdl
   have hbe:=(hx.pg i hi).1
   obtain⟨o,ho⟩:=bU (show 0<=a+j-(pgN m' i).base by omega)
   have hs:gC (a+j) 256=(o:Int):=by rw[cS r0];omega
   obtain⟨c,hc⟩:∃c:Nat,c=min (t.length-j) (256-o):=⟨_,rfl⟩
   have hi':jp ((t.length-j:Nat):Int) (bo .i64 256 (o:Int))=(c:Int):=by
    rw[bN];unfold jp;split<;>omega
   have hfi:fnd m' (a+j)=(i:Int):=h0
   rw[ag (kN),vU m' hm.r,af]
   dsimp only
   rw[hfi]
   simp only[ym,hs,hi',bW,p6]
   rw[aW (a:=(o:Int)),aW (a:=a+j)]
   rw[ag (cQ),ag (uh),ag (uh)]
   rw[ag (j5 (by unfold k9;simp only[ge];omega)),ag (uh)]
   rw[ag (j5 (by unfold k9 nq eI;simp only[ge,ch,fH];omega)),ag (uh)]
   refine hrec _ ⟨j+c,by omega,by dsimp only;omega,?_,?_,rfl⟩ ?_
   ·dsimp only;unfold nq;rw[List.drop_drop,bu]
   ·have:=Laid.step hm hx hi (o:=o) (c:=c) (by omega) (by omega) (by omega)
    dsimp only
    unfold eM k9 nq eI
    rw[bu,bu,bu,show((o:Int)+(c:Int)).toNat=o+c by omega]
    exact this
   ·dsimp only;unfold nq;simp only[fH];omega
 ·have:j=t.length:=by omega
  subst this
  rw[aq (kJ)]
  exact⟨x,rfl,hx⟩
def byI (v:Int)(k:Nat):Int:=v/2^(8*k)%256
def leB (v:Int)(n:Nat):List UInt8:=l6 ((List.range n).map (byI v))
theorem cM (v:Int)(n:Nat):(leB v n).length=n:=by simp[leB,l6]
theorem shrI (v:Int)(k:Nat)(hk:k<8):an .u8 (dC .i64 v (8*(k:Int)))=byI v k:=by
 unfold dC byI an
 rw[y9,show(8*(k:Int)).toNat=8*k by omega,show min (8*k) (IntKind.bits .i64)=8*k from by simp only[IntKind.bits];omega]
 rw[i7 _ (je (cI (by decide)))]
theorem shrU (v:Int)(k:Nat)(hk:k<8):an .u8 (dC .u64 (an .u64 v) (an .u64 (8*(k:Int))))=byI v k:=by
 rw[dl (n:=8*(k:Int)) (by omega) (by omega)]
 unfold dC byI an
 rw[y9,gB,show(8*(k:Int)).toNat=8*k by omega,show min (8*k) (IntKind.bits .u64)=8*k from by simp only[IntKind.bits];omega]
 rw[i7 _ (je (cI (by decide)))]
 match k,hk with
 |0,_=>show v%18446744073709551616/1%256=v/1%256;omega
 |1,_=>show v%18446744073709551616/256%256=v/256%256;omega
 |2,_=>show v%18446744073709551616/65536%256=v/65536%256;omega
 |3,_=>show v%18446744073709551616/16777216%256=v/16777216%256;omega
 |4,_=>show v%18446744073709551616/4294967296%256=v/4294967296%256;omega
 |5,_=>show v%18446744073709551616/1099511627776%256=v/1099511627776%256;omega
 |6,_=>show v%18446744073709551616/281474976710656%256=v/281474976710656%256;omega
 |7,_=>show v%18446744073709551616/72057594037927936%256=v/72057594037927936%256;omega
theorem tX (v:Int)(n:Nat)(hn:n<=8):aM ((v,(n:Int),()),())=some (leB v n,()):=by
 unfold aM
 dsimp only
 refine(iJ (fun s=>s.1.1=v/\s.1.2.1=(n:Int)/\∃k:Nat,k<=n/\s.1.2.2.1=(k:Int)/\s.2.1=(List.range k).map (byI v)) (fun s=>n-s.1.2.2.1.toNat) (fun _=>some (leB v n,())) ?_ F _ ⟨rfl,rfl,0,by omega,by simp,by simp⟩ (by unfold F;dsimp only;omega))
 rintro⟨⟨b,l,i,_⟩,u,_⟩ rec ⟨h1,h2,k,hk,h3,h4⟩ hrec
 dsimp only at h1 h2 h3 h4 hrec|-
 subst h1 h2 h3 h4
 by_cases hl:k<n
 ·rw[dh,shrU b k (by omega),dl (n:=8*(k:Int)) (by omega) (by omega),ag (kN),ag (gY),ag (j5 (by simp;omega)),aW]
  refine hrec _ ⟨rfl,rfl,k+1,by omega,by dsimp only;omega,?_⟩ (by dsimp only;omega)
  dsimp only
  rw[qF,iy];rfl
 ·have:k=n:=by omega
  subst this
  rw[aq (kJ)];rfl
theorem Gq (v:Int)(n:Nat)(hn:n<=8):km ((v,(n:Int),()),())=some (leB v n,()):=by
 unfold km
 dsimp only
 rw[ag (uh),ag (F9 (by omega))]
 have hr:da (wt (n:Int) (aJ .u))=(n:Int):=by simp[da,wt]
 rw[hr]
 refine(iJ (fun s=>s.1.1=v/\s.1.2.1=(n:Int)/\∃k:Nat,k<=n/\s.1.2.2.1=(k:Int)/\s.2.1=(List.range k).map (byI v)++List.replicate (n-k) (aJ .u)) (fun s=>n-s.1.2.2.1.toNat) (fun _=>some (leB v n,())) ?_ F _ ⟨rfl,rfl,0,by omega,by simp,by simp[wt]⟩ (by unfold F;dsimp only;omega))
 rintro⟨⟨b,l,i,_⟩,u,_⟩ rec ⟨h1,h2,k,hk,h3,h4⟩ hrec
 dsimp only at h1 h2 h3 h4 hrec|-
 subst h1 h2 h3
 have hul:u.length=n:=by rw[h4];simp;omega
 by_cases hl:k<n
 ·rw[dh,shrI b k (by omega),ag (kN),ag (gY),ag (cQ (by omega) (by rw[bW];omega)),aW]
  refine hrec _ ⟨rfl,rfl,k+1,by omega,by dsimp only;omega,?_⟩ (by dsimp only;omega)
  dsimp only
  rw[h4]
  unfold eM
  rw[bu,sV _ _ (by simp),lE,List.length_range,jd,show n-k=(n-(k+1))+1 by omega,List.replicate_succ,qF,iy,qz];rfl
 ·have:k=n:=by omega
  subst this
  rw[aq (kJ),h4,jd]
  simp[leB]
theorem yw {n:Int}(h:di n=true):n=1\/n=2\/n=4\/n=8:=by
 simp only[di,eqI,cO,aG]at h;exact h
theorem Af (v:Int):(BitVec.ofInt 64 v).toNat=(v%18446744073709551616).toNat:=by
 rw[gd];rfl
theorem uv (v:Int)(j:Nat)(hj:j<63):dP .i64 v (2^j-1)=v%2^j:=by
 unfold dP
 show IntKind.wrap .i64 (((BitVec.ofInt 64 v&&& BitVec.ofInt 64 (2^j-1)).toNat:Nat):Int)=_
 rw[om,Af,Af]
 have hp:(1:Int)<=2^j:=cI (by decide)
 have hp2:(2:Int)^j*2^(63-j)=9223372036854775808:=by rw[<-jh,show j+(63-j)=63 by omega];rfl
 have hp3:(1:Int)<=2^(63-j):=cI (by decide)
 have hle:(2:Int)^j<=9223372036854775808:=by
  have:=Int.mul_le_mul_of_nonneg_left hp3 (show(0:Int)<=2^j by omega)
  omega
 have e2:(((2:Int)^j-1)%18446744073709551616).toNat=2^j-1:=by
  rw[jb (by omega) (by omega)]
  have:((2^j:Nat):Int)=(2:Int)^j:=by simp
  omega
 rw[e2,Nat.and_two_pow_sub_one_eq_mod]
 have e3:((v%18446744073709551616).toNat%2^j:Nat)=((v%2^j).toNat):=by
  have h1:((v%18446744073709551616).toNat:Int)=v%18446744073709551616:=kz (by omega)
  have h2:(((v%18446744073709551616).toNat%2^j:Nat):Int)=v%2^j:=by
   rw[dM,h1,Int.natCast_pow]
   refine gP v ⟨2^(63-j)*2,?_⟩
   show(18446744073709551616:Int)=2^j*(2^(63-j)*2)
   rw[<-Int.mul_assoc,hp2];rfl
  omega
 rw[e3,kz (eg _ (by omega))]
 have h5:=eZ v (show(0:Int)<2^j by omega)
 have h6:=eg v (show(2:Int)^j≠0 by omega)
 exact fd ⟨by omega,by omega⟩
def cR (v:Int)(n:Nat):Int:=if n=8 then v else v%2^(8*n)
theorem cG (v:Int)(n:Nat)(hn:di (n:Int)=true):aj ((v,(n:Int),()),())=some (cR v n,()):=by
 unfold aj cR
 dsimp only
 by_cases h8:n=8
 ·subst h8;rw[show eqI ((8:Nat):Int) 8=true from rfl,aV,aa rfl]
 ·have hn4:n<=4:=by rcases yw hn with h|h|h|h<;>omega
  rw[aq (aD),dh,ag (gY),ae h8]
  have hs:bo .i64 (eW .i64 1 (8*(n:Int))) 1=2^(8*n)-1:=by
   rcases yw hn with h|h|h|h
   ·have:n=1:=by omega
    subst this;rfl
   ·have:n=2:=by omega
    subst this;rfl
   ·have:n=4:=by omega
    subst this;rfl
   ·omega
  rw[hs,uv v (8*n) (by omega)]
instance decI64 (n:Int):Decidable (I64 n):=by unfold I64;infer_instance
theorem tY (v:Int)(k:Nat)(h0:1<=k)(h1:k<=8):au ((v,(k:Int),()),())=some (IntKind.wrap .i64 ((uns v%2^(8*k):Nat):Int),()):=by
 unfold au
 dsimp only
 rw[dh,bN]
 have hu:uns v%2^(8*k)<2^(8*k):=cr _ (cE _)
 have hp:(2:Nat)^(8*k)<=2^64:=cX (by decide) (by omega)
 generalize hw:uns v%2^(8*k)=w at hu|-
 refine iJ (fun x=>x.1.1=v/\ -1<=x.1.2.2.1/\x.1.2.2.1<=8*(k:Int)-1/\x.1.2.1=((w/2^(x.1.2.2.1+1).toNat:Nat):Int)) (fun x=>(x.1.2.2.1+1).toNat)
  (fun _=>some (IntKind.wrap .i64 (w:Int),())) ?_ F _ ⟨rfl,by dsimp only;omega,by dsimp only;omega,?_⟩ (by unfold F;dsimp only;omega)
 ·rintro⟨⟨v',acc,i,_⟩,_⟩ rec ⟨rfl,h2,h3,hacc⟩ hrec
  dsimp only at h2 h3 hacc hrec|-
  by_cases hi:0<=i
  ·obtain⟨j,rfl⟩:=bU hi
   rw[ag (gY hi),pL _ _ (by omega) (by omega),af]
   dsimp only
   have e3:v'%2^64/2^((j:Int)).toNat%2=((w/2^j%2:Nat):Int):=by
    have hb:∀a j:Nat,a/2^j%2=(a.testBit j).toNat:=fun a j=>by rw[oA];rcases sP (a/2^j)with h|h<;>simp[h]
    have:w/2^j%2=uns v'/2^j%2:=by
     rw[hb,hb,<-hw,qr,dT,jR]
    rw[this,<-bX];simp
   rw[e3]
   have e4:w/2^(((j:Int)+1).toNat)=w/2^j/2:=by
    rw[show((j:Int)+1).toNat=j+1 by omega,cP,oC]
   rw[e4]at hacc
   generalize hq:w/2^j=q at hacc|-
   have hq2:q<2^64:=by rw[<-hq];exact gQ (oo _ _) (by omega)
   have e5:aL .u64 (cj .u64 2 acc) (an .u64 ((q%2:Nat):Int))=(q:Int):=by
    unfold aL cj an
    rw[hacc,pm (n:=2*((q/2:Nat):Int)) (by omega) (by omega),pm (n:=((q%2:Nat):Int)) (by omega) (by omega),pm (by omega) (by omega)]
    omega
   rw[e5,bN]
   refine hrec _ ⟨rfl,by dsimp only;omega,by dsimp only;omega,?_⟩ (by dsimp only;omega)
   dsimp only
   rw[show((j:Int)-1+1).toNat=j by omega,hq]
  ·rw[aq (mI hi)]
   have:i= -1:=by omega
   subst this
   rw[hacc]
   simp
   rfl
 ·dsimp only
  rw[show(8*(k:Int)-1+1).toNat=8*k by omega,mY hu];rfl
theorem cc {v:Int}(hv:I64 v)(k:Nat)(hk:di (k:Int)=true):au ((v,(k:Int),()),())=some (cR v k,()):=by
 obtain⟨k1,k8⟩:1<=k/\k<=8:=by rcases yw hk with h|h|h|h<;>omega
 rw[tY v k k1 k8]
 unfold cR
 by_cases h8:k=8
 ·subst h8
  rw[aa rfl]
  have hlt:uns v<2^64:=by have:=bX v;have:=eZ v (show(0:Int)<2^64 by decide);omega
  rw[show 8*8=64 from rfl,cb hlt,bX]
  have he:IntKind.wrap .i64 (v%2^64)=IntKind.wrap .i64 v:=by
   simp[IntKind.wrap,IntKind.bits]
  rw[he,fd hv]
 ·rw[ae h8]
  have e:((uns v%2^(8*k):Nat):Int)=v%2^(8*k):=by
   rw[dM,bX,show((2^(8*k):Nat):Int)=(2:Int)^(8*k)by simp]
   refine gP v ⟨2^(64-8*k),?_⟩
   rw[<-jh];congr 1;omega
  rw[e]
  have h1:=eg v (show(2:Int)^(8*k)≠0 from jf (cI (by decide)))
  have h2:=eZ v (show(0:Int)<2^(8*k)from cI (by decide))
  have h3:(2:Int)^(8*k)<=2^32:=by
   have:k=1\/k=2\/k=4:=by rcases yw hk with h|h|h|h<;>omega
   rcases this with rfl|rfl|rfl<;>decide
  generalize (2:Int)^(8*k)=q at h1 h2 h3|-
  rw[fd (n:=v%q) ⟨by omega,by omega⟩]
def oU (v:Int)(k:Nat):Bool:=decide (v%2^64/2^k%2=1)
theorem kD (v:Int)(k:Nat):oU v k=(uns v).testBit k:=by
 unfold oU
 rw[<-bX,oA]
 have e:((uns v:Int)/2^k%2=1)↔(uns v/2^k%2=1):=by
  have:((uns v:Int)/2^k%2)=((uns v/2^k%2:Nat):Int):=by simp
  rw[this];omega
 simp only[e]
theorem gA (v:Int):uns v<2^64:=by have:=bX v;have:=eZ v (show(0:Int)<2^64 by decide);omega
theorem cT (v:Int):uns (IntKind.wrap .i64 v)=uns v:=by
 unfold uns
 have:IntKind.wrap .i64 v%2^64=v%2^64:=by
  simp only[IntKind.wrap,IntKind.bits,IntKind.signed,jR]
  split<;>omega
 rw[this]
theorem gX {n:Nat}(h:n<2^64):uns (n:Int)=n:=by unfold uns;omega
theorem uK (a b:Int):uns (dP .i64 a b)=uns a&&& uns b:=by
 unfold dP
 rw[cT]
 show uns (((BitVec.ofInt 64 a&&& BitVec.ofInt 64 b).toNat:Nat):Int)=_
 rw[gX (BitVec.isLt _),om];rfl
theorem uL (a b:Int):uns (vA .i64 a b)=uns a ^^^uns b:=by
 unfold vA
 rw[cT]
 show uns (((BitVec.ofInt 64 a ^^^BitVec.ofInt 64 b).toNat:Nat):Int)=_
 rw[gX (BitVec.isLt _),BitVec.toNat_xor];rfl
theorem qe (a b:Int):uns (ior .i64 a b)=uns a|||uns b:=by
 unfold ior
 rw[cT]
 show uns (((BitVec.ofInt 64 a|||BitVec.ofInt 64 b).toNat:Nat):Int)=_
 rw[gX (BitVec.isLt _),oq];rfl
theorem CD (a b:Int)(k:Nat):oU (dP .i64 a b) k=(oU a k&&oU b k):=by rw[kD,kD,kD,uK,Nat.testBit_and]
theorem ut (a b:Int)(k:Nat):oU (vA .i64 a b) k=(oU a k ^^oU b k):=by rw[kD,kD,kD,uL,Nat.testBit_xor]
theorem l7 {a b:Int}(ha:I64 a)(hb:I64 b)(h:uns a=uns b):a=b:=by
 unfold I64 at*
 have h1:=bX a
 have h2:=bX b
 rw[h]at h1
 omega
theorem Ix (v:Int):dP .i64 v 1=v%2:=uv v 1 (by decide)
theorem He {v:Int}(k:Nat)(hk:k<=63):eqI (dP .i64 (dC .i64 v (k:Int)) 1) 1=oU v k:=by
 rw[Ix]
 unfold dC oU eqI
 rw[bu,show min k IntKind.i64.bits=k by simp[IntKind.bits];omega]
 have hp:(0:Int)<2^k:=cI (by decide)
 rw[i7 _ (je hp)]
 have e:v/2^k%2=v%2^64/2^k%2:=by
  have h64:(2:Int)^k*2^(64-k)=2^64:=by rw[<-jh];congr 1;omega
  have h2:(2:Int)^(64-k)=2*2^(63-k):=by rw[show 64-k=(63-k)+1 by omega,jS,Int.mul_comm]
  have hd:v=v%2^64+2^k*(2*2^(63-k)*(v/2^64)):=by
   have:=(Int.emod_add_mul_ediv v (2^64)).symm
   rw[<-Int.mul_assoc,<-h2,h64];exact this
  generalize v%2^64=r at hd|-
  generalize v/2^64=s at hd
  rw[hd,qw _ _ (jf hp),Int.mul_assoc,Int.add_mul_emod_self_left]
 rw[e]
theorem wm {v:Int}(n:Nat)(hn:1<=n)(hn8:n<=8):fp ((v,(n:Int),()),())=some (oU v (8*n-1),()):=by
 unfold fp
 dsimp only
 rw[dh,bN,ag (gY)]
 have e:8*(n:Int)-1=((8*n-1:Nat):Int):=by omega
 rw[e,He _ (by omega)]
theorem j6 (b:Bool)(k:Int):bZ ((b,k,()),())=some (if b=true then k else 0,()):=by
 unfold bZ;cases b<;>rfl
def parL:List Bool:=(List.range 256).map fun u=>(u%2+u/2%2+u/4%2+u/8%2+u/16%2+u/32%2+u/64%2+u/128%2)%2==0
def Js (v:Int):Bool:=parL.getD (uns v%256) false
def AJ (n:Nat)(v:Int):Int:=ior .i64 (ior .i64 (if oU v (8*n-1)=true then 128 else 0) (if cR v n=0 then 64 else 0)) (if Js v=true then 4 else 0)
def onesB (u:Nat):Bool:=match eA (((u:Int),()),())with
 |some x=>decide ((gC x.1 2=0)=(parL.getD u false=true))
 |none=>false
theorem I6:∀u:Nat,u<256->onesB u=true:=by decide +kernel
theorem wrapU8 (v:Int):an .u8 v=((uns v%256:Nat):Int):=by
 unfold an uns
 rw[y9];omega
theorem kY {v:Int}(n:Nat)(hn:di (n:Int)=true):cY (((n:Int),v,()),())=some (AJ n v,()):=by
 obtain⟨h1,h8⟩:1<=n/\n<=8:=by rcases yw hn with h|h|h|h<;>omega
 unfold cY
 dsimp only
 rw[wm n h1 h8,af]
 dsimp only
 rw[j6,af,cG v n hn,af]
 dsimp only
 rw[j6,af,wrapU8]
 have hu:uns v%256<256:=cr _ (by decide)
 have ho:=I6 (uns v%256) hu
 unfold onesB at ho
 cases hx:eA ((((uns v%256:Nat):Int),()),())with
 |none=>rw[hx]at ho;cases ho
 |some x=>
  rw[hx]at ho
  have ho:=bh ho
  rw[af,j6,af]
  have e:eqI (gC x.1 2) 0=Js v:=by
   rw[bv,lJ,ho];rfl
  rw[e]
  unfold AJ
  simp only[lJ]
def cZ (v:Int)(n:Nat):Nat:=uns v%2^(8*n)
def rc (u n:Nat):Int:=IntKind.wrap .i64 ((u%2^(8*n):Nat):Int)
def sumV (n:Nat)(a b:Int)(c:Nat):Int:=rc (cZ a n+cZ b n+c) n
def sumC (n:Nat)(a b:Int)(c:Nat):Bool:=decide ((cZ a n+cZ b n+c)/2^(8*n)=1)
def sumI (n:Nat)(a b:Int)(c:Nat):Bool:=decide ((cZ a n%2^(8*n-1)+cZ b n%2^(8*n-1)+c)/2^(8*n-1)=1)
def JQ (n:Nat)(a b:Int)(c:Nat):Int:=rc (cZ a n+2^(8*n)-cZ b n-c) n
def subC (n:Nat)(a b:Int)(c:Nat):Bool:=decide (cZ a n<cZ b n+c)
def Hr (n:Nat)(a b:Int)(c:Nat):Bool:=decide (cZ a n%2^(8*n-1)<cZ b n%2^(8*n-1)+c)
def addF (n:Nat)(v:Int)(c i:Bool):Int:=ior .i64 (ior .i64 (AJ n v) (if c=true then 1 else 0)) (if(c != i)=true then 2048 else 0)
def zb (n:Nat)(a b:Int)(c:Nat):Int×Int:=(sumV n a b c,addF n (sumV n a b c) (sumC n a b c) (sumI n a b c))
def xz (n:Nat)(a b:Int)(c:Nat):Int×Int:=(JQ n a b c,addF n (JQ n a b c) (subC n a b c) (Hr n a b c))
def tC (v:Int)(n:Nat):Prop:=cR v n=v/\I64 v
theorem kI {v:Int}(hv:I64 v){n:Nat}(hn:di (n:Int)=true):cR v n=rc (cZ v n) n:=by
 unfold rc cZ
 rw[mE]
 have h1:=cc hv n hn
 obtain⟨h1',h8⟩:1<=n/\n<=8:=by rcases yw hn with h|h|h|h<;>omega
 rw[tY v n h1' h8]at h1
 injection h1 with h1
 injection h1 with h1 _
 exact h1.symm
theorem gy {v:Int}:an .u64 v=((uns v:Nat):Int):=by unfold an;rw[gB];exact(bX v).symm
theorem GA {v:Int}{n:Nat}(hn:di (n:Int)=true)(h:tC v n):uns v=cZ v n:=by
 obtain⟨h1,h2⟩:=h
 unfold I64 at h2
 unfold cZ
 unfold cR at h1
 have:=gA v
 rcases yw hn with g|g|g|g
 ·have:n=1:=by omega
  subst this
  rw[iD]at h1
  rw[show(2:Int)^(8*1)=256 from rfl]at h1
  rw[show(2:Nat)^(8*1)=256 from rfl]
  unfold uns;omega
 ·have:n=2:=by omega
  subst this
  rw[iD]at h1
  rw[show(2:Int)^(8*2)=65536 from rfl]at h1
  rw[show(2:Nat)^(8*2)=65536 from rfl]
  unfold uns;omega
 ·have:n=4:=by omega
  subst this
  rw[iD]at h1
  rw[show(2:Int)^(8*4)=4294967296 from rfl]at h1
  rw[show(2:Nat)^(8*4)=4294967296 from rfl]
  unfold uns;omega
 ·have:n=8:=by omega
  subst this
  rw[show 8*8=64 from rfl]
  omega
theorem jx (v:Int)(n:Nat):cZ v n<2^(8*n):=cr _ (cE _)
theorem nE (u n:Nat):I64 (rc u n):=aB _
theorem qW (u n:Nat)(hn:n<=8):uns (rc u n)=u%2^(8*n):=by
 unfold rc
 rw[cT]
 have h1:u%2^(8*n)<2^(8*n):=cr _ (cE _)
 have h2:(2:Nat)^(8*n)<=2^64:=cX (by decide) (by omega)
 exact gX (by omega)
theorem AS {n:Nat}(hn:di (n:Int)=true):n=1\/n=2\/n=4\/n=8:=by rcases yw hn with h|h|h|h<;>omega
theorem fw {n:Nat}(hn:di (n:Int)=true):1<=n/\n<=8:=by rcases AS hn with h|h|h|h<;>omega
theorem zo (u n k:Nat)(hn:n<=8)(hk:k<8*n):oU (rc u n) k=decide (u/2^k%2=1):=by
 rw[kD,qW u n hn,qr,aF hk,jR,oA]
theorem mi {v:Int}{n k:Nat}(hk:k<8*n):oU v k=decide (cZ v n/2^k%2=1):=by
 unfold cZ
 rw[kD,<-oA,qr,aF hk,jR]
theorem ovf (A B C m:Nat)(hm:1<=m)(hA:A<2^m)(hB:B<2^m)(hC:C<=1):
  ((decide (A/2^(m-1)%2=1)^^decide ((A+B+C)/2^(m-1)%2=1))&&(decide (B/2^(m-1)%2=1)^^decide ((A+B+C)/2^(m-1)%2=1)))=
  (decide ((A+B+C)/2^m=1) != decide ((A%2^(m-1)+B%2^(m-1)+C)/2^(m-1)=1)):=by
 obtain⟨k,rfl⟩:∃k,m=k+1:=⟨m-1,by omega⟩
 rw[show k+1-1=k by omega]
 have hp:0<2^k:=cE k
 rw[cP]at*
 generalize 2^k=P at*
 have a1:=mz A P
 have b1:=mz B P
 have a2:A/P<2:=by rw[jM hp];omega
 have b2:B/P<2:=by rw[jM hp];omega
 have a3:=cr A hp
 have b3:=cr B hp
 generalize A%P=x at*
 generalize B%P=y at*
 have hS:(A+B+C)/P=A/P+B/P+(x+y+C)/P:=by
  have e:A+B+C=(x+y+C)+P*(A/P+B/P):=by rw[kb];omega
  rw[e,qx _ _ hp];omega
 have hS2:(A+B+C)/(P*2)=(A/P+B/P+(x+y+C)/P)/2:=by rw[<-oC,hS]
 have h3:(x+y+C)/P<2:=by rw[jM hp];omega
 rw[hS,hS2]
 generalize (x+y+C)/P=z at*
 generalize A/P=p at*
 generalize B/P=q at*
 have hp':p=0\/p=1:=by omega
 have hq':q=0\/q=1:=by omega
 have hz':z=0\/z=1:=by omega
 rcases hp' with rfl|rfl<;>rcases hq' with rfl|rfl<;>rcases hz' with rfl|rfl<;>decide
theorem uu {c:Nat}(hc:c<=1):EN (an .u64 (c:Int))=true/\an .u64 (c:Int)=c:=by
 have:an .u64 (c:Int)=c:=dl
 rw[this]
 exact⟨dT,rfl⟩
theorem y5 (v:Int):y4 (an .u64 v)=true:=by
 rw[gy]
 have:=gA v
 exact dT
theorem zR {n:Nat}(hn:di (n:Int)=true)(u:Nat):cR (an .i64 ((u%18446744073709551616:Nat):Int)) n=rc u n:=by
 obtain⟨h1,h8⟩:=fw hn
 have hI:I64 (an .i64 ((u%18446744073709551616:Nat):Int)):=aB _
 rw[kI hI hn]
 unfold cZ
 have:uns (an .i64 ((u%18446744073709551616:Nat):Int))=u%18446744073709551616:=by
  unfold an;rw[cT];exact gX (cr _ (by decide))
 rw[this]
 unfold rc
 rw[mE,mX]
 exact⟨2^(64-8*n),by rw[<-eD,show 8*n+(64-8*n)=64 by omega]⟩
theorem Hs {a b:Int}{n c:Nat}(hn:di (n:Int)=true)(ha:tC a n)(hb:tC b n)(hc:c<=1):
  j8 (((n:Int),a,b,(c:Int),()),())=some (((zb n a b c).1,(zb n a b c).2,()),()):=by
 obtain⟨h1,h8⟩:=fw hn
 have ea:=GA hn ha
 have eb:=GA hn hb
 have la:=jx a n
 have lb:=jx b n
 unfold j8
 dsimp only
 rw[y5,y5,(uu hc).1,(uu hc).2,aV,aV,aV,gy,gy,ea,eb]
 have eS:uU ((cZ a n:Nat):Int) ((cZ b n:Nat):Int) (c:Int)=(((cZ a n+cZ b n+c)%18446744073709551616:Nat):Int):=by unfold uU;omega
 have eC:zg ((cZ a n:Nat):Int) ((cZ b n:Nat):Int) (c:Int)=(((cZ a n+cZ b n+c)/18446744073709551616:Nat):Int):=by unfold zg;omega
 rw[eS,eC]
 refine(Ret.bnd (Q:=fun y=>y=Sum.inl (((n:Int),a,b,(((cZ a n+cZ b n+c)%18446744073709551616:Nat):Int),sumC n a b c,()),())) ?_ ?_).eq
 ·unfold sumC
  by_cases h:n<8
  ·rw[ag (kN),dh,ag (gY)]
   refine Ret.some ?_
   have hsz:n=1\/n=2\/n=4:=by rcases AS hn with h|h|h|h<;>omega
   have e:eqI (dP .u64 (dC .u64 (((cZ a n+cZ b n+c)%18446744073709551616:Nat):Int) (8*(n:Int))) 1) 1=decide ((cZ a n+cZ b n+c)/2^(8*n)=1):=by
    have hs:∀(x:Nat) (k:Nat),x<2^64->k<=64->dC .u64 (x:Int) (k:Int)=((x/2^k:Nat):Int):=fun x k hx hk=>by
     unfold dC
     rw[bu,show min k IntKind.u64.bits=k by simp[IntKind.bits];omega]
     rw[i7 _ (je (cI (by decide)))]
     simp
    have hand:∀x:Nat,x<2^64->dP .u64 (x:Int) 1=((x%2:Nat):Int):=fun x hx=>by
     unfold dP
     rw[gB]
     have:(BitVec.ofInt IntKind.u64.bits (x:Int)&&& BitVec.ofInt IntKind.u64.bits 1).toNat=x%2:=by
      rw[om]
      have e1:(BitVec.ofInt IntKind.u64.bits (x:Int)).toNat=x:=by
       show(BitVec.ofInt 64 (x:Int)).toNat=x
       rw[gd];omega
      rw[e1]
      show x&&& 1=_
      exact Nat.and_one_is_mod x
     rw[this];omega
    have e8:(8*(n:Int))=((8*n:Nat):Int):=by omega
    have hlt:(cZ a n+cZ b n+c)%18446744073709551616<2^64:=cr _ (by decide)
    rw[e8,hs _ _ hlt (by omega),hand _ (gQ (oo _ _) hlt)]
    unfold eqI
    rcases hsz with rfl|rfl|rfl
    ·rw[show(2:Nat)^(8*1)=256 from rfl]at*
     rw[bv,aG,aG];omega
    ·rw[show(2:Nat)^(8*2)=65536 from rfl]at*
     rw[bv,aG,aG];omega
    ·rw[show(2:Nat)^(8*4)=4294967296 from rfl]at*
     rw[bv,aG,aG];omega
   rw[e]
  ·have h8:n=8:=by omega
   subst h8
   rw[aq (kJ)]
   refine Ret.some ?_
   have e:eqI (((cZ a 8+cZ b 8+c)/18446744073709551616:Nat):Int) 1=decide ((cZ a 8+cZ b 8+c)/2^(8*8)=1):=by
    unfold eqI
    rw[show(2:Nat)^(8*8)=18446744073709551616 from rfl,bv,aG,aG];omega
   rw[e]
 ·rintro _ rfl
  rw[am]
  dsimp only
  rw[cG _ n hn,zR hn,af]
  dsimp only
  rw[kY n hn,af,j6,af]
  dsimp only
  rw[wm n h1 h8,af,j6,af]
  refine Ret.some ?_
  have ho:oU (dP .i64 (vA .i64 a (rc (cZ a n+cZ b n+c) n)) (vA .i64 b (rc (cZ a n+cZ b n+c) n))) (8*n-1)=(sumC n a b c != sumI n a b c):=by
   rw[CD,ut,ut,zo _ n _ h8 (by omega),mi (v:=a) (n:=n) (by omega),mi (v:=b) (n:=n) (by omega)]
   exact ovf _ _ _ _ (by omega) la lb hc
  dsimp only
  rw[ho]
  rfl
theorem ovfS (A B C m:Nat)(hm:1<=m)(hA:A<2^m)(hB:B<2^m)(hC:C<=1):
  ((decide (A/2^(m-1)%2=1)^^decide (B/2^(m-1)%2=1))&&(decide (A/2^(m-1)%2=1)^^decide ((A+2^m-B-C)/2^(m-1)%2=1)))=
  (decide (A<B+C) != decide (A%2^(m-1)<B%2^(m-1)+C)):=by
 obtain⟨k,rfl⟩:∃k,m=k+1:=⟨m-1,by omega⟩
 rw[show k+1-1=k by omega]
 have hp:0<2^k:=cE k
 rw[cP]at*
 generalize 2^k=P at*
 have a1:=mz A P
 have b1:=mz B P
 have a2:A/P<2:=by rw[jM hp];omega
 have b2:B/P<2:=by rw[jM hp];omega
 have a3:=cr A hp
 have b3:=cr B hp
 generalize A%P=x at*
 generalize B%P=y at*
 have hd:∀z k:Nat,k*P<=z->z<(k+1)*P->z/P=k:=fun z k h1 h2=>Nat.div_eq_of_lt_le h1 h2
 generalize A/P=p at*
 generalize B/P=q at*
 have hp':p=0\/p=1:=by omega
 have hq':q=0\/q=1:=by omega
 have key:∀k:Nat,(A+P*2-B-C)/P=k->∀b1 b2:Bool,decide (A<B+C)=b1->decide (x<y+C)=b2->
   ((decide (p%2=1)^^decide (q%2=1))&&(decide (p%2=1)^^decide (k%2=1)))=(b1 != b2)->
   ((decide (p%2=1)^^decide (q%2=1))&&(decide (p%2=1)^^decide ((A+P*2-B-C)/P%2=1)))=(decide (A<B+C) != decide (x<y+C)):=fun k e b1 b2 e1 e2 h=>by rw[e,e1,e2];exact h
 rcases hp' with rfl|rfl<;>rcases hq' with rfl|rfl<;>by_cases hb:x<y+C
 ·exact key 1 (hd _ _ (by omega) (by omega)) true true (dT) (aF hb) (by decide)
 ·exact key 2 (hd _ _ (by omega) (by omega)) false false (dF) (aP hb) (by decide)
 ·exact key 0 (hd _ _ (by omega) (by omega)) true true (dT) (aF hb) (by decide)
 ·exact key 1 (hd _ _ (by omega) (by omega)) true false (dT) (aP hb) (by decide)
 ·exact key 2 (hd _ _ (by omega) (by omega)) false true (dF) (aF hb) (by decide)
 ·exact key 3 (hd _ _ (by omega) (by omega)) false false (dF) (aP hb) (by decide)
 ·exact key 1 (hd _ _ (by omega) (by omega)) true true (dT) (aF hb) (by decide)
 ·exact key 2 (hd _ _ (by omega) (by omega)) false false (dF) (aP hb) (by decide)
theorem mm {a b:Int}{n c:Nat}(hn:di (n:Int)=true)(ha:tC a n)(hb:tC b n)(hc:c<=1):
  cJ (((n:Int),a,b,(c:Int),()),())=some (((xz n a b c).1,(xz n a b c).2,()),()):=by
 obtain⟨h1,h8⟩:=fw hn
 have ea:=GA hn ha
 have eb:=GA hn hb
 have la:=jx a n
 have lb:=jx b n
 unfold cJ
 dsimp only
 rw[y5,y5,(uu hc).1,(uu hc).2,aV,aV,aV,gy,gy,ea,eb]
 have hpw:(2:Nat)^(8*n)<=18446744073709551616:=dN (cX (by decide) (show 8*n<=64 by omega)) (by decide)
 have eS:rB ((cZ a n:Nat):Int) ((cZ b n:Nat):Int) (c:Int)=(((cZ a n+18446744073709551616-cZ b n-c)%18446744073709551616:Nat):Int):=by unfold rB;omega
 have eC:eqI (pw ((cZ a n:Nat):Int) ((cZ b n:Nat):Int) (c:Int)) 1=subC n a b c:=by
  unfold pw subC eqI
  rw[bv,aG,aG]
  split<;>omega
 have eV:rc (cZ a n+18446744073709551616-cZ b n-c) n=JQ n a b c:=by
  unfold JQ rc
  have:(cZ a n+18446744073709551616-cZ b n-c)%2^(8*n)=(cZ a n+2^(8*n)-cZ b n-c)%2^(8*n):=by
   have hd:(18446744073709551616:Nat)=2^(8*n)*(2^(64-8*n)-1)+2^(8*n):=by
    rw[Nat.mul_sub,<-eD,show 8*n+(64-8*n)=64 by omega]
    omega
   generalize 2^(8*n)=Q at*
   generalize 2^(64-8*n)-1=R at*
   have e:cZ a n+18446744073709551616-cZ b n-c=(cZ a n+Q-cZ b n-c)+Q*R:=by omega
   rw[e,qn]
  rw[this]
 rw[eS,eC,cG _ n hn,zR hn,eV,af]
 dsimp only
 rw[kY n hn,af,j6,af]
 dsimp only
 rw[wm n h1 h8,af,j6,af]
 have ho:oU (dP .i64 (vA .i64 a b) (vA .i64 a (JQ n a b c))) (8*n-1)=(subC n a b c != Hr n a b c):=by
  rw[CD,ut,ut]
  unfold JQ
  rw[zo _ n _ h8 (by omega),mi (v:=a) (n:=n) (by omega),mi (v:=b) (n:=n) (by omega)]
  exact ovfS _ _ _ _ (by omega) la lb hc
 dsimp only
 rw[ho]
 rfl
def pk (op a b:Int):Int:=if op=2 then ior .i64 a b else if op=7 then vA .i64 a b else dP .i64 a b
def AZ (op:Int)(n:Nat)(a b f:Int):Int×Int:=
 if op=1 then zb n (cR a n) (cR b n) 0
 else if op=3 then zb n (cR a n) (cR b n) (f%2).toNat
 else if op=6 then xz n (cR a n) (cR b n) 0
 else if op=4 then xz n (cR a n) (cR b n) (f%2).toNat
 else if op=8 then(cR a n,(xz n (cR a n) (cR b n) 0).2)
 else if op=10 then(cR a n,AJ n (dP .i64 (cR a n) (cR b n)))
 else(pk op (cR a n) (cR b n),AJ n (pk op (cR a n) (cR b n)))
theorem gE {v:Int}(hv:I64 v){n:Nat}(hn:di (n:Int)=true):I64 (cR v n):=by
 rw[kI hv hn];exact nE _ _
theorem qR {v:Int}(hv:I64 v){n:Nat}(hn:di (n:Int)=true):cZ (cR v n) n=cZ v n:=by
 rw[kI hv hn]
 unfold cZ
 rw[qW _ _ (fw hn).2,mE,mE]
theorem pN {v:Int}(hv:I64 v){n:Nat}(hn:di (n:Int)=true):tC (cR v n) n:=by
 refine⟨?_,gE hv hn⟩
 rw[kI (gE hv hn) hn,qR hv hn,<-kI hv hn]
theorem zK (f:Int):dP .i64 f 1=((f%2).toNat:Int):=by rw[Ix];omega
theorem alu_eq {op a b f:Int}{n:Nat}(hn:di (n:Int)=true)(ha:I64 a)(hb:I64 b):nW ((op,(n:Int),a,b,f,()),())=some (((AZ op n a b f).1,(AZ op n a b f).2,()),()):=by
 have oa:=pN ha hn
 have ob:=pN hb hn
 have s0:=Hs (c:=0) hn oa ob (by decide)
 have s1:=Hs (c:=(f%2).toNat) hn oa ob (by omega)
 have d0:=mm (c:=0) hn oa ob (by decide)
 have d1:=mm (c:=(f%2).toNat) hn oa ob (by omega)
 rw[show((0:Nat):Int)=0 from rfl]at s0 d0
 unfold nW AZ
 dsimp only
 rw[cG _ n hn,cG _ n hn,af,af]
 dsimp only
 rw[zK,s0,s1,d0,d1]
 by_cases h1:op=1
 ·rw[ag (bK h1),aa h1,af]
 rw[aq (aD h1),ae h1]
 by_cases h3:op=3
 ·rw[ag (bK h3),aa h3,af]
 rw[aq (aD h3),ae h3]
 by_cases h6:op=6
 ·rw[ag (bK h6),aa h6,af]
 rw[aq (aD h6),ae h6]
 by_cases h4:op=4
 ·rw[ag (bK h4),aa h4,af]
 rw[aq (aD h4),ae h4]
 by_cases h8:op=8
 ·rw[ag (bK h8),aa h8,af]
 rw[aq (aD h8),ae h8]
 unfold pk
 by_cases h2:op=2
 ·rw[ag (bK h2),af,am,kY n hn,af,iN,aa h2]
 rw[aq (aD h2)]
 by_cases h7:op=7
 ·rw[ag (bK h7),af,am,af,am,kY n hn,af,iN,ae h2,aa h7]
 rw[aq (aD h7)]
 by_cases h10:op=10
 ·rw[ag (bK h10),kY n hn,af,af,rC,af,rC,aa h10]
 rw[aq (aD h10),af,am,af,am,kY n hn,af,ae h10,ae h2,ae h7]
theorem wX (n:Int):kk ((n,()),())=some (decide (n=1\/n=2\/n=4\/n=8),()):=by
 unfold kk
 simp only[ue,af,eqI,<-Bool.decide_or,or_assoc]
theorem ro:iE=kk:=rfl
theorem bB (n a b:Int):az ((n,a,b,()),())=some (decide (a<=n/\n<=b),()):=by
 unfold az
 simp only[tS,af,leI,Bool.decide_and]
theorem ca:ax=az:=rfl
def regL1:List (List UInt8):=[[97,108],[99,108],[100,108],[98,108],[115,112,108],[98,112,108],[115,105,108],[100,105,108],[114,56,98],[114,57,98],[114,49,48,98],[114,49,49,98],[114,49,50,98],[114,49,51,98],[114,49,52,98],[114,49,53,98],[97,104],[99,104],[100,104],[98,104]]
def regL2:List (List UInt8):=[[97,120],[99,120],[100,120],[98,120],[115,112],[98,112],[115,105],[100,105],[114,56,119],[114,57,119],[114,49,48,119],[114,49,49,119],[114,49,50,119],[114,49,51,119],[114,49,52,119],[114,49,53,119]]
def regL4:List (List UInt8):=[[101,97,120],[101,99,120],[101,100,120],[101,98,120],[101,115,112],[101,98,112],[101,115,105],[101,100,105],[114,56,100],[114,57,100],[114,49,48,100],[114,49,49,100],[114,49,50,100],[114,49,51,100],[114,49,52,100],[114,49,53,100]]
def regL8:List (List UInt8):=[[114,97,120],[114,99,120],[114,100,120],[114,98,120],[114,115,112],[114,98,112],[114,115,105],[114,100,105],[114,56],[114,57],[114,49,48],[114,49,49],[114,49,50],[114,49,51],[114,49,52],[114,49,53]]
def regL (s:Int):List (List UInt8):=if s=1 then regL1 else if s=2 then regL2 else if s=4 then regL4 else regL8
def ii (s:Int):Prop:=s=1\/s=2\/s=4\/s=8
instance (s:Int):Decidable (ii s):=by unfold ii;infer_instance
def regP (r s:Int):Prop:=0<=r/\r<(regL s).length
instance (r s:Int):Decidable (regP r s):=by unfold regP;infer_instance
def Kq (r s:Int):List UInt8:=if regP r s then(regL s).getD r.toNat []else []
def uB (k r b i s d m:Int):Prop:=k=2/\r=0/\m=0/\ -1<=b/\b<=16/\ -1<=i/\i<=15/\i≠4/\(s=1\/i≠ -1/\(s=2\/s=4\/s=8))/\(b≠16\/i= -1)/\ -2147483648<=d/\d<=2147483647
instance (k r b i s d m:Int):Decidable (uB k r b i s d m):=by unfold uB;infer_instance
def opOK (k r b i s d m z:Int):Prop:=ii z/\
 (k=1/\b=0/\i=0/\s=0/\d=0/\m=0/\regP r z\/uB k r b i s d m\/k=3/\r=0/\b=0/\i=0/\s=0/\d=0\/k=0/\r=0/\b=0/\i=0/\s=0/\d=0/\m=0)
instance (k r b i s d m z:Int):Decidable (opOK k r b i s d m z):=by unfold opOK;infer_instance
theorem xN {a b:Bool}:kC a b=true↔a=true/\b=true:=by cases a<;>cases b<;>simp[kC]
theorem brF {α:Type}{c e:Bool}{u:α}:br c (some (false,u)) (some (e,u))=some (!c&&e,u):=by cases c<;>rfl
def ripS:List UInt8:=[114,105,112]
def p1 (b:Int):List (List UInt8):=if b=16 then [ripS]else if 0<=b then [Kq b 8]else []
def p2 (i s:Int):List (List UInt8):=if 0<=i then [Kq i 8++[42]++Go.Lib.itoa s]else []
def p3 (d:Int)(q:List (List UInt8)):List (List UInt8):=if d≠0\/q=[]then [Go.Lib.itoa d]else []
theorem J1 {n:Nat}(h:n<9223372036854775808):IntKind.i64.wrap (n:Int)=n:=fd ⟨by omega,by omega⟩
theorem zj (X M:BitVec 64):X&&& ~~~M=0#64↔X&&& M=X:=by
 constructor
 ·intro h
  apply BitVec.eq_of_getLsbD_eq
  intro i hi
  have:=congrArg (fun z:BitVec 64=>z.getLsbD i) h
  simp only[oh,BitVec.getLsbD_not,hi,decide_true,jR,BitVec.getLsbD_zero]at this
  rw[oh]
  cases h1:X.getLsbD i<;>cases h2:M.getLsbD i<;>simp_all
 ·intro h
  apply BitVec.eq_of_getLsbD_eq
  intro i hi
  have:=congrArg (fun z:BitVec 64=>z.getLsbD i) h
  simp only[oh]at this
  simp only[oh,BitVec.getLsbD_not,hi,decide_true,jR,BitVec.getLsbD_zero]
  cases h1:X.getLsbD i<;>cases h2:M.getLsbD i<;>simp_all
def ct (x:Int):Bool:=eqI (jy .i64 x 2245) 0
theorem iandn64 (x:Int):jy .i64 x 2245=IntKind.i64.wrap ((BitVec.ofInt 64 x&&& ~~~2245#64).toNat:Int):=rfl
theorem iand64 (x:Int):dP .i64 x 2245=IntKind.i64.wrap ((BitVec.ofInt 64 x&&& 2245#64).toNat:Int):=rfl
theorem CV {x:Int}(h:I64 x):(decide (0<=x)&&eqI (dP .i64 x 2245) x)=ct x:=by
 unfold I64 at h
 unfold ct eqI
 rw[iandn64,iand64]
 generalize hX:BitVec.ofInt 64 x=X
 have hXi:X.toInt=x:=by rw[<-hX,BitVec.toInt_ofInt];rw[Int.bmod_def];split<;>omega
 have hle:(X&&& 2245#64).toNat<=2245:=by rw[om];exact Nat.and_le_right
 have hw1:IntKind.i64.wrap ((X&&& 2245#64).toNat:Int)=(X&&& 2245#64).toNat:=J1 (by omega)
 have hz:IntKind.i64.wrap ((X&&& ~~~2245#64).toNat:Int)=0↔X&&& ~~~2245#64=0#64:=by
  have hlt:(X&&& ~~~2245#64).toNat<2^64:=BitVec.isLt _
  rw[IntKind.wrap_i64]
  constructor
  ·intro e
   apply qv
   rw[BitVec.toNat_zero]
   omega
  ·intro e;rw[e,BitVec.toNat_zero];decide
 rw[bv]
 simp only[ar,aG]
 rw[hw1,hz,zj]
 have hXn:(X.toNat:Int)=x\/(X.toNat:Int)=x+18446744073709551616:=by
  rw[BitVec.toInt_eq_toNat_cond]at hXi
  split at hXi<;>omega
 constructor
 ·rintro⟨h0,e⟩
  apply qv
  have:=X.isLt
  omega
 ·intro e
  rw[e]at hle|-
  omega
theorem HS {c:List Int}{p f:Int}:lk (((c,p,f,()),()),())=some (ct f,()):=by
 unfold lk kg
 rfl
theorem G5 {c:List Int}{p f:Int}(h:I64 f):lu (((c,p,f,()),()),())=some (ct f,()):=by
 unfold lu kw
 dsimp only
 rw[tS,af]
 have:=CV h
 unfold leI
 rw[this]
 rfl
theorem CU {f:Int}(hI:I64 f)(h:ct f=true):∃u:Nat,u<2246/\f=u/\u&&& 2245=u:=by
 rw[<-CV hI,ar,aG,lJ]at h
 obtain⟨h0,h1⟩:=h
 obtain⟨u,rfl⟩:=bU h0
 have e:=uK (u:Int) 2245
 rw[h1,gX (by unfold I64 at hI;omega),show uns 2245=2245 from rfl]at e
 refine⟨u,?_,rfl,e.symm⟩
 have:u&&& 2245<=2245:=Nat.and_le_right
 omega
def flK (u:Nat):Bool:=u&&& 2245 != u||(jy .i64 (u:Int) 2049==dP .i64 (u:Int) 196)
theorem flK_all:∀u:Nat,u<2246->flK u=true:=by decide +kernel
theorem FU {f:Int}(hI:I64 f)(h:ct f=true):jy .i64 f 2049=dP .i64 f 196:=by
 obtain⟨u,hu,rfl,hm⟩:=CU hI h
 have:=flK_all u hu
 unfold flK at this
 rw[hm]at this
 simpa using this
def mkF (s z p:Bool):Int:=ior .i64 (ior .i64 (if s=true then 128 else 0) (if z=true then 64 else 0)) (if p=true then 4 else 0)
def mkG (k:Int)(c o:Bool):Int:=ior .i64 (ior .i64 k (if c=true then 1 else 0)) (if o=true then 2048 else 0)
theorem yZ (n:Nat)(v:Int):AJ n v=mkF (oU v (8*n-1)) (decide (cR v n=0)) (Js v):=by
 unfold AJ mkF;simp only[aG]
theorem xJ (n:Nat)(v:Int)(c i:Bool):addF n v c i=mkG (mkF (oU v (8*n-1)) (decide (cR v n=0)) (Js v)) c (c != i):=by
 unfold addF mkG;rw[yZ]
theorem IV (s z p:Bool):jy .i64 (mkF s z p) 2049=mkF s z p:=by cases s<;>cases z<;>cases p<;>decide
theorem mkF_ok (s z p:Bool):ct (mkF s z p)=true/\I64 (mkF s z p):=by cases s<;>cases z<;>cases p<;>decide
theorem GD (s z p c o:Bool):ct (mkG (mkF s z p) c o)=true/\I64 (mkG (mkF s z p) c o):=by cases s<;>cases z<;>cases p<;>cases c<;>cases o<;>decide
def flL (u:Nat)(c o:Bool):Bool:=u&&& 2245 != u||(ct (mkG (dP .i64 (u:Int) 196) c o)&&decide (I64 (mkG (dP .i64 (u:Int) 196) c o)))
theorem flL_all:∀u:Nat,u<2246->(flL u false false&&flL u false true&&flL u true false&&flL u true true)=true:=by decide +kernel
theorem keep_ok {f:Int}(hI:I64 f)(h:ct f=true)(c o:Bool):ct (mkG (dP .i64 f 196) c o)=true/\I64 (mkG (dP .i64 f 196) c o):=by
 obtain⟨u,hu,rfl,hm⟩:=CU hI h
 have:=flL_all u hu
 simp only[ar]at this
 obtain⟨⟨⟨h1,h2⟩,h3⟩,h4⟩:=this
 unfold flL at h1 h2 h3 h4
 rw[hm]at h1 h2 h3 h4
 simp only[bne_self_eq_false,kT,ar,aG]at h1 h2 h3 h4
 cases c<;>cases o
 ·exact h1
 ·exact h2
 ·exact h3
 ·exact h4
def oneF (d f:Int):Int:=ior .i64 (jy .i64 d 1) (dP .i64 f 1)
theorem GN (s z p c o:Bool)(f:Int):ct (oneF (mkG (mkF s z p) c o) f)=true/\I64 (oneF (mkG (mkF s z p) c o) f):=by
 unfold oneF
 rw[Ix]
 have:f%2=0\/f%2=1:=by omega
 rcases this with h|h<;>rw[h]<;>cases s<;>cases z<;>cases p<;>cases c<;>cases o<;>decide
theorem mL (a b:Int):I64 (ior .i64 a b):=aB _
theorem HU (a b:Int):I64 (dP .i64 a b):=aB _
theorem rY (a b:Int):I64 (vA .i64 a b):=aB _
theorem Cp (n:Nat)(a b:Int)(c:Nat):I64 (zb n a b c).1/\ct (zb n a b c).2=true/\I64 (zb n a b c).2:=by
 unfold zb;dsimp only;rw[xJ];exact⟨nE _ _,GD ..⟩
theorem wj (n:Nat)(a b:Int)(c:Nat):I64 (xz n a b c).1/\ct (xz n a b c).2=true/\I64 (xz n a b c).2:=by
 unfold xz;dsimp only;rw[xJ];exact⟨nE _ _,GD ..⟩
theorem Hy (n:Nat)(v:Int):ct (AJ n v)=true/\I64 (AJ n v):=by rw[yZ];exact mkF_ok ..
theorem Fc {op a b f:Int}{n:Nat}(hn:di (n:Int)=true)(ha:I64 a):I64 (AZ op n a b f).1/\ct (AZ op n a b f).2=true/\I64 (AZ op n a b f).2:=by
 unfold AZ
 have hl:=gE ha hn
 have hw:I64 (pk op (cR a n) (cR b n)):=by
  unfold pk
  split
  ·exact mL ..
  ·split
   ·exact rY ..
   ·exact HU ..
 split
 ·exact Cp ..
 split
 ·exact Cp ..
 split
 ·exact wj ..
 split
 ·exact wj ..
 split
 ·exact⟨hl,(wj ..).2⟩
 split
 ·exact⟨hl,Hy ..⟩
 ·exact⟨hw,Hy ..⟩
def BS (op:Int)(n:Nat)(a f:Int):Int×Int:=
 if op=11 then(cR (AR .i64 (cR a n)) n,f)
 else if op=12 then xz n 0 (cR a n) 0
 else if op=19 then((xz n (cR a n) 1 0).1,oneF (xz n (cR a n) 1 0).2 f)
 else((zb n (cR a n) 1 0).1,oneF (zb n (cR a n) 1 0).2 f)
theorem BE {n:Nat}(hn:di (n:Int)=true):tC 1 n:=by
 rcases AS hn with rfl|rfl|rfl|rfl<;>exact⟨rfl,by decide⟩
theorem Gy {n:Nat}(hn:di (n:Int)=true):tC 0 n:=by
 rcases AS hn with rfl|rfl|rfl|rfl<;>exact⟨rfl,by decide⟩
theorem one_eq {op a f:Int}{n:Nat}(hn:di (n:Int)=true)(ha:I64 a):nX ((op,(n:Int),a,f,()),())=some (((BS op n a f).1,(BS op n a f).2,()),()):=by
 have oa:=pN ha hn
 have s1:=Hs (c:=0) hn oa (BE hn) (by decide)
 have d1:=mm (c:=0) hn oa (BE hn) (by decide)
 have d0:=mm (c:=0) hn (Gy hn) oa (by decide)
 rw[show((0:Nat):Int)=0 from rfl]at s1 d0 d1
 unfold nX BS
 dsimp only
 rw[cG _ n hn,af]
 dsimp only
 rw[s1,d1,d0]
 by_cases h11:op=11
 ·rw[ag (bK h11),aa h11,cG _ n hn,af]
 rw[aq (aD h11),ae h11]
 by_cases h12:op=12
 ·rw[ag (bK h12),aa h12,af]
 rw[aq (aD h12),ae h12,af]
 by_cases h19:op=19
 ·rw[ag (bK h19),aa h19,af,af,am]
  rfl
 rw[aq (aD h19),ae h19,af,am]
 rfl
theorem GO {op a f:Int}{n:Nat}(hn:di (n:Int)=true)(hI:I64 f)(hf:ct f=true):I64 (BS op n a f).1/\ct (BS op n a f).2=true/\I64 (BS op n a f).2:=by
 unfold BS
 split
 ·exact⟨gE (rY _ _) hn,hf,hI⟩
 split
 ·exact wj ..
 split
 ·refine⟨(wj ..).1,?_⟩
  unfold xz;dsimp only;rw[xJ];exact GN ..
 ·refine⟨(Cp ..).1,?_⟩
  unfold zb;dsimp only;rw[xJ];exact GN ..
def Ai (op:Int)(m u:Nat):Nat:=
 if op=20 then(2*u)%2^m+u/2^(m-1)
 else if op=22 then(2*u)%2^m
 else if op=23 then u/2
 else if op=24 then u/2+(u/2^(m-1))*2^(m-1)
 else u/2+(u%2)*2^(m-1)
def lM (op:Int)(n:Nat)(a:Int):Int:=rc (Ai op (8*n) (cZ a n)) n
def BP (op:Int)(n:Nat)(a:Int):Bool:=if op=20\/op=22 then oU a (8*n-1)else oU a 0
def BQ (op:Int)(n:Nat)(a:Int):Bool:=
 if op=20\/op=22 then oU (lM op n a) (8*n-1) != oU a (8*n-1)
 else if op=23 then oU a (8*n-1)else if op=24 then false else oU (lM op n a) (8*n-1) != oU (lM op n a) (8*n-2)
def Ej (op:Int)(n:Nat)(a f:Int):Int:=if op=20\/op=21 then dP .i64 f 196 else AJ n (lM op n a)
def vS (op:Int)(n:Nat)(a f:Int):Int×Int:=(lM op n a,mkG (Ej op n a f) (BP op n a) (BQ op n a))
theorem Dh {op:Int}{m u:Nat}(hm:1<=m)(hu:u<2^m):Ai op m u<2^m:=by
 obtain⟨k,rfl⟩:∃k,m=k+1:=⟨m-1,by omega⟩
 unfold Ai
 rw[show k+1-1=k by omega]
 rw[cP]at*
 have hp:0<2^k:=cE k
 generalize 2^k=P at*
 have h2:u/P<2:=by rw[jM hp];omega
 have h3:(2*u)%(P*2)=2*(u%P):=by rw[cH P 2,Nat.mul_mod_mul_left]
 have h4:=cr u hp
 have h5:u/P=0\/u/P=1:=by generalize u/P=q at *;omega
 split
 ·rw[h3];generalize u/P=q at *;generalize u%P=r at *;omega
 split
 ·rw[h3];generalize u%P=r at *;omega
 split
 ·omega
 split
 ·rcases h5 with h|h<;>rw[h]
  ·omega
  ·omega
 ·have:u%2=0\/u%2=1:=by omega
  rcases this with h|h<;>rw[h]<;>omega
theorem nm (op:Int){n:Nat}(hn:di (n:Int)=true)(a:Int):uns (lM op n a)=Ai op (8*n) (cZ a n):=by
 obtain⟨h1,h8⟩:=fw hn
 unfold lM
 rw[qW _ _ h8,cb (Dh (by omega) (jx a n))]
theorem jj (op:Int)(n:Nat)(a:Int):I64 (lM op n a):=nE _ _
theorem HC (a:Int):uns (eW .i64 a 1)=(2*uns a)%2^64:=by
 unfold eW
 rw[cT]
 show uns (a*2^1)=_
 unfold uns;omega
theorem JX (b:Bool){k:Nat}(hk:k<2^64):uns (if b=true then(k:Int)else 0)=if b=true then k else 0:=by
 cases b
 ·rfl
 ·exact gX hk
theorem Kw {x:Nat}(h:x%2=0)(b:Bool):x|||(if b=true then 1 else 0)=x+(if b=true then 1 else 0):=by
 obtain⟨y,rfl⟩:∃y,x=2^1*y:=⟨x/2,by omega⟩
 cases b
 ·simp
 ·rw[aa rfl,<-lA (i:=1) (by decide) y]
theorem Kx {x k:Nat}(h:x<2^k)(b:Bool):x|||(if b=true then 2^k else 0)=x+(if b=true then 1 else 0)*2^k:=by
 cases b
 ·simp
 ·rw[aa rfl,aa rfl,Nat.or_comm]
  have:=lA h 1
  rw[eB]at this
  rw[<-this];omega
theorem H7 (a:Int)(n:Nat)(hn:1<=n):cZ a n%2=if oU a 0=true then 1 else 0:=by
 rw[mi (n:=n) (k:=0) (by omega),Nat.pow_zero,mF]
 by_cases h:cZ a n%2=1
 ·rw[aF h,h];rfl
 ·rw[aP h,iD];omega
theorem CE (a:Int)(n:Nat)(hn:1<=n):cZ a n/2^(8*n-1)=if oU a (8*n-1)=true then 1 else 0:=by
 rw[mi (n:=n) (k:=8*n-1) (by omega)]
 have h2:cZ a n/2^(8*n-1)<2:=by
  rw[jM (cE _),cH,<-cP,show(8*n-1).succ=8*n by omega]
  exact jx a n
 generalize cZ a n/2^(8*n-1)=q at*
 have:q=0\/q=1:=by omega
 rcases this with rfl|rfl<;>rfl
theorem Gz (a:Int):eqI (dP .i64 a 1) 1=oU a 0:=by
 rw[Ix];unfold eqI oU
 rw[bv,aG,aG];omega
theorem Hc {v:Int}:an .i64 (dC .u64 (an .u64 v) 1)=rc (uns v/2) 8:=by
 rw[gy]
 unfold dC an rc
 show IntKind.wrap .i64 (Int.fdiv (uns v:Int) (2^1))=_
 rw[i7 _ (by decide)]
 have:=gA v
 have e:((uns v:Nat):Int)/2^1=((uns v/2%2^(8*8):Nat):Int):=by
  rw[cb (by omega)];omega
 rw[e]
theorem F3 {n:Nat}(hn:di (n:Int)=true):∃h:Int,eW .i64 1 (8*(n:Int)-1)=h/\uns h=2^(8*n-1)/\∀b:Bool,uns (if b=true then h else 0)=if b=true then 2^(8*n-1)else 0:=by
 refine⟨_,rfl,?_,fun b=>?_⟩
 ·rcases AS hn with rfl|rfl|rfl|rfl<;>decide
 ·rcases AS hn with rfl|rfl|rfl|rfl<;>cases b<;>decide
theorem neB (a b:Bool):bm (eqB a b)=(a != b):=by cases a<;>cases b<;>rfl
theorem dD {v:Int}(hv:I64 v){n:Nat}(hn:di (n:Int)=true):uns (cR v n)=cZ v n:=by
 rw[kI hv hn,qW _ _ (fw hn).2];exact cb (jx v n)
theorem z9 {a:Int}{n:Nat}(hn:di (n:Int)=true)(ea:uns a=cZ a n):cZ (eW .i64 a 1) n=2*cZ a n%2^(8*n):=by
 have h8:=(fw hn).2
 rw[<-ea]
 unfold cZ
 rw[HC,mX]
 exact⟨2^(64-8*n),by rw[<-eD,show 8*n+(64-8*n)=64 by omega]⟩
theorem FZ {u n:Nat}(hn:1<=n)(hu:u<2^(8*n)):u/2<2^(8*n-1):=by
 have:(2:Nat)^(8*n)=2^(8*n-1)*2:=by rw[<-cP,show(8*n-1).succ=8*n by omega]
 omega
theorem Il {u n:Nat}(hn:1<=n):2*u%2^(8*n)%2=0:=by
 have:(2:Nat)^(8*n)=2^(8*n-1)*2:=by rw[<-cP,show(8*n-1).succ=8*n by omega]
 have h:=Nat.mul_mod_mul_left 2 u (2^(8*n-1))
 rw[this,cH _ 2,h];omega
theorem AC {op a f:Int}{n:Nat}(hop:20<=op/\op<=24)(hn:di (n:Int)=true)(ha:tC a n)(hI:I64 f)(hf:ct f=true):
  il ((op,(n:Int),a,f,()),())=some (((vS op n a f).1,(vS op n a f).2,()),()):=by
 obtain⟨h1,h8⟩:=fw hn
 have ea:=GA hn ha
 unfold il
 dsimp only[p5,p6,p7,p8,p9,p10]
 rw[wm n h1 h8,af]
 dsimp only
 rw[dh,bN,ag (gY),Gz]
 obtain⟨H,hH,hHu,hHb⟩:=F3 hn
 rw[hH]
 refine(Ret.bnd (Q:=fun y=>y=Sum.inl ((op,(n:Int),a,f,oU a (8*n-1),oU a 0,H,oU a 0,false,op,eqI op 22||eqI op 20,()),())) ?_ ?_).eq
 ·cases eqI op 22
  ·exact Ret.some rfl
  ·exact Ret.some rfl
 rintro _ rfl
 rw[am]
 dsimp only
 have hl:=jx a n
 have hlz:I64 (eW .i64 a 1):=aB _
 have u8:uns (rc (uns a/2) 8)=cZ a n/2:=by
  rw[qW _ _ (by decide),ea]
  have:=gA a
  rw[ea]at this
  exact cb (by omega)
 refine Ret.bnd (Q:=fun y=>y=Sum.inl ((op,(n:Int),f,lM op n a,BP op n a,BQ op n a,()),())) ?_ ?_
 ·have hcase:op=20\/op=21\/op=22\/op=23\/op=24:=by omega
  rcases hcase with rfl|rfl|rfl|rfl|rfl
  ·have hv:ior .i64 (cR (eW .i64 a 1) n) (if oU a (8*n-1)=true then 1 else 0)=lM 20 n a:=by
    refine l7 (mL _ _) (jj ..) ?_
    rw[qe,dD hlz hn,z9 hn ea,nm 20 hn,show(1:Int)=((1:Nat):Int)from rfl,JX _ (by decide),Kw (Il h1)]
    show _=2*cZ a n%2^(8*n)+cZ a n/2^(8*n-1)
    rw[CE a n h1]
   rw[show(eqI 20 22||eqI 20 20)=true from rfl,aV,cG _ n hn,af,show eqI 20 20=true from rfl,aV,j6,af,af,am]
   dsimp only
   rw[hv,wm n h1 h8,af,neB]
   exact Ret.some rfl
  ·have hv:ior .i64 (rc (uns a/2) 8) (if oU a 0=true then H else 0)=lM 21 n a:=by
    refine l7 (mL _ _) (jj ..) ?_
    rw[qe,u8,nm 21 hn,hHb,Kx (FZ h1 hl)]
    show _=cZ a n/2+cZ a n%2*2^(8*n-1)
    rw[H7 a n h1]
   rw[show(eqI 21 22||eqI 21 20)=false from rfl,ap,show eqI 21 23=false from rfl,ap,show eqI 21 24=false from rfl,ap,j6,af]
   dsimp only
   rw[Hc,hv,dh,bN,ag (gY),wm n h1 h8,af,af,am,af,am]
   rw[show 8*(n:Int)-2=((8*n-2:Nat):Int)by omega,He _ (by omega),neB]
   exact Ret.some rfl
  ·have hv:cR (eW .i64 a 1) n=lM 22 n a:=by
    refine l7 (gE hlz hn) (jj ..) ?_
    rw[dD hlz hn,z9 hn ea,nm 22 hn]
    unfold Ai
    rw[iD,aa rfl]
   rw[show(eqI 22 22||eqI 22 20)=true from rfl,aV,cG _ n hn,af,show eqI 22 20=false from rfl,ap,af,am]
   dsimp only
   rw[hv,wm n h1 h8,af,neB]
   exact Ret.some rfl
  ·have hv:rc (uns a/2) 8=lM 23 n a:=by
    refine l7 (nE ..) (jj ..) ?_
    rw[u8,nm 23 hn]
    unfold Ai
    rw[iD,iD,aa rfl]
   rw[show(eqI 23 22||eqI 23 20)=false from rfl,ap,show eqI 23 23=true from rfl,aV,af,am,Hc,hv]
   exact Ret.some rfl
  ·have hv:ior .i64 (rc (uns a/2) 8) (if oU a (8*n-1)=true then H else 0)=lM 24 n a:=by
    refine l7 (mL _ _) (jj ..) ?_
    rw[qe,u8,nm 24 hn,hHb,Kx (FZ h1 hl)]
    show _=cZ a n/2+cZ a n/2^(8*n-1)*2^(8*n-1)
    rw[CE a n h1]
   rw[show(eqI 24 22||eqI 24 20)=false from rfl,ap,show eqI 24 23=false from rfl,ap,show eqI 24 24=true from rfl,aV,j6,af,af,am,af,am]
   dsimp only
   rw[Hc,hv]
   exact Ret.some rfl
 rintro _ rfl
 rw[am]
 dsimp only
 refine Ret.bnd (Q:=fun y=>y=(eqI op 22||eqI op 23)) ?_ ?_
 ·cases eqI op 22
  ·exact Ret.some rfl
  ·exact Ret.some rfl
 rintro _ rfl
 refine Ret.bnd (Q:=fun y=>y=(eqI op 22||eqI op 23||eqI op 24)) ?_ ?_
 ·cases (eqI op 22||eqI op 23)
  ·exact Ret.some rfl
  ·exact Ret.some rfl
 rintro _ rfl
 have hrot:(eqI op 22||eqI op 23||eqI op 24)= !decide (op=20\/op=21):=by
  rw[bv]
  simp only[eqI,cO,aG,ef,decide_eq_false_iff_not];omega
 rw[hrot]
 refine Ret.bnd (Q:=fun y=>∃k,y=Sum.inl ((lM op n a,BP op n a,BQ op n a,k,()),())/\jy .i64 k 2049=Ej op n a f) ?_ ?_
 ·unfold Ej
  by_cases hr:op=20\/op=21
  ·rw[aF hr,aa hr]
   exact Ret.some ⟨f,rfl,FU hI hf⟩
  ·rw[aP hr,ae hr]
   show Ret (bnd _ _) _
   rw[kY n hn,af]
   exact Ret.some ⟨_,rfl,by rw[yZ,IV]⟩
 rintro _ ⟨k,rfl,hk⟩
 rw[am]
 dsimp only
 rw[j6,af,j6,af]
 dsimp only
 rw[hk]
 exact Ret.some rfl
theorem Dg {op a f:Int}{n:Nat}(hn:di (n:Int)=true)(hI:I64 f)(hf:ct f=true):tC (vS op n a f).1 n/\ct (vS op n a f).2=true/\I64 (vS op n a f).2:=by
 unfold vS
 dsimp only
 refine⟨⟨?_,jj ..⟩,?_⟩
 ·rw[kI (jj ..) hn]
  refine l7 (nE ..) (jj ..) ?_
  rw[qW _ _ (fw hn).2,cb (jx _ _)]
  unfold cZ
  rw[nm op hn,cb (Dh (by have:=fw hn;omega) (jx a n))]
 ·unfold Ej
  split
  ·exact keep_ok hI hf _ _
  ·rw[yZ];exact GD ..
def vw (op:Int)(n:Nat):Nat->Int×Int->Int×Int
 |0,x=>x
 |k+1,x=>vw op n k (vS op n x.1 x.2)
theorem C4 {op:Int}{n:Nat}(hn:di (n:Int)=true):∀(k:Nat) (x:Int×Int),tC x.1 n->ct x.2=true->I64 x.2->tC (vw op n k x).1 n/\ct (vw op n k x).2=true/\I64 (vw op n k x).2
 |0,x,h1,h2,h3=>⟨h1,h2,h3⟩
 |k+1,x,_,h2,h3=>by
  have:=Dg (op:=op) (a:=x.1) hn h3 h2
  exact C4 hn k _ this.1 this.2.1 this.2.2
def Cg (n:Nat)(k:Int):Nat:=if n=8 then(k%64).toNat else(k%32).toNat
def lP (op:Int)(n:Nat)(a k f:Int):Int×Int:=vw op n (Cg n k) (cR a n,f)
theorem cnt_eq {n:Nat}(hn:di (n:Int)=true)(k:Int):dP .i64 k (aL .i64 31 (if eqI (n:Int) 8=true then 32 else 0))=(Cg n k:Int):=by
 unfold Cg
 by_cases h:n=8
 ·subst h
  rw[show eqI ((8:Nat):Int) 8=true from rfl,aa rfl,aa rfl,show aL .i64 31 32=2^6-1 from by decide,uv k 6 (by decide)]
  show k%64=_
  omega
 ·rw[show eqI (n:Int) 8=false from aD,iD,ae h,show aL .i64 31 0=2^5-1 from by decide,uv k 5 (by decide)]
  show k%32=_
  omega
theorem shc_lt (n:Nat)(k:Int):Cg n k<64:=by unfold Cg;split<;>omega
theorem JK {op a k f:Int}{n:Nat}(hop:20<=op/\op<=24)(hn:di (n:Int)=true)(ha:I64 a)(hI:I64 f)(hf:ct f=true):
  lr ((op,(n:Int),a,k,f,()),())=some (((lP op n a k f).1,(lP op n a k f).2,()),()):=by
 unfold lr lP
 dsimp only
 rw[cG _ n hn,af,j6,af]
 dsimp only
 rw[cnt_eq hn]
 have hc:=shc_lt n k
 generalize Cg n k=c at hc|-
 dsimp only[p5]
 refine(Ret.iter (fun y=>∃(i:Nat) (z:Int×Int),i<=c/\tC z.1 n/\ct z.2=true/\I64 z.2/\vw op n (c-i) z=vw op n c (cR a n,f)/\y=((op,(n:Int),z.1,z.2,(c:Int),(i:Int),()),())) (fun y=>c-y.1.2.2.2.2.2.1.toNat)
  ?_ F _ ⟨0,(cR a n,f),by omega,pN ha hn,hf,hI,rfl,rfl⟩ (by unfold F;dsimp only;omega)).eq
 rintro _ rec ⟨i,z,hi,hz,hzf,hzI,he,rfl⟩ hrec
 dsimp only
 by_cases h:i<c
 ·rw[ag (kN),AC hop hn hz hzI hzf,af,aW]
  have ok:=Dg (op:=op) (a:=z.1) hn hzI hzf
  refine hrec _ ⟨i+1,vS op n z.1 z.2,by omega,ok.1,ok.2.1,ok.2.2,?_,rfl⟩ (by dsimp only;omega)
  rw[<-he,show c-i=(c-(i+1))+1 by omega];rfl
 ·have:i=c:=by omega
  subst this
  rw[aq (kJ)]
  rw[jd]at he
  refine Ret.some ?_
  rw[<-he];rfl
theorem AB {op a k f:Int}{n:Nat}(hn:di (n:Int)=true)(ha:I64 a)(hI:I64 f)(hf:ct f=true):I64 (lP op n a k f).1/\ct (lP op n a k f).2=true/\I64 (lP op n a k f).2:=by
 have:=C4 (op:=op) hn (Cg n k) (cR a n,f) (pN ha hn) hf hI
 exact⟨this.1.2,this.2⟩
theorem nk (m:Nat):((2^m:Nat):Int)=(2:Int)^m:=by simp
theorem Fb (a b:Int):aL .u64 a b=(a+b)%18446744073709551616:=by unfold aL;exact gB
theorem mulU (a b:Int):cj .u64 a b=(a*b)%18446744073709551616:=by unfold cj;exact gB
theorem subU (a b:Int):bo .u64 a b=(a-b)%18446744073709551616:=by unfold bo;exact gB
theorem wg (x:Int)(k:Nat)(hk:k<=64):dC .u64 x (k:Int)=x/2^k:=by
 unfold dC
 rw[bu,show min k IntKind.u64.bits=k by simp[IntKind.bits];omega]
 rw[i7 _ (je (cI (by decide)))]
theorem Dx (x:Int)(k:Nat)(hk:k<=64):eW .u64 x (k:Int)=x*2^k%18446744073709551616:=by
 unfold eW
 rw[bu,show min k IntKind.u64.bits=k by simp[IntKind.bits];omega]
 exact gB
theorem Cz {x:Int}(h0:0<=x)(h1:x<18446744073709551616):dP .u64 x 4294967295=x%4294967296:=by
 unfold dP
 rw[gB]
 have:(BitVec.ofInt IntKind.u64.bits x&&& BitVec.ofInt IntKind.u64.bits 4294967295).toNat=(x%4294967296).toNat:=by
  rw[om]
  have e1:(BitVec.ofInt IntKind.u64.bits x).toNat=x.toNat:=by
   show(BitVec.ofInt 64 x).toNat=x.toNat
   rw[gd];omega
  rw[e1]
  show x.toNat&&& (2^32-1)=_
  rw[Nat.and_two_pow_sub_one_eq_mod];omega
 rw[this];omega
theorem HW {x y:Int}(hx0:0<=x)(hx:x<18446744073709551616)(hy0:0<=y)(hy:y<18446744073709551616):gJ ((x,y,()),())=some ((x*y/18446744073709551616,x*y%18446744073709551616,()),()):=by
 unfold gJ
 dsimp only
 have h:=mul64_arith x y hx0 hx hy0 hy
 have s32:∀z,dC .u64 z 32=z/4294967296:=fun z=>wg z 32 (by decide)
 have m0:∀z:Int,0<=z%18446744073709551616/\z%18446744073709551616<18446744073709551616:=fun z=>by omega
 simp only[s32,mulU,Fb]
 rw[Cz hx0 hx,Cz hy0 hy,Cz (m0 _).1 (m0 _).2,h]
theorem wF {a b:Int}:gk ((a,b,()),())=some ((rc (uns a*uns b/18446744073709551616) 8,rc (uns a*uns b) 8,()),()):=by
 have ha:=gA a
 have hb:=gA b
 unfold gk
 dsimp only
 rw[gy,gy,HW (by omega) (by omega) (by omega) (by omega),af]
 have e1:an .i64 (((uns a:Nat):Int)*((uns b:Nat):Int)/18446744073709551616)=rc (uns a*uns b/18446744073709551616) 8:=by
  unfold rc an
  have:uns a*uns b/18446744073709551616<2^(8*8):=by
   rw[jM (by decide)]
   calc uns a*uns b<2^64*2^64:=Nat.mul_lt_mul'' ha hb
    _=_:=by decide
  rw[cb this]
  congr 1
 have e2:an .i64 (((uns a:Nat):Int)*((uns b:Nat):Int)%18446744073709551616)=rc (uns a*uns b) 8:=by
  unfold rc an
  congr 1
 dsimp only
 rw[e1,e2]
theorem sx_bdA (m:Nat)(hm:m<=63)(v:Int): -(2:Int)^m<=sx m v/\sx m v<2^m:=by
 unfold sx
 have hp:(0:Int)<2^(m+1):=cI (by decide)
 have h1:=eg v (jf hp)
 have h2:=eZ v hp
 have hd:(2:Int)^(m+1)=2^m*2:=jS 2 m
 have hb:v%2^64/2^m%2=v%2^(m+1)/2^m:=by
  have h64:(2:Int)^(m+1)*2^(63-m)=2^64:=by rw[<-jh];congr 1;omega
  have h1:v%2^(m+1)=v%2^64%2^(m+1):=by
   rw[gP]
   exact⟨2^(63-m),h64.symm⟩
  rw[h1,jS 2 m]
  have hu:=bX v
  rw[<-hu]
  rw[<-nk m]
  have h2:((2^m:Nat):Int)*2=((2^m*2:Nat):Int):=by simp
  rw[h2]
  rw[<-gf,<-dM,<-gf,mU]
  simp
 rw[hb]
 have hpm:(0:Int)<2^m:=cI (by decide)
 generalize v%2^(m+1)=r at*
 by_cases hs:(2:Int)^m<=r
 ·have hq:r/2^m=1:=by
   rw[qt hpm];omega
  rw[hq,aa rfl];omega
 ·have hq:r/2^m=0:=qu h1 (by omega)
  rw[hq,iD];omega
def rb (sg:Bool)(n:Nat)(a:Int):Int:=if sg=true then sx (8*n-1) a else(cZ a n:Int)
def nU (n:Nat)(z:Int):Int:=IntKind.wrap .i64 (z%2^(8*n))
def Ad (sg:Bool)(n:Nat)(a b:Int):Int:=nU n (rb sg n a*rb sg n b)
def rO (sg:Bool)(n:Nat)(a b:Int):Int:=nU n (rb sg n a*rb sg n b/2^(8*n))
def GE (sg:Bool)(n:Nat)(a b:Int):Bool:=if sg=true then sx (8*n-1) (rO sg n a b) != dC .i64 (sx (8*n-1) (Ad sg n a b)) 63 else rO sg n a b != 0
def vI (op:Int)(n:Nat)(a b f:Int):Int×Int×Int:=
 (Ad (decide (op≠13)) n a b,rO (decide (op≠13)) n a b,ior .i64 (dP .i64 f 196) (if GE (decide (op≠13)) n a b=true then 2049 else 0))
theorem lQ (n:Nat)(z:Int):I64 (nU n z):=aB _
theorem AL (n:Nat)(hn:n<=8)(z:Int):uns (nU n z)=(z%2^(8*n)).toNat:=by
 unfold nU
 rw[cT]
 have hp:(0:Int)<2^(8*n):=cI (by decide)
 have h1:=eg z (jf hp)
 have h2:=eZ z hp
 have h3:(2:Int)^(8*n)<=2^64:=by
  have:=cX (show 0<2 by decide) (show 8*n<=64 by omega)
  have e1:=nk (8*n)
  rw[<-e1];exact Int.ofNat_le.2 this
 unfold uns
 rw[jb h1 (by omega)]
theorem tD {v z:Int}{n:Nat}(hn:di (n:Int)=true)(hv:I64 v)(h:(uns v:Int)%2^(8*n)=z%2^(8*n)):cR v n=nU n z:=by
 refine l7 (gE hv hn) (lQ ..) ?_
 rw[dD hv hn,AL _ (fw hn).2,<-h]
 unfold cZ
 have:((uns v:Int)%2^(8*n))=((uns v%2^(8*n):Nat):Int):=by simp
 rw[this];omega
theorem DD (a b:Int):((uns (cj .i64 a b):Nat):Int)=a*b%18446744073709551616:=by
 unfold cj
 rw[cT,bX];rfl
theorem FH {n:Nat}(hn:n<=8):((2:Int)^(8*n))∣18446744073709551616:=⟨2^(64-8*n),by rw[<-jh,show 8*n+(64-8*n)=64 by omega];rfl⟩
theorem fac_mod (sg:Bool){n:Nat}(hn:di (n:Int)=true)(a:Int):rb sg n a%2^(8*n)=(uns a:Int)%2^(8*n):=by
 have h8:=(fw hn).2
 unfold rb
 cases sg with
 |false=>
  rw[iD]
  unfold cZ
  rw[dM,nk,j9]
 |true=>
  rw[aa rfl]
  unfold sx
  rw[show 8*n-1+1=8*n by have:=(fw hn).1;omega,bX,gP a (by have:=FH h8;exact this)]
  split
  ·rw[Int.sub_emod_right,j9]
  ·rw[j9]
theorem Kh (sg:Bool){n:Nat}(hn:di (n:Int)=true)(a:Int): -(2:Int)^(8*n-1)<=rb sg n a/\rb sg n a<2^(8*n)/\(sg=true->rb sg n a<2^(8*n-1))/\(sg=false->0<=rb sg n a):=by
 have h1:=(fw hn).1
 have hp:(0:Int)<2^(8*n-1):=cI (by decide)
 have hd:(2:Int)^(8*n)=2^(8*n-1)*2:=by rw[<-jS,show(8*n-1).succ=8*n by omega]
 unfold rb
 cases sg with
 |false=>
  rw[iD]
  have:=jx a n
  have h2:(cZ a n:Int)<2^(8*n):=by rw[<-nk];exact ka.2 this
  exact⟨by omega,h2,fun h=>(by cases h),fun _=>by omega⟩
 |true=>
  rw[aa rfl]
  have:=sx_bdA (8*n-1) (by have:=(fw hn).2;omega) a
  exact⟨this.1,by omega,fun _=>this.2,fun h=>(by cases h)⟩
theorem yW {a b:Int}(ha:I64 a)(hb:I64 b):gH ((a,b,()),())=some (nU 8 (a*b/18446744073709551616),()):=by
 unfold gH
 rw[wF,af]
 dsimp only
 have ua:=bX a
 have ub:=bX b
 unfold I64 at ha hb
 have hua:(uns a:Int)=a+(if a<0 then 18446744073709551616 else 0):=by split<;>omega
 have hub:(uns b:Int)=b+(if b<0 then 18446744073709551616 else 0):=by split<;>omega
 have hhi:((uns a*uns b/18446744073709551616:Nat):Int)=(uns a:Int)*(uns b:Int)/18446744073709551616:=by simp
 have hdiv:(uns a:Int)*(uns b:Int)/18446744073709551616=a*b/18446744073709551616+(if b<0 then a else 0)+(if a<0 then b else 0)+(if a<0 then if b<0 then 18446744073709551616 else 0 else 0):=by
  rw[hua,hub]
  by_cases h1:a<0<;>by_cases h2:b<0
  ·simp only[aa h1,aa h2]
   have e:(a+18446744073709551616)*(b+18446744073709551616)=a*b+18446744073709551616*(a+b+18446744073709551616):=by grind
   rw[e,qw _ _ (by decide)];omega
  ·simp only[aa h1,ae h2]
   have e:(a+18446744073709551616)*(b+0)=a*b+18446744073709551616*b:=by grind
   rw[e,qw _ _ (by decide)];omega
  ·simp only[ae h1,aa h2]
   have e:(a+0)*(b+18446744073709551616)=a*b+18446744073709551616*a:=by grind
   rw[e,qw _ _ (by decide)];omega
  ·simp only[ae h1,ae h2]
   rw[mC,mC];omega
 have hw:∀x y:Int,x%18446744073709551616=y%18446744073709551616->IntKind.wrap .i64 x=IntKind.wrap .i64 y:=fun x y h=>by
  simp only[IntKind.wrap,IntKind.bits,show(2:Int)^64=18446744073709551616 from rfl,h]
 have hwm:∀x:Int,IntKind.wrap .i64 x%18446744073709551616=x%18446744073709551616:=fun x=>by
  have:=cT x
  have h1:=bX (IntKind.wrap .i64 x)
  have h2:=bX x
  rw[this]at h1
  rw[show(2:Int)^64=18446744073709551616 from rfl]at h1 h2
  omega
 obtain⟨H,hH⟩:∃H:Int,H=rc (uns a*uns b/18446744073709551616) 8:=⟨_,rfl⟩
 have hHm:H%18446744073709551616=((uns a:Int)*(uns b:Int)/18446744073709551616)%18446744073709551616:=by
  rw[hH,<-hhi]
  unfold rc
  rw[hwm]
  show((uns a*uns b/18446744073709551616%18446744073709551616:Nat):Int)%18446744073709551616=_
  omega
 rw[<-hH]
 have hfin:∀z:Int,z%18446744073709551616=(a*b/18446744073709551616)%18446744073709551616->I64 z->z=nU 8 (a*b/18446744073709551616):=fun z hz hzI=>by
  unfold nU
  rw[<-fd hzI]
  refine hw _ _ ?_
  rw[hz]
  show _=(a*b/18446744073709551616)%18446744073709551616%18446744073709551616
  omega
 rw[hdiv]at hHm
 have hHI:I64 H:=by rw[hH];exact nE _ _
 by_cases h1:a<0
 ·rw[ag (kN h1),af,am]
  dsimp only
  by_cases h2:b<0
  ·rw[ag (kN h2)]
   rw[aa h2,aa h1,aa h1,aa h2]at hHm
   rw[hfin (bo .i64 (bo .i64 H b) a) (by unfold bo;rw[hwm,Int.sub_emod,hwm];omega) (aB _)]
  ·rw[aq (kJ h2)]
   rw[ae h2,aa h1,aa h1,ae h2]at hHm
   rw[hfin (bo .i64 H b) (by unfold bo;rw[hwm];omega) (aB _)]
 ·rw[aq (kJ h1),af,am]
  dsimp only
  by_cases h2:b<0
  ·rw[ag (kN h2)]
   rw[aa h2,ae h1,ae h1]at hHm
   rw[hfin (bo .i64 H a) (by unfold bo;rw[hwm];omega) (aB _)]
  ·rw[aq (kJ h2)]
   rw[ae h2,ae h1,ae h1]at hHm
   rw[hfin H (by omega) hHI]
theorem neI (a b:Int):bm (eqI a b)=(a != b):=by
 unfold eqI
 by_cases h:a=b
 ·rw[aF h,h];simp[bm]
 ·rw[aP h,eF];exact(bne_iff_ne.2 h).symm
theorem sx63 {v:Int}(hv:I64 v):sx 63 v=v:=by
 unfold I64 at hv
 unfold sx
 rw[show(2:Int)^(63+1)=18446744073709551616 from rfl,show(2:Int)^63=9223372036854775808 from rfl]
 split<;>omega
def wP (sg:Bool)(n:Nat)(a:Int):Int:=if sg=true then sx (8*n-1) a else cR a n
theorem Bj {sg:Bool}{n:Nat}(hn:di (n:Int)=true)(h8:n≠8){a:Int}(ha:I64 a):wP sg n a=rb sg n a:=by
 unfold wP rb
 cases sg with
 |true=>rfl
 |false=>
  rw[iD,iD]
  have h1:=dD ha hn
  have h2:=gE ha hn
  have h3:=bX (cR a n)
  have h4:=jx a n
  have h5:(2:Nat)^(8*n)<=2^32:=cX (by decide) (by rcases AS hn with h|h|h|h<;>omega)
  rw[h1]at h3
  have h6:0<=cR a n:=by
   unfold cR
   rw[ae h8]
   exact eg _ (jf (cI (by decide)))
  unfold I64 at h2
  omega
theorem zD {sg:Bool}{a:Int}(ha:I64 a):wP sg 8 a=a:=by
 unfold wP
 cases sg with
 |true=>exact sx63 ha
 |false=>show cR a 8=a;exact aa rfl
theorem CT {sg:Bool}{n:Nat}(hn:di (n:Int)=true){a:Int}(ha:I64 a):wP sg n a%2^(8*n)=rb sg n a%2^(8*n):=by
 by_cases h8:n=8
 ·subst h8
  rw[zD ha,fac_mod sg hn,bX]
  show _=a%2^64%2^64
  rw[j9]
 ·rw[Bj hn h8 ha]
theorem IY (x y z w m:Int)(h1:x%m=z%m)(h2:y%m=w%m):x*y%m=z*w%m:=by
 rw[Int.mul_emod,h1,h2,<-Int.mul_emod]
theorem lo_eq {sg:Bool}{n:Nat}(hn:di (n:Int)=true){a b:Int}(ha:I64 a)(hb:I64 b):cR (cj .i64 (wP sg n a) (wP sg n b)) n=Ad sg n a b:=by
 refine tD hn (aB _) ?_
 rw[DD,gP _ (FH (fw hn).2)]
 exact IY _ _ _ _ _ (CT hn ha) (CT hn hb)
theorem hi_lt {sg:Bool}{n:Nat}(hn:di (n:Int)=true)(h8:n≠8){a b:Int}(ha:I64 a)(hb:I64 b):
  cR (an .i64 (dC .u64 (an .u64 (cj .i64 (wP sg n a) (wP sg n b))) (8*(n:Int)))) n=rO sg n a b:=by
 have hn4:n=1\/n=2\/n=4:=by rcases AS hn with h|h|h|h<;>omega
 refine tD hn (aB _) ?_
 have e8:8*(n:Int)=((8*n:Nat):Int):=by omega
 rw[gy,e8,wg _ _ (by omega)]
 unfold an
 rw[cT,bX,DD,Bj hn h8 ha,Bj hn h8 hb]
 generalize rb sg n a*rb sg n b=p
 rw[show(2:Int)^64=18446744073709551616 from rfl]
 rcases hn4 with rfl|rfl|rfl
 ·rw[show(2:Int)^(8*1)=256 from rfl];omega
 ·rw[show(2:Int)^(8*2)=65536 from rfl];omega
 ·rw[show(2:Int)^(8*4)=4294967296 from rfl];omega
theorem hi_8 {a b:Int}:rc (uns a*uns b/18446744073709551616) 8=rO false 8 a b:=by
 unfold rO rb
 rw[iD,iD]
 unfold nU rc
 congr 1
 unfold cZ
 rw[show(2:Nat)^(8*8)=18446744073709551616 from rfl,show(2:Int)^(8*8)=18446744073709551616 from rfl,cb (gA a),cb (gA b)]
 have e:((uns a:Nat):Int)*((uns b:Nat):Int)=((uns a*uns b:Nat):Int):=by simp
 rw[e]
 generalize uns a*uns b=p
 omega
theorem hi_8s {a b:Int}(ha:I64 a)(hb:I64 b):nU 8 (a*b/18446744073709551616)=rO true 8 a b:=by
 unfold rO rb
 rw[aa rfl,aa rfl,sx63 ha,sx63 hb]
 rfl
theorem vJ {op a b f:Int}{n:Nat}(hn:di (n:Int)=true)(ha:I64 a)(hb:I64 b)(hI:I64 f)(hf:ct f=true):
  fy ((op,(n:Int),a,b,f,()),())=some (((vI op n a b f).1,(vI op n a b f).2.1,(vI op n a b f).2.2,()),()):=by
 obtain⟨h1,h8⟩:=fw hn
 unfold fy
 dsimp only
 have e8:(8*(n:Int)-1).toNat=8*n-1:=by omega
 have hsx:∀v,cm ((v,(n:Int),()),())=some (sx (8*n-1) v,()):=fun v=>by rw[qb _ _ (by omega) (by omega),e8]
 rw[hsx,hsx,af,af]
 obtain⟨sg,hsg⟩:∃sg:Bool,sg=decide (op≠13):=⟨_,rfl⟩
 refine(Ret.bnd (Q:=fun y=>y=Sum.inl (((n:Int),f,!sg,wP sg n a,wP sg n b,()),())) ?_ ?_).eq
 ·by_cases h:op=13
  ·have:sg=false:=by rw[hsg];simp[h]
   subst this
   rw[bK h,aV,cG _ n hn,cG _ n hn,af,af]
   exact Ret.some rfl
  ·have:sg=true:=by rw[hsg];simp[h]
   subst this
   rw[aD h,ap]
   exact Ret.some rfl
 rintro _ rfl
 rw[am]
 dsimp only
 rw[cG _ n hn,lo_eq hn ha hb,af]
 refine Ret.bnd (Q:=fun y=>y=Sum.inl (((n:Int),f,!sg,Ad sg n a b,rO sg n a b,()),())) ?_ ?_
 ·by_cases h:n=8
  ·subst h
   rw[aq (kJ)]
   cases sg with
   |false=>
    rw[show(!false)=true from rfl,aV,zD ha,zD hb,wF,af,af,am]
    dsimp only
    rw[hi_8]
    exact Ret.some rfl
   |true=>
    rw[show(!true)=false from rfl,ap,zD ha,zD hb,yW ha hb,af,af,am]
    dsimp only
    rw[hi_8s ha hb]
    exact Ret.some rfl
  ·rw[ag (kN),dh (a:=8),ag (gY),cG _ n hn,hi_lt hn h ha hb,af]
   exact Ret.some rfl
 rintro _ rfl
 rw[am]
 dsimp only
 refine Ret.bnd (Q:=fun y=>y=Sum.inl ((f,Ad sg n a b,rO sg n a b,GE sg n a b,()),())) ?_ ?_
 ·unfold GE
  cases sg with
  |false=>
   rw[show bm (!false)=false from rfl,ap,neI]
   exact Ret.some rfl
  |true=>
   rw[show bm (!true)=true from rfl,aV,hsx,hsx,af,af]
   dsimp only
   rw[neI]
   exact Ret.some rfl
 rintro _ rfl
 rw[am]
 dsimp only
 rw[j6,af,FU hI hf]
 unfold vI
 rw[<-hsg]
 exact Ret.some rfl
theorem IX:∀u:Nat,u<2246->(u&&& 2245 != u||(ct (ior .i64 (dP .i64 (u:Int) 196) 0)&&ct (ior .i64 (dP .i64 (u:Int) 196) 2049)))=true:=by decide +kernel
theorem yF {op a b f:Int}{n:Nat}(hI:I64 f)(hf:ct f=true):I64 (vI op n a b f).1/\I64 (vI op n a b f).2.1/\ct (vI op n a b f).2.2=true/\I64 (vI op n a b f).2.2:=by
 refine⟨lQ ..,lQ ..,?_,mL ..⟩
 obtain⟨u,hu,rfl,hm⟩:=CU hI hf
 have:=IX u hu
 rw[hm]at this
 simp only[bne_self_eq_false,kT,ar]at this
 unfold vI
 dsimp only
 split
 ·exact this.2
 ·exact this.1
def oY (f b:Int):Bool:= !eqI (dP .i64 f b) 0
def kO (c f:Int):Bool:=(([oY f 2048,oY f 1,oY f 64,oY f 1||oY f 64,oY f 128,oY f 4,oY f 128 != oY f 2048,oY f 64||(oY f 128 != oY f 2048)]:List Bool).getD (c/2).toNat false)==decide (c%2=0)
theorem yp {c f:Int}(h0:0<=c)(h1:c<=15):S_impl_holds ((c,f,()),())=some (kO c f,()):=by
 have hs:∀b,cK ((b,()),(f,()),())=some (oY f b,(f,()),()):=fun b=>rfl
 unfold S_impl_holds
 dsimp only
 simp only[hs]
 have o1:br (oY f 1) (some true) (bnd (some (oY f 64,(f,()),())) fun x8=>some x8.1)=some (oY f 1||oY f 64):=by cases oY f 1<;>rfl
 have o2:br (oY f 64) (some true) (some (bm (eqB (oY f 128) (oY f 2048))))=some (oY f 64||(oY f 128 != oY f 2048)):=by rw[neB];cases oY f 64<;>rfl
 rw[af,af,af,af,af,af]
 dsimp only
 rw[o1,af,af,af,af]
 dsimp only
 rw[o2,af,ig h0 (by decide) (by omega),ag (cQ),cS h0,neB]
 rfl
def lenB (u:Nat):Bool:=match db (((u:Int),()),())with
 |some x=>decide (1<=x.1/\x.1<=8/\2^(x.1.toNat-1)<=u/\u<2^x.1.toNat)
 |none=>false
theorem IK:∀u:Nat,u<256->1<=u->lenB u=true:=by decide +kernel
theorem len8_ex {u:Nat}(h:u<256)(h1:1<=u):∃l:Nat,db (((u:Int),()),())=some ((l:Int),())/\1<=l/\l<=8/\2^(l-1)<=u/\u<2^l:=by
 have:=IK u h h1
 unfold lenB at this
 cases hx:db (((u:Int),()),())with
 |none=>rw[hx]at this;cases this
 |some x=>
  rw[hx]at this
  have:=bh this
  obtain⟨n,hn⟩:=bU (show 0<=x.1 by omega)
  rw[hn]at this
  refine⟨n,?_,by omega,by omega,this.2.2.1,this.2.2.2⟩
  rw[<-hn]
theorem GW {a b u:Nat}(h:2^(a-1)<=u/2^b)(h2:u/2^b<2^a)(ha:1<=a):2^(a+b-1)<=u/\u<2^(a+b):=by
 have hp:0<2^b:=cE b
 rw[nZ hp,<-eD]at h
 rw[jM hp,<-eD]at h2
 rw[show a+b-1=a-1+b by omega]
 exact⟨h,h2⟩
theorem shrN (x k:Nat)(hk:k<=64):dC .u64 (x:Int) (k:Int)=((x/2^k:Nat):Int):=by
 rw[wg _ _ hk,gf,nk]
theorem len_fin (T:List UInt8)(i:Int){k l:Nat}(hk:k<=56)(h:some (aL .i64 0 (an .i64 (gi T i)),())=some ((l:Int),())):some (aL .i64 (k:Int) (an .i64 (gi T i)),())=some (((l+k:Nat):Int),()):=by
 have hb:0<=gi T i/\gi T i<256:=by
  unfold gi
  have:=(T.getD i.toNat 0).toNat_lt
  omega
 generalize gi T i=w at hb h|-
 rw[qi,aW]at h|-
 injection h with h
 injection h with h _
 rw[show(k:Int)+w=((l+k:Nat):Int)by omega]
theorem HV {x:Nat}(h1:1<=x)(hx:x<18446744073709551616):∃l:Nat,db (((x:Int),()),())=some ((l:Int),())/\1<=l/\l<=64/\2^(l-1)<=x/\x<2^l:=by
 have s32:∀z:Nat,dC .u64 (z:Int) 32=((z/4294967296:Nat):Int):=fun z=>shrN z 32 (by decide)
 have s16:∀z:Nat,dC .u64 (z:Int) 16=((z/65536:Nat):Int):=fun z=>shrN z 16 (by decide)
 have s8:∀z:Nat,dC .u64 (z:Int) 8=((z/256:Nat):Int):=fun z=>shrN z 8 (by decide)
 unfold db
 dsimp only
 obtain⟨x1,k1,e1,a1,a2,a3⟩:∃x1 k1:Nat,(br (leI 4294967296 (x:Int)) (some (Sum.inl ((dC .u64 (x:Int) 32,(32:Int),()),()):Sum ((Int×Int×Unit)×Unit) (Int×Unit))) (some (Sum.inl (((x:Int),(0:Int),()),()))))=some (Sum.inl (((x1:Int),(k1:Int),()),()))/\1<=x1/\x1<4294967296/\(k1<=32/\x1=x/2^k1):=by
  by_cases h:4294967296<=x
  ·exact⟨x/4294967296,32,by rw[ag (gY),s32];rfl,by omega,by omega,by omega,rfl⟩
  ·exact⟨x,0,by rw[aq (mI)];rfl,h1,by omega,by omega,by simp⟩
 rw[e1,af,am]
 dsimp only
 obtain⟨x2,k2,e2,b1,b2,b3⟩:∃x2 k2:Nat,(br (leI 65536 (x1:Int)) (some (Sum.inl ((dC .u64 (x1:Int) 16,aL .i64 (k1:Int) 16,()),()):Sum ((Int×Int×Unit)×Unit) (Int×Unit))) (some (Sum.inl (((x1:Int),(k1:Int),()),()))))=some (Sum.inl (((x2:Int),(k2:Int),()),()))/\1<=x2/\x2<65536/\(k2<=48/\x2=x/2^k2):=by
  by_cases h:65536<=x1
  ·refine⟨x1/65536,k1+16,by rw[ag (gY),s16,aW];rfl,by omega,by omega,by omega,?_⟩
   rw[a3.2,eD,oC]
  ·exact⟨x1,k1,by rw[aq (mI)],a1,by omega,by omega,a3.2⟩
 rw[e2,af,am]
 dsimp only
 obtain⟨x3,k3,e3,d1,d2,d3⟩:∃x3 k3:Nat,(br (leI 256 (x2:Int)) (some (Sum.inl ((dC .u64 (x2:Int) 8,aL .i64 (k2:Int) 8,()),()):Sum ((Int×Int×Unit)×Unit) (Int×Unit))) (some (Sum.inl (((x2:Int),(k2:Int),()),()))))=some (Sum.inl (((x3:Int),(k3:Int),()),()))/\1<=x3/\x3<256/\(k3<=56/\x3=x/2^k3):=by
  by_cases h:256<=x2
  ·refine⟨x2/256,k2+8,by rw[ag (gY),s8,aW];rfl,by omega,by omega,by omega,?_⟩
   rw[b3.2,eD,oC]
  ·exact⟨x2,k2,by rw[aq (mI)],b1,by omega,by omega,b3.2⟩
 rw[e3,af,am]
 dsimp only
 obtain⟨l,hl,l1,l8,g1,g2⟩:=len8_ex d2 d1
 unfold db at hl
 dsimp only at hl
 rw[aq (mI),af,am]at hl
 dsimp only at hl
 rw[aq (mI),af,am]at hl
 dsimp only at hl
 rw[aq (mI),af,am]at hl
 dsimp only at hl
 have hr:inR (an .u8 (x3:Int)) 256=true:=by rw[HH];exact cQ
 rw[hr,aV]at hl|-
 rw[d3.2]at g1 g2
 have:=GW g1 g2 l1
 exact⟨l+k3,len_fin _ _ d3.1 hl,by omega,by omega,this.1,this.2⟩
structure Dig (y1 y0 u d:Nat):Prop where
 b0:y0<4294967296
 b1:y1<4294967296
 n1:4294967296<=2*y1
 lt:u<y1*4294967296+y0
 bd:d<4294967296
def wN (y1 y0 u d:Nat):Nat:=(u*4294967296+d)/(y1*4294967296+y0)
section
variable {y1 y0 u d:Nat}
theorem Dig.y_pos (h:Dig y1 y0 u d):0<y1*4294967296+y0:=by have:=h.n1;omega
theorem Dig.q_lt (h:Dig y1 y0 u d):wN y1 y0 u d<4294967296:=by
 have h1:=h.lt
 have h2:=h.bd
 unfold wN
 obtain⟨y,hy⟩:∃y,y=y1*4294967296+y0:=⟨_,rfl⟩
 rw[<-hy]at h1|-
 exact ja (by omega)
theorem Dig.test (h:Dig y1 y0 u d){q r:Nat}(e:q*y1+r=u):q<=wN y1 y0 u d↔¬4294967296*r+d<q*y0:=by
 unfold wN
 rw[nZ h.y_pos,<-e]
 have e1:q*(y1*4294967296+y0)=q*y1*4294967296+q*y0:=by rw[kb,kU]
 rw[e1]
 generalize q*y1=a
 generalize q*y0=b
 omega
theorem Dig.init (h:Dig y1 y0 u d):wN y1 y0 u d<=u/y1/\u/y1<=4294967297/\u%y1<4294967296:=by
 have hy1:0<y1:=by have:=h.n1;omega
 refine⟨?_,?_,?_⟩
 ·rw[nZ hy1]
  have h1:wN y1 y0 u d*(y1*4294967296+y0)<=u*4294967296+d:=lC _ _
  have e1:wN y1 y0 u d*(y1*4294967296+y0)=wN y1 y0 u d*y1*4294967296+wN y1 y0 u d*y0:=by rw[kb,kU]
  rw[e1]at h1
  have:=h.bd
  generalize wN y1 y0 u d*y1=a at*
  generalize wN y1 y0 u d*y0=b at*
  omega
 ·have:u/y1<4294967298:=by
   have:=h.lt
   have:=h.b0
   have:=h.n1
   refine ja ?_
   have e:y1*4294967298=y1*4294967296+y1*2:=by rw[<-kb]
   rw[e];omega
  omega
 ·have:=cr u hy1
  have:=h.b1
  omega
theorem Dig.stop (h:Dig y1 y0 u d){q r:Nat}(e:q*y1+r=u)(hq:wN y1 y0 u d<=q)(h1:q<=4294967296)(hr:4294967296<=r):q=wN y1 y0 u d:=by
 refine Nat.le_antisymm ((h.test e).2 ?_) hq
 have:q*y0<=4294967296*4294967295:=mB h1 (by have:=h.b0;omega)
 omega
theorem Dig.rest (h:Dig y1 y0 u d):(u*4294967296+d)=wN y1 y0 u d*(y1*4294967296+y0)+(u*4294967296+d)%(y1*4294967296+y0)/\(u*4294967296+d)%(y1*4294967296+y0)<y1*4294967296+y0:=by
 refine⟨?_,cr _ h.y_pos⟩
 unfold wN
 exact(jP _ _).symm
end
theorem addN {a b:Nat}(h:a+b<18446744073709551616):aL .u64 (a:Int) (b:Int)=((a+b:Nat):Int):=by rw[Fb];omega
theorem HP {a b:Nat}(h:a*b<18446744073709551616):cj .u64 (a:Int) (b:Int)=((a*b:Nat):Int):=by
 rw[mulU]
 have e:(a:Int)*(b:Int)=((a*b:Nat):Int):=by simp
 rw[e];generalize a*b=p at *;omega
theorem subN {a b:Nat}(h:b<=a)(ha:a<18446744073709551616):bo .u64 (a:Int) (b:Int)=((a-b:Nat):Int):=by rw[subU];omega
theorem quoN {a b:Nat}(ha:a<18446744073709551616):nn .u64 (a:Int) (b:Int)=((a/b:Nat):Int):=by
 unfold nn
 rw[Int.tdiv_eq_ediv_of_nonneg (by omega),<-gf,gB]
 have:=oo a b
 generalize a/b=q at*
 omega
theorem remN {a b:Nat}:gC (a:Int) (b:Int)=((a%b:Nat):Int):=by
 unfold gC
 rw[mS (by omega),dM]
theorem restN {a c p r:Nat}(h:a*4294967296+c=p+r)(hr:r<18446744073709551616):bo .u64 (aL .u64 (cj .u64 (a:Int) 4294967296) (c:Int)) (IntKind.wrap .u64 (p:Int))=(r:Int):=by
 rw[subU,Fb,mulU,gB]
 have e:(a:Int)*4294967296+c=p+r:=by omega
 omega
theorem mulW (a b:Nat):cj .u64 (a:Int) (b:Int)=IntKind.wrap .u64 ((a*b:Nat):Int):=by
 unfold cj
 simp
theorem DW {B u d1 d0 a b u2 r:Nat}(f1:u*B+d1=a+u2)(f2:u2*B+d0=b+r):u*(B*B)+(d1*B+d0)=r+(a*B+b):=by
 have e2:(u*B+d1)*B=(a+u2)*B:=by rw[f1]
 rw[ci,ci,kU]at e2
 omega
theorem Fz {u d1 d0 a b u2 r:Nat}(f1:u*4294967296+d1=a+u2)(f2:u2*4294967296+d0=b+r):u*18446744073709551616+(d1*4294967296+d0)=r+(a*4294967296+b):=DW (B:=4294967296) f1 f2
theorem EJ {y1 y0 u d1 d0:Nat}(D:Dig y1 y0 u d1)(D2:Dig y1 y0 ((u*4294967296+d1)%(y1*4294967296+y0)) d0):
  (u*18446744073709551616+(d1*4294967296+d0))/(y1*4294967296+y0)=wN y1 y0 u d1*4294967296+wN y1 y0 ((u*4294967296+d1)%(y1*4294967296+y0)) d0/\
  (u*18446744073709551616+(d1*4294967296+d0))%(y1*4294967296+y0)=((u*4294967296+d1)%(y1*4294967296+y0)*4294967296+d0)%(y1*4294967296+y0):=by
 obtain⟨e1,l1⟩:=D.rest
 obtain⟨e2,l2⟩:=D2.rest
 have hp:=D.y_pos
 obtain⟨u2,hu2⟩:∃u2,u2=(u*4294967296+d1)%(y1*4294967296+y0):=⟨_,rfl⟩
 rw[<-hu2]at e1 e2 l1 l2|-
 obtain⟨r,hr⟩:∃r,r=(u2*4294967296+d0)%(y1*4294967296+y0):=⟨_,rfl⟩
 rw[<-hr]at e2 l2|-
 obtain⟨Q1,hQ1⟩:∃Q,Q=wN y1 y0 u d1:=⟨_,rfl⟩
 obtain⟨Q0,hQ0⟩:∃Q,Q=wN y1 y0 u2 d0:=⟨_,rfl⟩
 rw[<-hQ1]at e1|-
 rw[<-hQ0]at e2|-
 obtain⟨y,hy⟩:∃y,y=y1*4294967296+y0:=⟨_,rfl⟩
 rw[<-hy]at e1 e2 l2 hp|-
 have e:u*18446744073709551616+(d1*4294967296+d0)=r+y*(Q1*4294967296+Q0):=by
  have a1:y*(Q1*4294967296+Q0)=Q1*y*4294967296+Q0*y:=by rw[kb,<-kU,cH y Q1,cH y Q0]
  obtain⟨a,ha⟩:∃a,a=Q1*y:=⟨_,rfl⟩
  obtain⟨b,hb⟩:∃b,b=Q0*y:=⟨_,rfl⟩
  have f1:u*4294967296+d1=a+u2:=by rw[ha];exact e1
  have f2:u2*4294967296+d0=b+r:=by rw[hb];exact e2
  have f3:y*(Q1*4294967296+Q0)=a*4294967296+b:=by rw[ha,hb];exact a1
  rw[f3]
  exact Fz f1 f2
 rw[e]
 constructor
 ·rw[qx _ _ hp,mY l2];omega
 ·rw[qn,cb l2]
structure DigF (y y1 y0 u d Q r:Nat):Prop where
 b0:y0<4294967296
 b1:y1<4294967296
 p1:0<y1
 ql:Q<4294967296
 t:∀q r,q*y1+r=u->(q<=Q↔¬4294967296*r+d<q*y0)
 st:∀q r,q*y1+r=u->Q<=q->q<=4294967296->4294967296<=r->q=Q
 i:Q<=u/y1/\u/y1<=4294967297/\u%y1<4294967296
 rr:u*4294967296+d=Q*y+r
 rl:r<18446744073709551616
 ul:u<18446744073709551616
 bd:d<4294967296
theorem Dig.f {y1 y0 u d y:Nat}(h:Dig y1 y0 u d)(hy:y=y1*4294967296+y0):DigF y y1 y0 u d (wN y1 y0 u d) ((u*4294967296+d)%(y1*4294967296+y0)):=by
 have hW:y1*4294967296+y0<18446744073709551616:=by have:=h.b1;have:=h.b0;omega
 refine⟨h.b0,h.b1,by have:=h.n1;omega,h.q_lt,fun q r e=>h.test e,fun q r e a b c=>h.stop e a b c,h.init,?_,ov h.rest.2 hW,ov h.lt hW,h.bd⟩
 rw[hy];exact h.rest.1
theorem If {G:Option ((Int×Int×Unit)×Unit)}{y y1 y0 u d1 d0 s Q1 Q0 u2 r2:Nat}(D:DigF y y1 y0 u d1 Q1 u2)(D2:DigF y y1 y0 u2 d0 Q0 r2)(hs:s<=63){A B:Nat}
  (hA:Q1*4294967296+Q0=A) (hB:r2/2^s=B)
  (hG:G=iter F (fun(x7:((Int×Int×Int×Int×Int×Int×Int×Int×Int×Unit)×Unit)->(Option ((Int×Int×Unit)×Unit)))=>(fun(x8:((Int×Int×Int×Int×Int×Int×Int×Int×Int×Unit)×Unit))=>bnd (br (leI 4294967296 (p7 x8.1)) (some true) (some (ltI (aL .u64 (cj .u64 4294967296 (p8 x8.1)) (p5 x8.1)) (cj .u64 (p7 x8.1) x8.1.2.2.2.1)))) (fun(x9:Bool)=>br x9 (br (leI 4294967296 (aL .u64 (p8 x8.1) x8.1.2.2.1)) (br (bm (eqI x8.1.2.2.1 0)) (iter F (fun(x10:((Int×Int×Int×Int×Int×Int×Int×Int×Int×Unit)×Unit)->(Option ((Int×Int×Unit)×Unit)))=>(fun(x11:((Int×Int×Int×Int×Int×Int×Int×Int×Int×Unit)×Unit))=>bnd (br (leI 4294967296 (p8 x11.1)) (some true) (some (ltI (aL .u64 (cj .u64 4294967296 (p6 x11.1)) x11.1.2.2.2.2.1) (cj .u64 (p8 x11.1) x11.1.2.2.2.1)))) (fun(x12:Bool)=>br x12 (br (leI 4294967296 (aL .u64 (p6 x11.1) x11.1.2.2.1)) (br (leI 0 x11.1.2.1) (some (((aL .u64 (cj .u64 (p5 x11.1) 4294967296) (bo .u64 (p8 x11.1) 1)),(dC .u64 (bo .u64 (aL .u64 (cj .u64 (p7 x11.1) 4294967296) x11.1.2.2.2.2.1) (cj .u64 (bo .u64 (p8 x11.1) 1) x11.1.1)) x11.1.2.1),()),())) none) (x10 ((cp6 x11.1 ((aL .u64 (p6 x11.1) x11.1.2.2.1),(p7 x11.1),(bo .u64 (p8 x11.1) 1),())),()))) (br (leI 0 x11.1.2.1) (some (((aL .u64 (cj .u64 (p5 x11.1) 4294967296) (p8 x11.1)),(dC .u64 (bo .u64 (aL .u64 (cj .u64 (p7 x11.1) 4294967296) x11.1.2.2.2.2.1) (cj .u64 (p8 x11.1) x11.1.1)) x11.1.2.1),()),())) none)))) ((x8.1.1,x8.1.2.1,x8.1.2.2.1,x8.1.2.2.2.1,(p6 x8.1),(bo .u64 (p7 x8.1) 1),(bo .u64 (bo .u64 (aL .u64 (cj .u64 x8.1.2.2.2.2.1 4294967296) (p5 x8.1)) (cj .u64 (bo .u64 (p7 x8.1) 1) x8.1.1)) (cj .u64 (nn .u64 (bo .u64 (aL .u64 (cj .u64 x8.1.2.2.2.2.1 4294967296) (p5 x8.1)) (cj .u64 (bo .u64 (p7 x8.1) 1) x8.1.1)) x8.1.2.2.1) x8.1.2.2.1)),(bo .u64 (aL .u64 (cj .u64 x8.1.2.2.2.2.1 4294967296) (p5 x8.1)) (cj .u64 (bo .u64 (p7 x8.1) 1) x8.1.1)),(nn .u64 (bo .u64 (aL .u64 (cj .u64 x8.1.2.2.2.2.1 4294967296) (p5 x8.1)) (cj .u64 (bo .u64 (p7 x8.1) 1) x8.1.1)) x8.1.2.2.1),()),())) none) (x7 ((cp7 x8.1 ((bo .u64 (p7 x8.1) 1),(aL .u64 (p8 x8.1) x8.1.2.2.1),())),()))) (br (bm (eqI x8.1.2.2.1 0)) (iter F (fun(x13:((Int×Int×Int×Int×Int×Int×Int×Int×Int×Unit)×Unit)->(Option ((Int×Int×Unit)×Unit)))=>(fun(x14:((Int×Int×Int×Int×Int×Int×Int×Int×Int×Unit)×Unit))=>bnd (br (leI 4294967296 (p8 x14.1)) (some true) (some (ltI (aL .u64 (cj .u64 4294967296 (p6 x14.1)) x14.1.2.2.2.2.1) (cj .u64 (p8 x14.1) x14.1.2.2.2.1)))) (fun(x15:Bool)=>br x15 (br (leI 4294967296 (aL .u64 (p6 x14.1) x14.1.2.2.1)) (br (leI 0 x14.1.2.1) (some (((aL .u64 (cj .u64 (p5 x14.1) 4294967296) (bo .u64 (p8 x14.1) 1)),(dC .u64 (bo .u64 (aL .u64 (cj .u64 (p7 x14.1) 4294967296) x14.1.2.2.2.2.1) (cj .u64 (bo .u64 (p8 x14.1) 1) x14.1.1)) x14.1.2.1),()),())) none) (x13 ((cp6 x14.1 ((aL .u64 (p6 x14.1) x14.1.2.2.1),(p7 x14.1),(bo .u64 (p8 x14.1) 1),())),()))) (br (leI 0 x14.1.2.1) (some (((aL .u64 (cj .u64 (p5 x14.1) 4294967296) (p8 x14.1)),(dC .u64 (bo .u64 (aL .u64 (cj .u64 (p7 x14.1) 4294967296) x14.1.2.2.2.2.1) (cj .u64 (p8 x14.1) x14.1.1)) x14.1.2.1),()),())) none)))) ((x8.1.1,x8.1.2.1,x8.1.2.2.1,x8.1.2.2.2.1,(p6 x8.1),(p7 x8.1),(bo .u64 (bo .u64 (aL .u64 (cj .u64 x8.1.2.2.2.2.1 4294967296) (p5 x8.1)) (cj .u64 (p7 x8.1) x8.1.1)) (cj .u64 (nn .u64 (bo .u64 (aL .u64 (cj .u64 x8.1.2.2.2.2.1 4294967296) (p5 x8.1)) (cj .u64 (p7 x8.1) x8.1.1)) x8.1.2.2.1) x8.1.2.2.1)),(bo .u64 (aL .u64 (cj .u64 x8.1.2.2.2.2.1 4294967296) (p5 x8.1)) (cj .u64 (p7 x8.1) x8.1.1)),(nn .u64 (bo .u64 (aL .u64 (cj .u64 x8.1.2.2.2.2.1 4294967296) (p5 x8.1)) (cj .u64 (p7 x8.1) x8.1.1)) x8.1.2.2.1),()),())) none)))) ((((y:Nat):Int),(s:Int),(y1:Int),(y0:Int),(u:Int),(d1:Int),(d0:Int),((u/y1:Nat):Int),((u%y1:Nat):Int),()),())):
  G=some ((((A:Nat):Int),((B:Nat):Int),()),()):=by
 subst hG
 have hu2:=D.rl
 have hN1:=D.rr
 have hy1:=D.p1
 have fin:Ret (some ((aL .u64 (cj .u64 (Q1:Int) 4294967296) (Q0:Int),dC .u64 (bo .u64 (aL .u64 (cj .u64 (u2:Int) 4294967296) (d0:Int)) (IntKind.wrap .u64 ((Q0*y:Nat):Int))) (s:Int),()),())) (fun y=>y=((((A:Nat):Int),((B:Nat):Int),()),())):=by
  have q1:=D.ql
  have q0:=D2.ql
  rw[restN D2.rr D2.rl,shrN _ _ (by omega),hB]
  have e1:cj .u64 (Q1:Int) 4294967296=((Q1*4294967296:Nat):Int):=HP (b:=4294967296) (by omega)
  rw[e1,addN (by omega),hA]
  exact Ret.some rfl
 refine(Ret.iter (fun x=>∃q r:Nat,q*y1+r=u/\Q1<=q/\q<=4294967297/\r<4294967296/\x=(((y:Int),(s:Int),(y1:Int),(y0:Int),(u:Int),(d1:Int),(d0:Int),(q:Int),(r:Int),()),())) (fun x=>x.1.2.2.2.2.2.2.2.1.toNat)
  ?_ F _ ⟨u/y1,u%y1,jP _ _,D.i.1,D.i.2.1,D.i.2.2,rfl⟩ (by unfold F;dsimp only;rw[bu];have:=D.i.2.1;omega)).eq
 rintro _ rec ⟨q,r,he,hQ,hq,hr,rfl⟩ hrec
 dsimp only[p5,p6,p7,p8,cp7]at hrec|-
 refine Ret.bnd (Q:=fun z=>(z=true/\Q1<q)\/(z=false/\q=Q1)) ?_ ?_
 ·by_cases hb:4294967296<=q
  ·rw[ag (gY)]
   exact Ret.some (.inl ⟨rfl,by have:=D.ql;omega⟩)
  ·rw[aq (mI)]
   have hm:q*y0<18446744073709551616:=gQ (mB (show q<=4294967295 by omega) (show y0<=4294967295 by have:=D.b0;omega)) (show 4294967295*4294967295<18446744073709551616 by omega)
   have hr2:4294967296*r+d1<18446744073709551616:=by have:=D.bd;omega
   rw[show(4294967296:Int)=((4294967296:Nat):Int)from rfl,HP (a:=4294967296) (b:=r) (by omega),addN hr2,HP hm]
   have ht:=D.t _ _ he
   by_cases hx:4294967296*r+d1<q*y0
   ·rw[kN]
    exact Ret.some (.inl ⟨rfl,by
     have:¬q<=Q1:=fun g=>ht.1 g hx
     omega⟩)
   ·rw[kJ]
    exact Ret.some (.inr ⟨rfl,by have:=ht.2 hx;omega⟩)
 intro z hz
 rcases hz with ⟨rfl,hlt⟩|⟨rfl,hqe⟩
 ·rw[aV,addN (a:=r) (b:=y1) (by have:=D.b1;omega)]
  have hq1:bo .u64 (q:Int) 1=((q-1:Nat):Int):=subN (b:=1) (by omega) (by omega)
  have he':(q-1)*y1+(r+y1)=u:=by
   obtain⟨k,rfl⟩:∃k,q=k+1:=⟨q-1,by omega⟩
   rw[Nat.add_sub_cancel,<-he,ci];omega
  rw[hq1]
  by_cases hb:4294967296<=r+y1
  ·rw[ag (gY),ag (show bm (eqI (y1:Int) 0)=true by rw[aD];rfl)]
   have hst:=D.st _ _ he' (by omega) (by omega) hb
   rw[hst,mulW]
   rw[restN hN1 hu2,quoN hu2,HP (gQ (lC u2 y1) hu2),subN (lC u2 y1) hu2]
   refine Ret.iter (fun x=>∃q r:Nat,q*y1+r=u2/\Q0<=q/\q<=4294967297/\r<4294967296/\x=(((y:Int),(s:Int),(y1:Int),(y0:Int),(d0:Int),(Q1:Int),(r:Int),(u2:Int),(q:Int),()),())) (fun x=>x.1.2.2.2.2.2.2.2.2.1.toNat)
    ?_ F _ ⟨u2/y1,u2%y1,jP _ _,D2.i.1,D2.i.2.1,D2.i.2.2,by
     have:u2-u2/y1*y1=u2%y1:=by have:=jP u2 y1;omega
     rw[this]⟩ (by unfold F;dsimp only;rw[bu];have:=D2.i.2.1;omega)
   rintro _ rec2 ⟨q,r,he,hQ,hq,hr,rfl⟩ hrec2
   dsimp only[p5,p6,p7,p8,cp6]at hrec2|-
   refine Ret.bnd (Q:=fun z=>(z=true/\Q0<q)\/(z=false/\q=Q0)) ?_ ?_
   ·by_cases hb:4294967296<=q
    ·rw[ag (gY)]
     exact Ret.some (.inl ⟨rfl,by have:=D2.ql;omega⟩)
    ·rw[aq (mI)]
     have hm:q*y0<18446744073709551616:=gQ (mB (show q<=4294967295 by omega) (show y0<=4294967295 by have:=D.b0;omega)) (show 4294967295*4294967295<18446744073709551616 by omega)
     have hr2:4294967296*r+d0<18446744073709551616:=by have:=D2.bd;omega
     rw[show(4294967296:Int)=((4294967296:Nat):Int)from rfl,HP (a:=4294967296) (b:=r) (by omega),addN hr2,HP hm]
     have ht:=D2.t _ _ he
     by_cases hx:4294967296*r+d0<q*y0
     ·rw[kN]
      exact Ret.some (.inl ⟨rfl,by
       have:¬q<=Q0:=fun g=>ht.1 g hx
       omega⟩)
     ·rw[kJ]
      exact Ret.some (.inr ⟨rfl,by have:=ht.2 hx;omega⟩)
   rintro z hz
   rcases hz with ⟨rfl,hlt⟩|⟨rfl,rfl⟩
   ·rw[aV,addN (a:=r) (b:=y1) (by have:=D.b1;omega)]
    have hq1:bo .u64 (q:Int) 1=((q-1:Nat):Int):=subN (b:=1) (by omega) (by omega)
    have he':(q-1)*y1+(r+y1)=u2:=by
     obtain⟨k,rfl⟩:∃k,q=k+1:=⟨q-1,by omega⟩
     rw[Nat.add_sub_cancel,<-he,ci];omega
    rw[hq1]
    by_cases hb:4294967296<=r+y1
    ·rw[ag (gY),ag (gY)]
     have hs:=D2.st _ _ he' (by omega) (by omega) hb
     rw[hs,mulW]
     exact fin
    ·rw[aq (mI)]
     exact hrec2 _ ⟨q-1,r+y1,he',by omega,by omega,by omega,rfl⟩ (by dsimp only;omega)
   ·rw[ap,ag (gY),mulW]
    exact fin
  ·rw[aq (mI)]
   exact hrec _ ⟨q-1,r+y1,he',by omega,by omega,by omega,rfl⟩ (by dsimp only;omega)
 ·rw[hqe,ap,ag (show bm (eqI (y1:Int) 0)=true by rw[aD];rfl),mulW]
  rw[restN hN1 hu2,quoN hu2,HP (gQ (lC u2 y1) hu2),subN (lC u2 y1) hu2]
  refine Ret.iter (fun x=>∃q r:Nat,q*y1+r=u2/\Q0<=q/\q<=4294967297/\r<4294967296/\x=(((y:Int),(s:Int),(y1:Int),(y0:Int),(d0:Int),(Q1:Int),(r:Int),(u2:Int),(q:Int),()),())) (fun x=>x.1.2.2.2.2.2.2.2.2.1.toNat)
   ?_ F _ ⟨u2/y1,u2%y1,jP _ _,D2.i.1,D2.i.2.1,D2.i.2.2,by
    have:u2-u2/y1*y1=u2%y1:=by have:=jP u2 y1;omega
    rw[this]⟩ (by unfold F;dsimp only;rw[bu];have:=D2.i.2.1;omega)
  rintro _ rec2 ⟨q,r,he,hQ,hq,hr,rfl⟩ hrec2
  dsimp only[p5,p6,p7,p8,cp6]at hrec2|-
  refine Ret.bnd (Q:=fun z=>(z=true/\Q0<q)\/(z=false/\q=Q0)) ?_ ?_
  ·by_cases hb:4294967296<=q
   ·rw[ag (gY)]
    exact Ret.some (.inl ⟨rfl,by have:=D2.ql;omega⟩)
   ·rw[aq (mI)]
    have hm:q*y0<18446744073709551616:=gQ (mB (show q<=4294967295 by omega) (show y0<=4294967295 by have:=D.b0;omega)) (show 4294967295*4294967295<18446744073709551616 by omega)
    have hr2:4294967296*r+d0<18446744073709551616:=by have:=D2.bd;omega
    rw[show(4294967296:Int)=((4294967296:Nat):Int)from rfl,HP (a:=4294967296) (b:=r) (by omega),addN hr2,HP hm]
    have ht:=D2.t _ _ he
    by_cases hx:4294967296*r+d0<q*y0
    ·rw[kN]
     exact Ret.some (.inl ⟨rfl,by
      have:¬q<=Q0:=fun g=>ht.1 g hx
      omega⟩)
    ·rw[kJ]
     exact Ret.some (.inr ⟨rfl,by have:=ht.2 hx;omega⟩)
  rintro z hz
  rcases hz with ⟨rfl,hlt⟩|⟨rfl,rfl⟩
  ·rw[aV,addN (a:=r) (b:=y1) (by have:=D.b1;omega)]
   have hq1:bo .u64 (q:Int) 1=((q-1:Nat):Int):=subN (b:=1) (by omega) (by omega)
   have he':(q-1)*y1+(r+y1)=u2:=by
    obtain⟨k,rfl⟩:∃k,q=k+1:=⟨q-1,by omega⟩
    rw[Nat.add_sub_cancel,<-he,ci];omega
   rw[hq1]
   by_cases hb:4294967296<=r+y1
   ·rw[ag (gY),ag (gY)]
    have hs:=D2.st _ _ he' (by omega) (by omega) hb
    rw[hs,mulW]
    exact fin
   ·rw[aq (mI)]
    exact hrec2 _ ⟨q-1,r+y1,he',by omega,by omega,by omega,rfl⟩ (by dsimp only;omega)
  ·rw[ap,ag (gY),mulW]
   exact fin
theorem I4 {X y0 s:Nat}:X*2^s/(y0*2^s)=X/y0/\X*2^s%(y0*2^s)/2^s=X%y0:=by
 have hp:0<2^s:=cE s
 constructor
 ·rw[Nat.mul_div_mul_right _ _ hp]
 ·rw[Nat.mul_mod_mul_right,Nat.mul_div_cancel _ hp]
theorem iorN {a b k:Nat}(ha:a*2^k<18446744073709551616)(hb:b<2^k)(l1:a*2^k+b<18446744073709551616):ior .u64 ((a*2^k:Nat):Int) (b:Int)=((a*2^k+b:Nat):Int):=by
 have e:a*2^k|||b=a*2^k+b:=by rw[cH,lA hb]
 unfold ior
 rw[gB]
 have:((BitVec.ofInt IntKind.u64.bits ((a*2^k:Nat):Int)|||BitVec.ofInt IntKind.u64.bits (b:Int)).toNat)=(a*2^k)%18446744073709551616|||b%18446744073709551616:=by
  rw[oq]
  show(BitVec.ofInt 64 ((a*2^k:Nat):Int)).toNat|||(BitVec.ofInt 64 (b:Int)).toNat=_
  rw[gd,gd]
  show(((a*2^k:Nat):Int)%(18446744073709551616:Nat)).toNat|||((b:Int)%(18446744073709551616:Nat)).toNat=_
  rw[<-dM,<-dM,bu,bu]
 have l2:b<18446744073709551616:=by omega
 rw[this,cb ha,cb l2,e]
 omega
theorem KG {a s:Nat}(hs:s<=64):eW .u64 (a:Int) (s:Int)=((a*2^s%18446744073709551616:Nat):Int):=by
 rw[Dx _ _ hs]
 rw[<-nk s,<-Int.natCast_mul]
 obtain⟨p,hp⟩:∃p,p=a*2^s:=⟨_,rfl⟩
 rw[<-hp];omega
theorem Ey {a s:Nat}(hs:s<=64):dC .u64 (a:Int) (s:Int)=((a/2^s:Nat):Int):=by
 rw[wg _ _ hs,<-nk s,gf]
theorem KH (a:Nat):dC .u64 (a:Int) 32=((a/4294967296:Nat):Int):=Ey (a:=a) (s:=32) (by decide)
theorem J9 {a:Nat}(h:a<18446744073709551616):dP .u64 (a:Int) 4294967295=((a%4294967296:Nat):Int):=by
 rw[Cz (by omega) (by omega)];omega
theorem Ef {P R hi lo d B:Nat}(hR:0<R)(hP:0<P)(hW:P*R=B*B)(hd:d*P<B*B)(hn:B*B<=2*(d*P))(h:hi<d)(hlo:lo<B*B)(hB:2<=B)(hBe:B%2=0):
  lo/R<P/\hi*P<B*B/\hi*P+lo/R<d*P/\(hi*P+lo/R)*(B*B)+lo*P%(B*B)=(hi*(B*B)+lo)*P/\d*P/B<B/\B<=2*(d*P/B):=by
 have h1:lo/R<P:=ja (by rw[cH,hW];exact hlo)
 have h2:(hi+1)*P<=d*P:=ed _ h
 rw[ci,jg]at h2
 refine⟨h1,by omega,by omega,?_,ja hd,?_⟩
 ·have e1:lo*P=lo/R*(B*B)+lo%R*P:=by
   rw[<-hW,cH P R,<-kU,<-ci,jP]
  have l1:lo%R*P<B*B:=by
   rw[<-hW,cH P R]
   exact Nat.mul_lt_mul_of_pos_right (cr _ hR) hP
  have e2:lo*P%(B*B)=lo%R*P:=by
   rw[e1,cH (lo/R),Nat.mul_add_mod,cb l1]
  rw[e2,ci,ci,e1,Nat.mul_right_comm hi P]
  omega
 ·obtain⟨c,hc⟩:∃c,B=2*c:=⟨B/2,by omega⟩
  have:c<=d*P/B:=by
   rw[nZ (by omega)]
   have:B*B=2*(c*B):=by rw[<-kU,<-hc]
   omega
  omega
theorem HT {hi lo d:Nat}(h:hi<d)(hd:d<18446744073709551616)(hlo:lo<18446744073709551616):
  gI (((hi:Int),(lo:Int),(d:Int),()),())=some (((((hi*18446744073709551616+lo)/d:Nat):Int),(((hi*18446744073709551616+lo)%d:Nat):Int),()),()):=by
 unfold gI
 dsimp only
 rw[aD (show(d:Int)≠0 by omega),ap,af,am]
 dsimp only
 rw[mI (show ¬(d:Int)<=hi by omega),ap,af,am]
 dsimp only
 by_cases h0:hi=0
 ·subst h0
  rw[show eqI ((0:Nat):Int) 0=true from rfl,aV,aD (show(d:Int)≠0 by omega),eF,aV,aV,quoN hlo,remN]
  rw[Nat.zero_mul,eP]
 ·rw[aD (show(hi:Int)≠0 by omega),ap]
  obtain⟨l,hl,l1,l64,b1,b2⟩:=HV (show 1<=d by omega) hd
  have hlz:dj (((d:Int),()),())=some (((64-l:Nat):Int),()):=by
   unfold dj
   rw[hl,af]
   dsimp only
   rw[bN]
   rw[show(64:Int)-l=((64-l:Nat):Int)by omega]
  rw[hlz,af]
  dsimp only
  obtain⟨s,hs⟩:∃s,s=64-l:=⟨_,rfl⟩
  rw[<-hs]
  have hs63:s<=63:=by omega
  have hws:an .u64 (s:Int)=(s:Int):=dl
  rw[hws,ag (gY),ag (gY)]
  have e64:bo .u64 64 (s:Int)=((64-s:Nat):Int):=subN (a:=64) (by omega) (by decide)
  rw[e64,ag (gY),ag (gY)]
  have hPR:2^s*2^(64-s)=4294967296*4294967296:=by
   rw[<-eD,show s+(64-s)=64 by omega]
  have hY2:d*2^s<4294967296*4294967296:=by
   have:d*2^s<2^l*2^s:=Nat.mul_lt_mul_of_pos_right b2 (cE s)
   rw[<-eD,show l+s=64 by omega]at this
   exact this
  have hY1:4294967296*4294967296<=2*(d*2^s):=by
   have:2^(l-1)*2^s<=d*2^s:=ed _ b1
   rw[<-eD,show l-1+s=63 by omega]at this
   have e:(4294967296*4294967296:Nat)=2*2^63:=by decide
   rw[e];exact oe 2 this
  obtain⟨c1,c2,c3,c4,c5,c6⟩:=Ef (cE (64-s)) (cE s) hPR hY2 hY1 h (B:=4294967296) (lo:=lo) hlo (by decide) (by decide)
  rw[KG (a:=d) (by omega),KG (a:=hi) (by omega),KG (a:=lo) (by omega),Ey (a:=lo) (s:=64-s) (by omega)]
  rw[cb hY2,cb c2]
  have hul:hi*2^s+lo/2^(64-s)<18446744073709551616:=ov c3 hY2
  rw[iorN c2 c1 hul,KH,KH,J9 hY2]
  have hL:lo*2^s%18446744073709551616<18446744073709551616:=cr _ (by decide)
  rw[J9 hL]
  obtain⟨X,hX⟩:∃X,X=hi*18446744073709551616+lo:=⟨_,rfl⟩
  have c4':(hi*2^s+lo/2^(64-s))*18446744073709551616+lo*2^s%18446744073709551616=X*2^s:=by rw[hX];exact c4
  rw[<-hX]
  have nd:=I4 (X:=X) (y0:=d) (s:=s)
  obtain⟨u,hu⟩:∃u,u=hi*2^s+lo/2^(64-s):=⟨_,rfl⟩
  obtain⟨y,hy⟩:∃y,y=d*2^s:=⟨_,rfl⟩
  obtain⟨L,hLe⟩:∃L,L=lo*2^s%18446744073709551616:=⟨_,rfl⟩
  rw[<-hu,<-hLe]at c4'
  rw[<-hu,<-hy]at c3
  rw[<-hy]at c5 c6 nd hY2
  rw[<-hu]at hul
  rw[<-hLe]at hL
  rw[<-hu,<-hy,<-hLe]
  rw[<-c4']at nd
  obtain⟨y1,hy1⟩:∃v,v=y/4294967296:=⟨_,rfl⟩
  obtain⟨y0,hy0⟩:∃v,v=y%4294967296:=⟨_,rfl⟩
  obtain⟨d1,hd1⟩:∃v,v=L/4294967296:=⟨_,rfl⟩
  obtain⟨d0,hd0⟩:∃v,v=L%4294967296:=⟨_,rfl⟩
  rw[<-hy1,<-hy0,<-hd1,<-hd0]
  rw[<-hy1]at c5 c6
  have hyy:y=y1*4294967296+y0:=by omega
  have hLL:L=d1*4294967296+d0:=by omega
  have D:Dig y1 y0 u d1:=⟨by omega,c5,c6,by rw[<-hyy];exact c3,by omega⟩
  have D2:Dig y1 y0 ((u*4294967296+d1)%(y1*4294967296+y0)) d0:=⟨by omega,c5,c6,cr _ D.y_pos,by omega⟩
  have hq:=D.f hyy
  have hq2:=D2.f hyy
  obtain⟨t1,t2⟩:=EJ D D2
  rw[<-hLL,<-hyy]at t1 t2
  rw[<-hyy]at hq hq2
  have hy1p:0<y1:=hq.p1
  have hmq:u/y1*y1<18446744073709551616:=gQ (lC u y1) hul
  have hrm:u-u/y1*y1=u%y1:=by have:=jP u y1;omega
  rw[aD (show(y1:Int)≠0 by omega),eF,aV,quoN hul,HP hmq,subN (lC u y1) hul,hrm]
  exact If hq hq2 hs63 (t1.symm.trans nd.1) (by rw[<-t2];exact nd.2) rfl
end Go.Den.G
