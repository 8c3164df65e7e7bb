/- Theory for the proofs of this claim: see its last text. -/
import Derived.Test.YtjbcmjmooafgdaaGreatDenA
set_option linter.unusedVariables false
set_option maxRecDepth 100000
noncomputable section
namespace Go.Den.G
def F:Nat:=1000000000000000
abbrev Z0:=Int×Unit
abbrev Z1:=(List Page)×Z0
abbrev Z2:=(List Page)×(Int×Z0)
abbrev Z3:=(Z2×Unit)→(Option Z0)
abbrev Z4:=(List Page)×Unit
abbrev Z5:=(Z4×Z0)×Unit
abbrev Z6:=List UInt8
abbrev Z7:=Int×(Int×Z0)
abbrev Z8:=Int×(Int×(Z6×(Int×(Z6×(Int×(Int×(Int×Z7)))))))
abbrev Z9:=(List Int)×(Int×(Int×((List Page)×Z8)))
abbrev Z10:=(Z9×Z0)×Unit
abbrev Z11:=(List Int)×Unit
abbrev Z12:=Z11×Unit
abbrev Z13:=Z0×(Z11×(Z11×Z12))
abbrev Z14:=(List Int)×(Int×Z0)
abbrev Z15:=Z14×Unit
abbrev Z16:=Z15×Unit
abbrev Z17:=Page×Unit
abbrev Z18:=Option (Unit×Z4)
abbrev Z19:=(Z4×Unit)×Unit
abbrev Z20:=(Z9×Unit)×Unit
abbrev Z21:=(List Int)×(Int×(Int×Z8))
abbrev Z22:=Bool×Unit
abbrev Z23:=Z0×(Z4×Unit)
abbrev Z24:=Option Z22
abbrev Z25:=(Int×Z0)×Unit
abbrev Z26:=(Int×Z7)×Unit
abbrev Z27:=(Int×Z0)×(Z4×Unit)
abbrev Z28:=(Z4×Z7)×Unit
abbrev Z29:=(Int×Z7)×(Z4×Unit)
abbrev Z30:=Z29→(Option Z0)
abbrev Z31:=(Z4×(Int×Z0))×Unit
abbrev Z32:=Z7×(Z4×Z11)
abbrev Z33:=Option (Z6×Unit)
abbrev Z34:=(Z6×Z7)×Unit
abbrev Z35:=Z34→(Option Z0)
abbrev Z36:=(Z9×(Int×Z0))×Unit
abbrev Z37:=Int×(Z6×Unit)
abbrev Z38:=(Z4×Z37)×Unit
abbrev Z39:=Unit×Unit
abbrev Z40:=(List Page)×Z39
abbrev Z41:=Z37×(Unit×Z40)
abbrev Z42:=Option (Z4×Unit)
abbrev Z43:=(Int×Z37)×Unit
abbrev Z44:=(Int×(Bool×Z0))×(Z4×(Unit×((List Page)×Z43)))
abbrev Z45:=Unit×(Unit×Z4)
abbrev Z46:=(Int×Z0)×(Z9×(Z21×((List Page)×(Z4×Unit))))
abbrev Z47:=(Int×Z7)×(Z14×Z15)
abbrev Z48:=Z2×(Z4×Unit)
abbrev Z49:=Bool×(Z0×Unit)
abbrev Z50:=Int×(Z0×Unit)
abbrev Z51:=Z2×(Z0×Unit)
abbrev Z52:=(Int×Z0)×(Z21×Z4)
abbrev Z53:=Unit×(Z21×Z4)
abbrev Z54:=Z37×(Z4×Z45)
abbrev Z55:=Int×(Z21×Z4)
abbrev Z56:=Bool×Z43
abbrev Z57:=Z0×(Z4×((Int×Z37)×Z39))
abbrev Z58:=Z0×(Z21×Z4)
abbrev Z59:=(Int×Z0)×(Z21×Z40)
abbrev Z60:=(Int×Z0)×(Z21×((List Page)×(Unit×Z4)))
abbrev Z61:=Sum Z59 Z60
abbrev Z62:=(Z21×Z0)×Z4
abbrev Z63:=Z0×(Z11×Z12)
abbrev Z64:=((List Page)×Z1)×Unit
abbrev Z65:=Z37×Unit
abbrev Z66:=(Int×Z0)×Z4
abbrev cp6 {T0 T1 T2 T3 T4 T5 T6 U:Type}(t:T0×T1×T2×T3×T4×T5×T6)(r:U):T0×T1×T2×T3×T4×T5×U:=(t.1,t.2.1,t.2.2.1,t.2.2.2.1,t.2.2.2.2.1,t.2.2.2.2.2.1,r)
abbrev cp7 {T0 T1 T2 T3 T4 T5 T6 T7 U:Type}(t:T0×T1×T2×T3×T4×T5×T6×T7)(r:U):T0×T1×T2×T3×T4×T5×T6×U:=(t.1,t.2.1,t.2.2.1,t.2.2.2.1,t.2.2.2.2.1,t.2.2.2.2.2.1,t.2.2.2.2.2.2.1,r)
abbrev cp8 {T0 T1 T2 T3 T4 T5 T6 T7 T8 U:Type}(t:T0×T1×T2×T3×T4×T5×T6×T7×T8)(r:U):T0×T1×T2×T3×T4×T5×T6×T7×U:=(t.1,t.2.1,t.2.2.1,t.2.2.2.1,t.2.2.2.2.1,t.2.2.2.2.2.1,t.2.2.2.2.2.2.1,t.2.2.2.2.2.2.2.1,r)
abbrev cp9 {T0 T1 T2 T3 T4 T5 T6 T7 T8 T9 U:Type}(t:T0×T1×T2×T3×T4×T5×T6×T7×T8×T9)(r:U):T0×T1×T2×T3×T4×T5×T6×T7×T8×U:=(t.1,t.2.1,t.2.2.1,t.2.2.2.1,t.2.2.2.2.1,t.2.2.2.2.2.1,t.2.2.2.2.2.2.1,t.2.2.2.2.2.2.2.1,t.2.2.2.2.2.2.2.2.1,r)
abbrev cp10 {T0 T1 T2 T3 T4 T5 T6 T7 T8 T9 T10 U:Type}(t:T0×T1×T2×T3×T4×T5×T6×T7×T8×T9×T10)(r:U):T0×T1×T2×T3×T4×T5×T6×T7×T8×T9×U:=(t.1,t.2.1,t.2.2.1,t.2.2.2.1,t.2.2.2.2.1,t.2.2.2.2.2.1,t.2.2.2.2.2.2.1,t.2.2.2.2.2.2.2.1,t.2.2.2.2.2.2.2.2.1,t.2.2.2.2.2.2.2.2.2.1,r)
abbrev cp11 {T0 T1 T2 T3 T4 T5 T6 T7 T8 T9 T10 T11 U:Type}(t:T0×T1×T2×T3×T4×T5×T6×T7×T8×T9×T10×T11)(r:U):T0×T1×T2×T3×T4×T5×T6×T7×T8×T9×T10×U:=(t.1,t.2.1,t.2.2.1,t.2.2.2.1,t.2.2.2.2.1,t.2.2.2.2.2.1,t.2.2.2.2.2.2.1,t.2.2.2.2.2.2.2.1,t.2.2.2.2.2.2.2.2.1,t.2.2.2.2.2.2.2.2.2.1,t.2.2.2.2.2.2.2.2.2.2.1,r)
abbrev d5 {T0 T1 T2 T3 T4 T5:Type}(t:T0×T1×T2×T3×T4×T5):T5:=t.2.2.2.2.2
abbrev d6 {T0 T1 T2 T3 T4 T5 T6:Type}(t:T0×T1×T2×T3×T4×T5×T6):T6:=t.2.2.2.2.2.2
abbrev d7 {T0 T1 T2 T3 T4 T5 T6 T7:Type}(t:T0×T1×T2×T3×T4×T5×T6×T7):T7:=t.2.2.2.2.2.2.2
abbrev d8 {T0 T1 T2 T3 T4 T5 T6 T7 T8:Type}(t:T0×T1×T2×T3×T4×T5×T6×T7×T8):T8:=t.2.2.2.2.2.2.2.2
abbrev d9 {T0 T1 T2 T3 T4 T5 T6 T7 T8 T9:Type}(t:T0×T1×T2×T3×T4×T5×T6×T7×T8×T9):T9:=t.2.2.2.2.2.2.2.2.2
abbrev d10 {T0 T1 T2 T3 T4 T5 T6 T7 T8 T9 T10:Type}(t:T0×T1×T2×T3×T4×T5×T6×T7×T8×T9×T10):T10:=t.2.2.2.2.2.2.2.2.2.2
abbrev d11 {T0 T1 T2 T3 T4 T5 T6 T7 T8 T9 T10 T11:Type}(t:T0×T1×T2×T3×T4×T5×T6×T7×T8×T9×T10×T11):T11:=t.2.2.2.2.2.2.2.2.2.2.2
abbrev d12 {T0 T1 T2 T3 T4 T5 T6 T7 T8 T9 T10 T11 T12:Type}(t:T0×T1×T2×T3×T4×T5×T6×T7×T8×T9×T10×T11×T12):T12:=t.2.2.2.2.2.2.2.2.2.2.2.2
abbrev d13 {T0 T1 T2 T3 T4 T5 T6 T7 T8 T9 T10 T11 T12 T13:Type}(t:T0×T1×T2×T3×T4×T5×T6×T7×T8×T9×T10×T11×T12×T13):T13:=t.2.2.2.2.2.2.2.2.2.2.2.2.2
abbrev p5 {T0 T1 T2 T3 T4 T5 T6:Type}(t:T0×T1×T2×T3×T4×T5×T6):T5:=t.2.2.2.2.2.1
abbrev p6 {T0 T1 T2 T3 T4 T5 T6 T7:Type}(t:T0×T1×T2×T3×T4×T5×T6×T7):T6:=t.2.2.2.2.2.2.1
abbrev p7 {T0 T1 T2 T3 T4 T5 T6 T7 T8:Type}(t:T0×T1×T2×T3×T4×T5×T6×T7×T8):T7:=t.2.2.2.2.2.2.2.1
abbrev p8 {T0 T1 T2 T3 T4 T5 T6 T7 T8 T9:Type}(t:T0×T1×T2×T3×T4×T5×T6×T7×T8×T9):T8:=t.2.2.2.2.2.2.2.2.1
abbrev p9 {T0 T1 T2 T3 T4 T5 T6 T7 T8 T9 T10:Type}(t:T0×T1×T2×T3×T4×T5×T6×T7×T8×T9×T10):T9:=t.2.2.2.2.2.2.2.2.2.1
abbrev p10 {T0 T1 T2 T3 T4 T5 T6 T7 T8 T9 T10 T11:Type}(t:T0×T1×T2×T3×T4×T5×T6×T7×T8×T9×T10×T11):T10:=t.2.2.2.2.2.2.2.2.2.2.1
abbrev p11 {T0 T1 T2 T3 T4 T5 T6 T7 T8 T9 T10 T11 T12:Type}(t:T0×T1×T2×T3×T4×T5×T6×T7×T8×T9×T10×T11×T12):T11:=t.2.2.2.2.2.2.2.2.2.2.2.1
abbrev p12 {T0 T1 T2 T3 T4 T5 T6 T7 T8 T9 T10 T11 T12 T13:Type}(t:T0×T1×T2×T3×T4×T5×T6×T7×T8×T9×T10×T11×T12×T13):T12:=t.2.2.2.2.2.2.2.2.2.2.2.2.1
abbrev p13 {T0 T1 T2 T3 T4 T5 T6 T7 T8 T9 T10 T11 T12 T13 T14:Type}(t:T0×T1×T2×T3×T4×T5×T6×T7×T8×T9×T10×T11×T12×T13×T14):T13:=t.2.2.2.2.2.2.2.2.2.2.2.2.2.1
abbrev p14 {T0 T1 T2 T3 T4 T5 T6 T7 T8 T9 T10 T11 T12 T13 T14 T15:Type}(t:T0×T1×T2×T3×T4×T5×T6×T7×T8×T9×T10×T11×T12×T13×T14×T15):T14:=t.2.2.2.2.2.2.2.2.2.2.2.2.2.2.1
def df (x1:((Page×Z0)×Unit)):Option Z0:=
 (br (ltI (cj .i64 x1.1.2.1 (aA x1.1.1.data)) 0) (some ((-1),())) (some ((cj .i64 x1.1.2.1 (aA x1.1.1.data)),())))
def cK (x1:(Z1×Unit)):Option Z0:=
 (br (ltI (cj .i64 x1.1.2.1 (aA x1.1.1)) 0) (some ((-1),())) (iter (σ:=(Z2×Unit)) F (fun(x2:Z3)=>(fun(x3:(Z2×Unit))=>br (ltI x3.1.2.2.1 (aA x3.1.1)) (br (inR x3.1.2.2.1 (aA x3.1.1)) (bnd (df (((aD x3.1.1 x3.1.2.2.1 (au .page)),x3.1.2.1,()),())) (fun x4=>br (ltI x4.1 0) (some ((-1),())) (x2 ((x3.1.1,x4.1,(aJ .i64 x3.1.2.2.1 1),()),())))) none) (some (x3.1.2.1,())))) ((x1.1.1,(cj .i64 x1.1.2.1 (aA x1.1.1)),0,()),())))
def cn (x1:Z5):Option Z0:=
 (bnd (cK ((x1.1.1.1,x1.1.2),())) (fun x2=>br (ltI x2.1 0) (some ((-1),())) (some x2)))
def dI (x1:Z10):Option Z0:=
 (bnd (cn (((x1.1.1.2.2.2.1,()),x1.1.2),())) (fun x2=>br (ltI x2.1 0) (some ((-1),())) (br (ltI (cj .i64 x2.1 (aA (p6 x1.1.1))) 0) (some ((-1),())) (br (ltI (cj .i64 (cj .i64 x2.1 (aA (p6 x1.1.1))) (aA (p8 x1.1.1))) 0) (some ((-1),())) (some ((cj .i64 (cj .i64 x2.1 (aA (p6 x1.1.1))) (aA (p8 x1.1.1))),()))))))
def co (x1:(Z12×Unit)):Option Z12:=
 (iter (σ:=Z13) F (fun(x2:(Z13→(Option Z12)))=>(fun(x3:Z13)=>br (ltI x3.1.1 16) (br (inR x3.1.1 16) (br (inR x3.1.1 16) (x2 (((aJ .i64 x3.1.1 1),()),x3.2.1,x3.2.2.1,((ea (jk 16 (au .i) x3.2.2.2.1.1) x3.1.1 (aD x3.2.1.1 x3.1.1 (au .i))),()),())) none) none) (some x3.2.2.2))) ((0,()),x1.1.1,(([]:List Int),()),(([]:List Int),()),()))
def dJ (x1:Z16):Option Z15:=
 (bnd (co (((x1.1.1.1,()),()),())) (fun x2=>some ((x2.1.1,x1.1.1.2),())))
def ej (x1:(Z17×Unit)):Option Z17:=
 (some x1.1)
def cL (x1:(Z4×Unit)):Option (Unit×Z4):=
 (br (inC (aA x1.1.1) (aA x1.1.1)) (br (ni (aA x1.1.1)) (iter (σ:=(Z1×Z4)) F (fun(x2:((Z1×Z4)→Z18))=>(fun(x3:(Z1×Z4))=>br (ltI x3.1.2.1 (aA x3.1.1)) (br (inR x3.1.2.1 (aA x3.1.1)) (bnd (ej (((aD x3.1.1 x3.1.2.1 (au .page)),()),())) (fun x4=>br (inR x3.1.2.1 (aA x3.2.1)) (x2 ((x3.1.1,(aJ .i64 x3.1.2.1 1),()),(ea x3.2.1 x3.1.2.1 x4.1),())) none)) none) (some ((),x3.2)))) ((x1.1.1,0,()),(oe (aA x1.1.1) (au .page)),())) none) none)
def cq (x1:Z19):Option (Unit×Z4):=
 (bnd (cL x1.1) (fun x2=>some ((),x2.2)))
def bR (x1:Z20):Option (Z21×Z4):=
 (bnd (dJ (((x1.1.1.1,x1.1.1.2.1,x1.1.1.2.2.1,()),()),())) (fun x2=>bnd (cq (((x1.1.1.2.2.2.1,()),()),())) (fun x3=>some ((x2.1.1,x2.1.2.1,x2.1.2.2.1,x1.1.1.2.2.2.2),x3.2))))
def dj (x1:(Z0×Unit)):Option Z22:=
 (bnd (br (leI 0 x1.1.1) (some (eqI (jq .i64 x1.1.1 2245) x1.1.1)) (some false)) (fun(x2:Bool)=>some (x2,())))
def dL (x1:Z16):Option Z22:=
 (bnd (dj (x1.1.1.2.2,())) (fun x2=>some x2))
def am (x1:(Z7×Unit)):Option Z22:=
 (bnd (br (leI x1.1.2.1 x1.1.1) (some (leI x1.1.1 x1.1.2.2.1)) (some false)) (fun(x2:Bool)=>some (x2,())))
def cN (x1:(Z0×Unit)):Option Z22:=
 (bnd (am ((x1.1.1,0,65535,()),())) (fun x2=>bnd (br x2.1 (some (eqI (gN x1.1.1 256) 0)) (some false)) (fun(x3:Bool)=>some (x3,()))))
def cO (x1:(Z0×Unit)):Option Z22:=
 (bnd (am ((x1.1.1,0,7,()),())) (fun x2=>some x2))
def cr (x1:Z19):Option Z22:=
 (br (ltI 32 (aA x1.1.1.1)) (some (false,())) (iter (σ:=Z23) F (fun(x2:(Z23→Z24))=>(fun(x3:Z23)=>br (ltI x3.1.1 (aA x3.2.1.1)) (br (inR x3.1.1 (aA x3.2.1.1)) (bnd (cN (((aD x3.2.1.1 x3.1.1 (au .page)).base,()),())) (fun x4=>br (aQ x4.1) (some (false,())) (bnd (cO (((aD x3.2.1.1 x3.1.1 (au .page)).perm,()),())) (fun x5=>br (aQ x5.1) (some (false,())) (br (aQ (eqI (aA (aD x3.2.1.1 x3.1.1 (au .page)).data) 256)) (some (false,())) (br (ltI 0 x3.1.1) (br (inR (cj .i64 x3.1.1 1) (aA x3.2.1.1)) (br (leI (aD x3.2.1.1 x3.1.1 (au .page)).base (aD x3.2.1.1 (cj .i64 x3.1.1 1) (au .page)).base) (some (false,())) (x2 (((aJ .i64 x3.1.1 1),()),x3.2))) none) (x2 (((aJ .i64 x3.1.1 1),()),x3.2)))))))) none) (some (true,())))) ((0,()),x1.1)))
def bS (x1:Z25):Option Z0:=
 (br (leI 0 (aF .u64 x1.1.2.1)) (br (eqI (gN (rF .u64 (aF .u64 x1.1.1) (aF .u64 x1.1.2.1)) 2) 1) (some (1,())) (some (0,()))) none)
def aM (x1:Z25):Option Z0:=
 (iter (σ:=Z26) F (fun(x2:(Z26→(Option Z0)))=>(fun(x3:Z26)=>br (leI 0 x3.1.2.2.2.1) (bnd (bS ((x3.1.1,(fA x3.1.2.2.2.1 (cj .i64 (fE .i64 8 x3.1.2.1) 1)),()),())) (fun x4=>x2 ((x3.1.1,x3.1.2.1,(aJ .u64 (fE .u64 2 x3.1.2.2.1) (aF .u64 x4.1)),(cj .i64 x3.1.2.2.2.1 1),()),()))) (some ((aF .i64 x3.1.2.2.1),())))) ((x1.1.1,x1.1.2.1,0,63,()),()))
def dK (x1:Z20):Option Z22:=
 (bnd (dL (((x1.1.1.1,x1.1.1.2.1,x1.1.1.2.2.1,()),()),())) (fun x2=>bnd (br (aQ x2.1) (some true) (bnd (cr (((x1.1.1.2.2.2.1,()),()),())) (fun x3=>some (aQ x3.1)))) (fun(x4:Bool)=>bnd (br x4 (some true) (bnd (am ((x1.1.1.2.2.2.2.1,512,3584,()),())) (fun x5=>some (aQ x5.1)))) (fun(x6:Bool)=>bnd (br x6 (some true) (bnd (am (((p5 x1.1.1),x1.1.1.2.2.2.2.1,3584,()),())) (fun x7=>some (aQ x7.1)))) (fun(x8:Bool)=>bnd (br x8 (some true) (some (ltI 1024 (aA (p6 x1.1.1))))) (fun(x9:Bool)=>bnd (br x9 (some true) (bnd (am (((p7 x1.1.1),0,(aA (p6 x1.1.1)),()),())) (fun x10=>some (aQ x10.1)))) (fun(x11:Bool)=>bnd (br x11 (some true) (some (ltI 512 (aA (p8 x1.1.1))))) (fun(x12:Bool)=>bnd (br x12 (some true) (bnd (am (((p9 x1.1.1),0,1000000,()),())) (fun x13=>some (aQ x13.1)))) (fun(x14:Bool)=>bnd (br x14 (some true) (bnd (am (((p10 x1.1.1),0,2147483647,()),())) (fun x15=>some (aQ x15.1)))) (fun(x16:Bool)=>bnd (br x16 (some true) (bnd (am (((p11 x1.1.1),1,3,()),())) (fun x17=>some (aQ x17.1)))) (fun(x18:Bool)=>br x18 (some (false,())) (br (aQ (eqI (p11 x1.1.1) 2)) (br (aQ (eqI (p12 x1.1.1) 0)) (some (false,())) (bnd (aM (((p12 x1.1.1),4,()),())) (fun x19=>br (aQ (eqI x19.1 (p12 x1.1.1))) (some (false,())) (br (aQ (eqI (p11 x1.1.1) 3)) (bnd (br (eqI (p13 x1.1.1) 0) (some (eqI (p14 x1.1.1) 0)) (some false)) (fun(x20:Bool)=>some (x20,()))) (bnd (am (((p13 x1.1.1),1,35,()),())) (fun x21=>some x21)))))) (bnd (aM (((p12 x1.1.1),4,()),())) (fun x22=>br (aQ (eqI x22.1 (p12 x1.1.1))) (some (false,())) (br (aQ (eqI (p11 x1.1.1) 3)) (bnd (br (eqI (p13 x1.1.1) 0) (some (eqI (p14 x1.1.1) 0)) (some false)) (fun(x23:Bool)=>some (x23,()))) (bnd (am (((p13 x1.1.1),1,35,()),())) (fun x24=>some x24)))))))))))))))))
def dl (x1:Z10):Option Z0:=
 (bnd (dK ((x1.1.1,()),())) (fun x2=>br (aQ x2.1) (some (1,())) (bnd (am ((x1.1.2.1,0,7,()),())) (fun x3=>br (aQ x3.1) (some (4,())) (br (aQ (eqI (p11 x1.1.1) 1)) (some (35,())) (some (0,())))))))
def bU (x1:Z19):Option (Unit×Z4):=
 (br (dR ([]:List Page) x1.1.1.1) (some ((),(dN ([]:List Page) x1.1.1.1),())) none)
def cB (x1:Z20):Option (Z9×Unit):=
 (bnd (bU (((x1.1.1.2.2.2.1,()),()),())) (fun x2=>some ((x1.1.1.1,x1.1.1.2.1,x1.1.1.2.2.1,x2.2.1,x1.1.1.2.2.2.2),())))
def aH (x1:Z5):Option Z0:=
 (iter (σ:=Z27) F (fun(x2:(Z27→(Option Z0)))=>(fun(x3:Z27)=>br (ltI x3.1.2.1 (aA x3.2.1.1)) (br (inR x3.1.2.1 (aA x3.2.1.1)) (bnd (br (leI (aD x3.2.1.1 x3.1.2.1 (au .page)).base x3.1.1) (br (inR x3.1.2.1 (aA x3.2.1.1)) (some (ltI (cj .i64 x3.1.1 (aD x3.2.1.1 x3.1.2.1 (au .page)).base) 256)) none) (some false)) (fun(x4:Bool)=>br x4 (some x3.1.2) (x2 ((x3.1.1,(aJ .i64 x3.1.2.1 1),()),x3.2)))) none) (some ((-1),())))) ((x1.1.2.1,0,()),x1.1.1,()))
def aX (x1:Z28):Option Z0:=
 (iter (σ:=Z29) F (fun(x2:Z30)=>(fun(x3:Z29)=>br (ltI x3.1.2.2.2.1 x3.1.2.1) (bnd (am ((x3.1.1,(cj .i64 0 x3.1.2.1),65535,()),())) (fun x4=>br (aQ x4.1) (some (13,())) (bnd (aH ((x3.2.1,(aJ .i64 x3.1.1 x3.1.2.2.2.1),()),())) (fun x5=>br (ltI x5.1 0) (some (13,())) (br (inR x5.1 (aA x3.2.1.1)) (br (eqI (jq .i64 (aD x3.2.1.1 x5.1 (au .page)).perm x3.1.2.2.1) 0) (some (14,())) (x2 ((x3.1.1,x3.1.2.1,x3.1.2.2.1,(aJ .i64 x3.1.2.2.2.1 1),()),x3.2))) none))))) (some (0,())))) ((x1.1.2.1,x1.1.2.2.1,x1.1.2.2.2.1,0,()),x1.1.1,()))
def bT (x1:Z31):Option (Z6×Unit):=
 (iter (σ:=Z32) F (fun(x2:(Z32→Z33))=>(fun(x3:Z32)=>br (ltI x3.1.2.2.1 x3.1.2.1) (bnd (aH ((x3.2.1,(aJ .i64 x3.1.1 x3.1.2.2.1),()),())) (fun x4=>br (inR x4.1 (aA x3.2.1.1)) (br (inR (cj .i64 (aJ .i64 x3.1.1 x3.1.2.2.1) (aD x3.2.1.1 x4.1 (au .page)).base) (aA (aD x3.2.1.1 x4.1 (au .page)).data)) (br (dR x3.2.2.1 ((fL (aD x3.2.1.1 x4.1 (au .page)).data (cj .i64 (aJ .i64 x3.1.1 x3.1.2.2.1) (aD x3.2.1.1 x4.1 (au .page)).base))::([]:List Int))) (x2 ((x3.1.1,x3.1.2.1,(aJ .i64 x3.1.2.2.1 1),()),x3.2.1,(dN x3.2.2.1 ((fL (aD x3.2.1.1 x4.1 (au .page)).data (cj .i64 (aJ .i64 x3.1.1 x3.1.2.2.1) (aD x3.2.1.1 x4.1 (au .page)).base))::([]:List Int))),())) none) none) none)) (some ((fg x3.2.2.1),())))) ((x1.1.2.1,x1.1.2.2.1,0,()),x1.1.1,([]:List Int),()))
def cM (x1:((Z6×(Int×Z0))×Unit)):Option Z0:=
 (iter (σ:=Z34) F (fun(x2:Z35)=>(fun(x3:Z34)=>br (leI 0 x3.1.2.2.2.1) (br (inR (aJ .i64 x3.1.2.1 x3.1.2.2.2.1) (aA x3.1.1)) (x2 ((x3.1.1,x3.1.2.1,(aJ .u64 (fE .u64 256 x3.1.2.2.1) (aF .u64 (fL x3.1.1 (aJ .i64 x3.1.2.1 x3.1.2.2.2.1)))),(cj .i64 x3.1.2.2.2.1 1),()),())) none) (some ((aF .i64 x3.1.2.2.1),())))) ((x1.1.1,x1.1.2.1,0,(cj .i64 x1.1.2.2.1 1),()),()))
def cf (x1:Z31):Option Z25:=
 (bnd (aX ((x1.1.1,x1.1.2.1,x1.1.2.2.1,1,()),())) (fun x2=>br (aQ (eqI x2.1 0)) (some ((0,x2),())) (bnd (bT x1) (fun x3=>bnd (cM ((x3.1,0,x1.1.2.2),())) (fun x4=>some ((x4.1,0,()),()))))))
def eH (x1:Z36):Option (Z9×Unit):=
 (some ((cp11 x1.1.1 (3,(p12 x1.1.1),x1.1.2)),()))
def aC (x1:Z25):Option Z0:=
 (iter (σ:=(Z7×Unit)) F (fun(x2:((Z7×Unit)→(Option Z0)))=>(fun(x3:(Z7×Unit))=>br (leI 0 x3.1.2.2.1) (bnd (bS ((x3.1.1,x3.1.2.2),())) (fun x4=>x2 ((x3.1.1,(aJ .u64 (fE .u64 2 x3.1.2.1) (aF .u64 x4.1)),(cj .i64 x3.1.2.2.1 1),()),()))) (some ((aF .i64 x3.1.2.1),())))) ((x1.1.1,0,(cj .i64 (fE .i64 8 x1.1.2.1) 1),()),()))
def bw (x1:Z28):Option Z22:=
 (bnd (am ((x1.1.2.1,0,4096,()),())) (fun x2=>bnd (br (aQ x2.1) (some true) (bnd (am ((x1.1.2.2.1,0,(cj .i64 4096 x1.1.2.1),()),())) (fun x3=>some (aQ x3.1)))) (fun(x4:Bool)=>br x4 (some (false,())) (bnd (aX ((x1.1.1,(aJ .i64 16384 x1.1.2.1),x1.1.2.2),())) (fun x5=>some ((eqI x5.1 0),()))))))
def di (x1:Z38):Option (Z4×Unit):=
 (bnd (bU ((x1.1.1,()),())) (fun x2=>iter (σ:=Z41) F (fun(x3:(Z41→Z42))=>(fun(x4:Z41)=>br (ltI 0 (aA x4.1.2.1)) (bnd (aH (((x4.2.2.1,()),x4.1.1,()),())) (fun x5=>(let u5:=(aA (aD x4.2.2.1 x5.1 (au .page)).data);(let u0:=(cj .i64 x4.1.1 (aD x4.2.2.1 x5.1 (au .page)).base);(let u3:=(dW (aD x4.2.2.1 x5.1 (au .page)).data u0);(let u2:=(dW x4.1.2.1 (fA (aA x4.1.2.1) (cj .i64 256 u0)));(let u1:=(aJ .i64 u0 (fA (aA x4.1.2.1) (cj .i64 256 u0)));(let u4:=(fd (aD x4.2.2.1 x5.1 (au .page)).data u1);(br (inR x5.1 (aA x4.2.2.1)) (br (inR x5.1 (aA x4.2.2.1)) (br (inC u0 u5) (br (inC (fA (aA x4.1.2.1) (cj .i64 256 u0)) (aA x4.1.2.1)) (br (dR u3 u2) (br (inC u1 u5) (br (dR (dN u3 u2) u4) (br (inR x5.1 (aA x4.2.2.1)) (br (inC (fA (aA x4.1.2.1) (cj .i64 256 u0)) (aA x4.1.2.1)) (x3 (((aJ .i64 x4.1.1 (fA (aA x4.1.2.1) (cj .i64 256 u0))),(fd x4.1.2.1 (fA (aA x4.1.2.1) (cj .i64 256 u0))),()),(),(ea x4.2.2.1 x5.1 (Page.mk (aD x4.2.2.1 x5.1 (au .page)).base (aD x4.2.2.1 x5.1 (au .page)).perm (dN (dN u3 u2) u4))),(),())) none) none) none) none) none) none) none) none) none))))))))) (some ((x4.2.2.1,()),())))) (x1.1.2,(),x2.2.1,(),())))
def cQ (x1:Z36):Option Z10:=
 (let u1:=(cj .i64 (aA (p6 x1.1.1)) (p7 x1.1.1));(let u0:=(aJ .i64 (p7 x1.1.1) (fA x1.1.2.2.1 u1));(bnd (bw (((x1.1.1.2.2.2.1,()),x1.1.2.1,x1.1.2.2.1,2,()),())) (fun x2=>br (aQ x2.1) (some ((x1.1.1,(-14),()),())) (br (inC u0 (aA (p6 x1.1.1))) (br (inC (p7 x1.1.1) u0) (bnd (di (((x1.1.1.2.2.2.1,()),(aJ .i64 16384 x1.1.2.1),(fd (dW (p6 x1.1.1) u0) (p7 x1.1.1)),()),())) (fun x3=>some (((x1.1.1.1,x1.1.1.2.1,x1.1.1.2.2.1,x3.1.1,x1.1.1.2.2.2.2.1,(p5 x1.1.1),(p6 x1.1.1),u0,(d8 x1.1.1)),(fA x1.1.2.2.1 u1),()),()))) none) none)))))
def cw (x1:Z36):Option Z10:=
 (bnd (bw (((x1.1.1.2.2.2.1,()),x1.1.2.1,x1.1.2.2.1,1,()),())) (fun x2=>br (aQ x2.1) (some ((x1.1.1,(-14),()),())) (br (ltI (cj .i64 512 (aA (p8 x1.1.1))) x1.1.2.2.1) (some ((x1.1.1,(-28),()),())) (bnd (bT (((x1.1.1.2.2.2.1,()),(aJ .i64 16384 x1.1.2.1),x1.1.2.2),())) (fun x3=>br (dR (p8 x1.1.1) x3.1) (some (((cp8 x1.1.1 ((dN (p8 x1.1.1) x3.1),(d9 x1.1.1))),x1.1.2.2),())) none)))))
def dh (x1:Z31):Option (Z4×Unit):=
 (br (inC 256 256) (br (ni 256) (iter (σ:=Z44) F (fun(x2:(Z44→Z42))=>(fun(x3:Z44)=>br (ltI x3.1.2.2.1 (aA x3.2.1.1)) (bnd (br (aQ x3.1.2.1) (br (inR x3.1.2.2.1 (aA x3.2.1.1)) (some (ltI x3.1.1 (aD x3.2.1.1 x3.1.2.2.1 (au .page)).base)) none) (some false)) (fun(x4:Bool)=>bnd (br x4 (br (dR x3.2.2.2.1 ((Page.mk x3.2.2.2.2.1.1 x3.2.2.2.2.1.2.1 x3.2.2.2.2.1.2.2.1)::([]:List Page))) (some (Sum.inl ((x3.1.1,true,x3.1.2.2),x3.2.1,(),(dN x3.2.2.2.1 ((Page.mk x3.2.2.2.2.1.1 x3.2.2.2.2.1.2.1 x3.2.2.2.2.1.2.2.1)::([]:List Page))),x3.2.2.2.2))) none) (some (Sum.inl (x3.1,x3.2.1,(),x3.2.2.2)))) (fun(x5:(Sum Z44 (Z4×Unit)))=>jp x5 (fun x6=>br (inR x6.1.2.2.1 (aA x6.2.1.1)) (br (dR x6.2.2.2.1 ((aD x6.2.1.1 x6.1.2.2.1 (au .page))::([]:List Page))) (x2 ((x6.1.1,x6.1.2.1,(aJ .i64 x6.1.2.2.1 1),()),x6.2.1,(),(dN x6.2.2.2.1 ((aD x6.2.1.1 x6.1.2.2.1 (au .page))::([]:List Page))),x6.2.2.2.2)) none) none) some))) (bnd (br (aQ x3.1.2.1) (br (dR x3.2.2.2.1 ((Page.mk x3.2.2.2.2.1.1 x3.2.2.2.2.1.2.1 x3.2.2.2.2.1.2.2.1)::([]:List Page))) (some (Sum.inl ((),(),(dN x3.2.2.2.1 ((Page.mk x3.2.2.2.2.1.1 x3.2.2.2.2.1.2.1 x3.2.2.2.2.1.2.2.1)::([]:List Page))),()))) none) (some (Sum.inl ((),(),x3.2.2.2.1,())))) (fun(x7:(Sum Z45 (Z4×Unit)))=>jp x7 (fun x8=>some (x8.2.2,())) some)))) ((x1.1.2.1,false,0,()),x1.1.1,(),([]:List Page),(x1.1.2.1,x1.1.2.2.1,(fg (oe 256 (au .u))),()),())) none) none)
def ct (x1:Z10):Option Z10:=
 (bnd (am (((aJ .i64 (p5 x1.1.1) x1.1.2.1),x1.1.1.2.2.2.2.1,3584,()),())) (fun x2=>br (aQ x2.1) (some ((x1.1.1,(-12),()),())) (br (aQ (eqI 256 0)) (iter (σ:=Z46) F (fun(x3:(Z46→(Option Z10)))=>(fun(x4:Z46)=>br (ltI x4.1.2.1 x4.1.1) (bnd (aH ((x4.2.2.2.2.1,(aJ .i64 16384 x4.1.2.1),()),())) (fun x5=>br (leI 0 x5.1) (x3 ((x4.1.1,(aJ .i64 x4.1.2.1 256),()),x4.2)) (br (eqI (aA x4.2.2.2.2.1.1) 32) (some ((x4.2.1,(-12),()),())) (bnd (dh ((x4.2.2.2.2.1,(aJ .i64 16384 x4.1.2.1),3,()),())) (fun x6=>x3 ((x4.1.1,(aJ .i64 x4.1.2.1 256),()),x4.2.1,x4.2.2.1,x4.2.2.2.1,x6)))))) (some (((x4.2.1.1,x4.2.1.2.1,x4.2.1.2.2.1,x4.2.2.2.2.1.1,x4.2.1.2.2.2.2.1,x4.1.1,(d6 x4.2.1)),(p5 x4.2.1),()),())))) (((aJ .i64 (p5 x1.1.1) x1.1.2.1),(fE .i64 (sd .i64 x1.1.1.2.2.2.2.1 256) 256),()),x1.1.1,(([]:List Int),0,0,0,0,([]:List UInt8),0,([]:List UInt8),0,0,0,0,0,0,()),([]:List Page),(x1.1.1.2.2.2.1,()),())) none)))
def b6 (x1:Z10):Option Z10:=
 (bnd (aC (((aD x1.1.1.1 7 (au .i)),4,()),())) (fun x2=>bnd (aC (((aD x1.1.1.1 6 (au .i)),4,()),())) (fun x3=>br (eqI x1.1.2.1 1) (bnd (cQ ((x1.1.1,x2.1,x3),())) (fun x4=>some x4)) (br (eqI x1.1.2.1 2) (bnd (cw ((x1.1.1,x2.1,x3),())) (fun x5=>some x5)) (br (eqI x1.1.2.1 3) (bnd (aM ((x2.1,4,()),())) (fun x6=>bnd (ct ((x1.1.1,x6),())) (fun x7=>some x7))) (br (eqI x1.1.2.1 4) (some (((cp9 x1.1.1 ((fA (aJ .i64 (p9 x1.1.1) 1) 1000000),(d10 x1.1.1))),(p9 x1.1.1),()),())) (br (eqI x1.1.2.1 5) (some (((cp10 x1.1.1 ((gN (aJ .i64 (fE .i64 (p10 x1.1.1) 1103515245) 12345) 2147483648),(d11 x1.1.1))),(sd .i64 (gN (aJ .i64 (fE .i64 (p10 x1.1.1) 1103515245) 12345) 2147483648) 65536),()),())) (some ((x1.1.1,(-38),()),())))))))))
def cA (x1:((Z14×Z7)×Unit)):Option Z15:=
 (bnd (aC ((x1.1.2.2.2.1,x1.1.2.2.1,()),())) (fun x2=>bnd (br (leI 16 x1.1.2.1) (some (Sum.inl (((cj .i64 x1.1.2.1 16),x1.1.2.2.1,x2.1,8,()),x1.1.1,(([]:List Int),0,0,()),()))) (some (Sum.inl ((x1.1.2.1,x1.1.2.2.1,x2.1,0,()),x1.1.1,(([]:List Int),0,0,()),())))) (fun(x3:(Sum Z47 Z15))=>jp x3 (fun x4=>br (leI 4 x4.1.2.1) (br (inR x4.1.1 16) (some (((ea (jk 16 (au .i) x4.2.1.1) x4.1.1 x4.1.2.2.1),x4.2.1.2),())) none) (br (leI 0 (aF .u64 (fE .i64 8 x4.1.2.1))) (br (leI 0 (aF .u64 x4.1.2.2.2.1)) (br (inR x4.1.1 16) (br (leI 0 (aF .u64 x4.1.2.2.2.1)) (br (inR x4.1.1 16) (some (((ea (jk 16 (au .i) x4.2.1.1) x4.1.1 (aF .i64 (ior .u64 (gH .u64 (aF .u64 (aD x4.2.1.1 x4.1.1 (au .i))) (gR .u64 (cj .u64 (gR .u64 1 (aF .u64 (fE .i64 8 x4.1.2.1))) 1) (aF .u64 x4.1.2.2.2.1))) (gR .u64 (aF .u64 x4.1.2.2.1) (aF .u64 x4.1.2.2.2.1))))),x4.2.1.2),())) none) none) none) none) none)) some)))
def cP (x1:Z25):Option Z0:=
 (some ((aF .i64 (aJ .u64 (aF .u64 x1.1.1) (aF .u64 x1.1.2.1))),()))
def dg (x1:Z25):Option Z0:=
 (bnd (am ((x1.1.2.1,0,4095,()),())) (fun x2=>br (aQ x2.1) (some (0,())) (bnd (aC ((x1.1.1,4,()),())) (fun x3=>some ((aJ .i64 16384 (jq .i64 x3.1 x1.1.2.1)),())))))
def cu (x1:Z10):Option (Z9×Unit):=
 (br (eqI x1.1.2.1 0) (bnd (aM (((aD x1.1.1.1 7 (au .i)),4,()),())) (fun x2=>some ((cp11 x1.1.1 (2,x2.1,(d13 x1.1.1))),()))) (bnd (cf (((x1.1.1.2.2.2.1,()),(aD x1.1.1.1 4 (au .i)),8,()),())) (fun x3=>br (aQ (eqI x3.1.2.1 0)) (bnd (eH ((x1.1.1,x3.1.2.1,(aD x1.1.1.1 4 (au .i)),()),())) (fun x4=>some x4)) (bnd (b6 x1) (fun x5=>bnd (cA (((x5.1.1.1,x5.1.1.2.1,x5.1.1.2.2.1,()),0,4,x5.1.2),())) (fun x6=>bnd (cP (((aD x6.1.1 4 (au .i)),8,()),())) (fun x7=>bnd (dg ((x3.1.1,4064,()),())) (fun x8=>some (((ea (jk 16 (au .i) x6.1.1) 4 x7.1),x8.1,x6.1.2.2.1,x5.1.1.2.2.2),())))))))))
def dM (x1:Z10):Option Z10:=
 (bnd (dl x1) (fun x2=>bnd (br (eqI x2.1 1) (some true) (some (eqI x2.1 4))) (fun(x3:Bool)=>br x3 (some (((([]:List Int),0,0,([]:List Page),0,0,([]:List UInt8),0,([]:List UInt8),0,0,0,0,0,0,()),x2),())) (br (aQ (eqI x2.1 0)) (bnd (cB ((x1.1.1,()),())) (fun x4=>some ((x4.1,x2),()))) (bnd (cu x1) (fun x5=>bnd (cB (x5,())) (fun x6=>some ((x6.1,0,()),()))))))))
def da (x1:(Z0×Unit)):Option Z22:=
 (some ((eqI (gH .i64 x1.1.1 2245) 0),()))
def dG (x1:Z16):Option Z22:=
 (bnd (da (x1.1.1.2.2,())) (fun x2=>some x2))
def ae (x1:(Z7×Unit)):Option Z22:=
 (bnd (br (leI x1.1.2.1 x1.1.1) (some (leI x1.1.1 x1.1.2.2.1)) (some false)) (fun(x2:Bool)=>some (x2,())))
def ef (x1:(Z0×Unit)):Option Z22:=
 (bnd (ae ((x1.1.1,0,65535,()),())) (fun x2=>bnd (br x2.1 (some (eqI (gN x1.1.1 256) 0)) (some false)) (fun(x3:Bool)=>some (x3,()))))
def eh (x1:(Z0×Unit)):Option Z22:=
 (bnd (ae ((x1.1.1,0,7,()),())) (fun x2=>some x2))
def ck (x1:Z19):Option Z22:=
 (iter (σ:=Z48) F (fun(x2:(Z48→Z24))=>(fun(x3:Z48)=>br (ltI x3.1.2.2.1 x3.1.2.1) (br (inR x3.1.2.2.1 (aA x3.1.1)) (bnd (ef (((aD x3.1.1 x3.1.2.2.1 (au .page)).base,()),())) (fun x4=>br (aQ x4.1) (some (false,())) (bnd (eh (((aD x3.1.1 x3.1.2.2.1 (au .page)).perm,()),())) (fun x5=>br (aQ x5.1) (some (false,())) (br (aQ (eqI (aA (aD x3.1.1 x3.1.2.2.1 (au .page)).data) 256)) (some (false,())) (br (ltI 0 x3.1.2.2.1) (br (inR (cj .i64 x3.1.2.2.1 1) (aA x3.2.1.1)) (br (leI (aD x3.1.1 x3.1.2.2.1 (au .page)).base (aD x3.2.1.1 (cj .i64 x3.1.2.2.1 1) (au .page)).base) (some (false,())) (x2 ((x3.1.1,x3.1.2.1,(aJ .i64 x3.1.2.2.1 1),()),x3.2))) none) (x2 ((x3.1.1,x3.1.2.1,(aJ .i64 x3.1.2.2.1 1),()),x3.2)))))))) none) (some ((leI (aA x3.2.1.1) 32),())))) ((x1.1.1.1,(aA x1.1.1.1),0,()),x1.1))
def eg (x1:(Z0×Unit)):Option Z22:=
 (bnd (ae ((x1.1.1,512,3584,()),())) (fun x2=>some x2))
def ei (x1:(Z0×Unit)):Option Z22:=
 (bnd (ae ((x1.1.1,0,2147483647,()),())) (fun x2=>some x2))
def bv (x1:Z25):Option Z0:=
 (br (leI 0 (cj .i64 64 (fE .i64 8 x1.1.2.1))) (br (leI 0 (cj .i64 64 (fE .i64 8 x1.1.2.1))) (some ((rF .i64 (gR .i64 x1.1.1 (cj .i64 64 (fE .i64 8 x1.1.2.1))) (cj .i64 64 (fE .i64 8 x1.1.2.1))),())) none) none)
def dz (x1:Z25):Option Z22:=
 (bnd (bv x1) (fun x2=>some ((eqI x2.1 x1.1.1),())))
def bW (x1:Z20):Option Z22:=
 (br (eqI (p11 x1.1.1) 1) (bnd (br (eqI (p12 x1.1.1) 0) (some (eqI (p13 x1.1.1) 0)) (some false)) (fun(x2:Bool)=>bnd (br x2 (some (eqI (p14 x1.1.1) 0)) (some false)) (fun(x3:Bool)=>some (x3,())))) (br (eqI (p11 x1.1.1) 2) (bnd (dz (((p12 x1.1.1),4,()),())) (fun x4=>bnd (br x4.1 (some (eqI (p13 x1.1.1) 0)) (some false)) (fun(x5:Bool)=>bnd (br x5 (some (eqI (p14 x1.1.1) 0)) (some false)) (fun(x6:Bool)=>some (x6,()))))) (br (eqI (p11 x1.1.1) 3) (bnd (br (eqI (p12 x1.1.1) 0) (bnd (ae (((p13 x1.1.1),1,35,()),())) (fun x7=>some x7.1)) (some false)) (fun(x8:Bool)=>some (x8,()))) (some (false,())))))
def dF (x1:Z20):Option Z22:=
 (bnd (dG (((x1.1.1.1,x1.1.1.2.1,x1.1.1.2.2.1,()),()),())) (fun x2=>bnd (br x2.1 (bnd (ck (((x1.1.1.2.2.2.1,()),()),())) (fun x3=>some x3.1)) (some false)) (fun(x4:Bool)=>bnd (br x4 (bnd (eg ((x1.1.1.2.2.2.2.1,()),())) (fun x5=>some x5.1)) (some false)) (fun(x6:Bool)=>bnd (br x6 (bnd (ae (((p5 x1.1.1),x1.1.1.2.2.2.2.1,3584,()),())) (fun x7=>some x7.1)) (some false)) (fun(x8:Bool)=>bnd (br x8 (some (leI (aA (p6 x1.1.1)) 1024)) (some false)) (fun(x9:Bool)=>bnd (br x9 (bnd (ae (((p7 x1.1.1),0,(aA (p6 x1.1.1)),()),())) (fun x10=>some x10.1)) (some false)) (fun(x11:Bool)=>bnd (br x11 (some (leI (aA (p8 x1.1.1)) 512)) (some false)) (fun(x12:Bool)=>bnd (br x12 (bnd (ae (((p9 x1.1.1),0,1000000,()),())) (fun x13=>some x13.1)) (some false)) (fun(x14:Bool)=>bnd (br x14 (bnd (ei (((p10 x1.1.1),()),())) (fun x15=>some x15.1)) (some false)) (fun(x16:Bool)=>bnd (br x16 (bnd (bW x1) (fun x17=>some x17.1)) (some false)) (fun(x18:Bool)=>some (x18,()))))))))))))
def bq (x1:Z10):Option Z0:=
 (bnd (dF ((x1.1.1,()),())) (fun x2=>br (aQ x2.1) (some (1,())) (bnd (ae ((x1.1.2.1,0,7,()),())) (fun x3=>br (aQ x3.1) (some (4,())) (br (aQ (eqI (p11 x1.1.1) 1)) (some (35,())) (some (0,())))))))
def aw (x1:(Z4×Unit)):Option (Unit×Z4):=
 (br (eqI (aA x1.1.1) 0) (eqO (some ((),([]:List Page),())) (br (dR ([]:List Page) x1.1.1) (some ((),(dN ([]:List Page) x1.1.1),())) none)) (br (dR ([]:List Page) x1.1.1) (some ((),(dN ([]:List Page) x1.1.1),())) none))
def aL (x1:Z19):Option (Unit×Z4):=
 (bnd (aw x1.1) (fun x2=>some ((),x2.2)))
def b9 (x1:Z20):Option (Z21×Z4):=
 (bnd (aL (((x1.1.1.2.2.2.1,()),()),())) (fun x2=>some ((x1.1.1.1,x1.1.1.2.1,x1.1.1.2.2.1,x1.1.1.2.2.2.2),x2.2)))
def bo (x1:(Z17×(Z0×Unit))):Option Z49:=
 (some ((eqI x1.1.1.base (cj .i64 x1.2.1.1 (gN x1.2.1.1 256))),x1.2))
def ah (x1:(Z4×(Z0×Unit))):Option Z50:=
 (iter (σ:=Z51) F (fun(x2:(Z51→(Option Z50)))=>(fun(x3:Z51)=>br (ltI x3.1.2.2.1 x3.1.2.1) (br (inR x3.1.2.2.1 (aA x3.1.1)) (bnd (bo (((aD x3.1.1 x3.1.2.2.1 (au .page)),()),x3.2)) (fun x4=>br x4.1 (some (x3.1.2.2.1,x3.2)) (x2 ((x3.1.1,x3.1.2.1,(aJ .i64 x3.1.2.2.1 1),()),x3.2)))) none) (some ((-1),x3.2)))) ((x1.1.1,(aA x1.1.1),0,()),x1.2))
def an (x1:Z5):Option Z0:=
 (bnd (ae ((x1.1.2.1,0,65535,()),())) (fun x2=>br (aQ x2.1) (some ((-1),())) (bnd (ah (x1.1.1,x1.1.2,())) (fun x3=>some (x3.1,())))))
def bh (x1:Z28):Option Z0:=
 (iter (σ:=Z29) F (fun(x2:Z30)=>(fun(x3:Z29)=>br (ltI x3.1.2.2.2.1 x3.1.2.2.1) (bnd (an ((x3.2.1,(aJ .i64 x3.1.1 x3.1.2.2.2.1),()),())) (fun x4=>br (ltI x4.1 0) (some (13,())) (bnd (br (aQ (eqI x3.1.2.1 0)) (br (inR x4.1 (aA x3.2.1.1)) (some (eqI (jq .i64 (aD x3.2.1.1 x4.1 (au .page)).perm x3.1.2.1) 0)) none) (some false)) (fun(x5:Bool)=>br x5 (some (14,())) (x2 ((x3.1.1,x3.1.2.1,x3.1.2.2.1,(aJ .i64 x3.1.2.2.2.1 1),()),x3.2)))))) (some (0,())))) ((x1.1.2.1,x1.1.2.2.2.1,x1.1.2.2.1,0,()),x1.1.1,()))
def aI (x1:Z31):Option (Z6×Unit):=
 (br (inC x1.1.2.2.1 x1.1.2.2.1) (br (ni x1.1.2.2.1) (iter (σ:=Z32) F (fun(x2:(Z32→Z33))=>(fun(x3:Z32)=>br (ltI x3.1.2.2.1 x3.1.2.1) (bnd (an ((x3.2.1,(aJ .i64 x3.1.1 x3.1.2.2.1),()),())) (fun x4=>br (inR x4.1 (aA x3.2.1.1)) (br (inR (gN (aJ .i64 x3.1.1 x3.1.2.2.1) 256) (aA (aD x3.2.1.1 x4.1 (au .page)).data)) (br (inR x3.1.2.2.1 (aA x3.2.2.1)) (x2 ((x3.1.1,x3.1.2.1,(aJ .i64 x3.1.2.2.1 1),()),x3.2.1,(ea x3.2.2.1 x3.1.2.2.1 (fL (aD x3.2.1.1 x4.1 (au .page)).data (gN (aJ .i64 x3.1.1 x3.1.2.2.1) 256))),())) none) none) none)) (some ((fg x3.2.2.1),())))) ((x1.1.2.1,(aA (oe x1.1.2.2.1 (au .u))),0,()),x1.1.1,(oe x1.1.2.2.1 (au .u)),())) none) none)
def eG (x1:((Z6×Unit)×Unit)):Option Z0:=
 (iter (σ:=Z34) F (fun(x2:Z35)=>(fun(x3:Z34)=>br (ltI x3.1.2.2.2.1 x3.1.2.2.1) (br (inR x3.1.2.2.2.1 (aA x3.1.1)) (br (leI 0 (fE .i64 8 x3.1.2.2.2.1)) (x2 ((x3.1.1,(ior .i64 x3.1.2.1 (gR .i64 (aF .i64 (fL x3.1.1 x3.1.2.2.2.1)) (fE .i64 8 x3.1.2.2.2.1))),x3.1.2.2.1,(aJ .i64 x3.1.2.2.2.1 1),()),())) none) none) (some (x3.1.2.1,())))) ((x1.1.1,0,(aA x1.1.1),0,()),()))
def aY (x1:Z31):Option Z25:=
 (bnd (bh ((x1.1.1,x1.1.2.1,x1.1.2.2.1,1,()),())) (fun x2=>br (aQ (eqI x2.1 0)) (some ((0,x2),())) (bnd (aI x1) (fun x3=>bnd (eG (x3,())) (fun x4=>some ((x4.1,0,()),()))))))
def eF (x1:Z52):Option Z53:=
 (some ((),(cp10 x1.2.1 (3,(p11 x1.2.1),x1.1)),x1.2.2))
def aV (x1:(Z0×Unit)):Option Z22:=
 (bnd (ae ((x1.1.1,16,19,()),())) (fun x2=>some x2))
def bj (x1:Z25):Option Z0:=
 (br (eqI x1.1.2.1 8) (some (x1.1.1,())) (br (leI 0 (fE .i64 8 x1.1.2.1)) (some ((jq .i64 x1.1.1 (cj .i64 (gR .i64 1 (fE .i64 8 x1.1.2.1)) 1)),())) none))
def aB (x1:Z28):Option Z22:=
 (bnd (ae ((x1.1.2.1,0,4096,()),())) (fun x2=>bnd (br (aQ x2.1) (some true) (bnd (ae ((x1.1.2.2.1,0,(cj .i64 4096 x1.1.2.1),()),())) (fun x3=>some (aQ x3.1)))) (fun(x4:Bool)=>br x4 (some (false,())) (iter (σ:=Z29) F (fun(x5:(Z29→Z24))=>(fun(x6:Z29)=>br (ltI x6.1.2.2.2.1 x6.1.2.2.1) (bnd (an ((x6.2.1,(aJ .i64 (aJ .i64 16384 x6.1.1) x6.1.2.2.2.1),()),())) (fun x7=>bnd (br (ltI x7.1 0) (some true) (br (inR x7.1 (aA x6.2.1.1)) (some (eqI (jq .i64 (aD x6.2.1.1 x7.1 (au .page)).perm x6.1.2.1) 0)) none)) (fun(x8:Bool)=>br x8 (some (false,())) (x5 ((x6.1.1,x6.1.2.1,x6.1.2.2.1,(aJ .i64 x6.1.2.2.2.1 1),()),x6.2))))) (some (true,())))) ((x1.1.2.1,x1.1.2.2.2.1,x1.1.2.2.1,0,()),x1.1.1,())))))
def bH (x1:Z38):Option (Unit×Z4):=
 (bnd (aL ((x1.1.1,()),())) (fun x2=>iter (σ:=Z54) F (fun(x3:(Z54→Z18))=>(fun(x4:Z54)=>(let u1:=(dW x4.1.2.1 (fA (aA x4.1.2.1) (cj .i64 256 (gN x4.1.1 256))));(let u0:=(aJ .i64 (gN x4.1.1 256) (fA (aA x4.1.2.1) (cj .i64 256 (gN x4.1.1 256))));(br (ltI 0 (aA x4.1.2.1)) (bnd (an ((x4.2.1,x4.1.1,()),())) (fun x5=>(let u4:=(aA (aD x4.2.2.2.2.1 x5.1 (au .page)).data);(let u3:=(fd (aD x4.2.2.2.2.1 x5.1 (au .page)).data u0);(let u2:=(dW (aD x4.2.2.2.2.1 x5.1 (au .page)).data (gN x4.1.1 256));(br (inR x5.1 (aA x4.2.2.2.2.1)) (br (inC (gN x4.1.1 256) u4) (br (inC (fA (aA x4.1.2.1) (cj .i64 256 (gN x4.1.1 256))) (aA x4.1.2.1)) (br (dR u2 u1) (br (inC u0 u4) (br (dR (dN u2 u1) u3) (br (inC (fA (aA x4.1.2.1) (cj .i64 256 (gN x4.1.1 256))) (aA x4.1.2.1)) (x3 (((aJ .i64 x4.1.1 (fA (aA x4.1.2.1) (cj .i64 256 (gN x4.1.1 256)))),(fd x4.1.2.1 (fA (aA x4.1.2.1) (cj .i64 256 (gN x4.1.1 256)))),()),x4.2.1,(),(),(ea x4.2.2.2.2.1 x5.1 (Page.mk (aD x4.2.2.2.2.1 x5.1 (au .page)).base (aD x4.2.2.2.2.1 x5.1 (au .page)).perm (dN (dN u2 u1) u3))),())) none) none) none) none) none) none) none)))))) (some ((),x4.2.2.2.2))))))) (x1.1.2,x1.1.1,(),(),x2.2)))
def bf (x1:Z52):Option Z55:=
 (let u1:=(cj .i64 (aA (p5 x1.2.1)) (p6 x1.2.1));(let u0:=(aJ .i64 (p6 x1.2.1) (fA x1.1.2.1 u1));(bnd (aB ((x1.2.2,x1.1.1,x1.1.2.1,2,()),())) (fun x2=>br (aQ x2.1) (some ((-14),x1.2)) (br (inC u0 (aA (p5 x1.2.1))) (br (inC (p6 x1.2.1) u0) (bnd (bH ((x1.2.2,(aJ .i64 16384 x1.1.1),(fd (dW (p5 x1.2.1) u0) (p6 x1.2.1)),()),())) (fun x3=>some ((fA x1.1.2.1 u1),(cp6 x1.2.1 (u0,(d7 x1.2.1))),x3.2))) none) none)))))
def aR (x1:Z52):Option Z55:=
 (bnd (aB ((x1.2.2,x1.1.1,x1.1.2.1,1,()),())) (fun x2=>br (aQ x2.1) (some ((-14),x1.2)) (br (ltI 512 (aJ .i64 (aA (p7 x1.2.1)) x1.1.2.1)) (some ((-28),x1.2)) (bnd (aI ((x1.2.2,(aJ .i64 16384 x1.1.1),x1.1.2),())) (fun x3=>br (dR (p7 x1.2.1) x3.1) (some (x1.1.2.1,(cp7 x1.2.1 ((dN (p7 x1.2.1) x3.1),(d8 x1.2.1))),x1.2.2)) none)))))
def bp (x1:((Z6×Z0)×Unit)):Option (Z6×Unit):=ku x1.1.1 x1.1.2.1
def bE (x1:(Z17×Z43)):Option Z56:=
 (some ((ltI x1.2.1.1 x1.1.1.base),x1.2))
def aj (x1:(Z4×Z43)):Option (Int×Z43):=
 (iter (σ:=(Z2×Z43)) F (fun(x2:((Z2×Z43)→(Option (Int×Z43))))=>(fun(x3:(Z2×Z43))=>br (ltI x3.1.2.2.1 x3.1.2.1) (br (inR x3.1.2.2.1 (aA x3.1.1)) (bnd (bE (((aD x3.1.1 x3.1.2.2.1 (au .page)),()),x3.2)) (fun x4=>br x4.1 (some (x3.1.2.2.1,x3.2)) (x2 ((x3.1.1,x3.1.2.1,(aJ .i64 x3.1.2.2.1 1),()),x3.2)))) none) (some ((-1),x3.2)))) ((x1.1.1,(aA x1.1.1),0,()),x1.2))
def aZ (x1:((Z4×Z17)×Unit)):Option (Unit×Z4):=
 (bnd (aj (x1.1.1,(x1.1.2.1.base,x1.1.2.1.perm,x1.1.2.1.data,()),())) (fun x2=>bnd (br (ltI x2.1 0) (some (Sum.inl (((aA x1.1.1.1),()),x1.1.1,(x1.1.2.1.base,x1.1.2.1.perm,x1.1.2.1.data,()),(),()))) (some (Sum.inl ((x2.1,()),x1.1.1,(x1.1.2.1.base,x1.1.2.1.perm,x1.1.2.1.data,()),(),())))) (fun(x3:(Sum Z57 (Unit×Z4)))=>jp x3 (fun x4=>bnd (aw (x4.2.1,())) (fun x5=>br (nm x5.2.1 x4.1.1) (some ((),(me x5.2.1 x4.1.1 (Page.mk x4.2.2.1.1 x4.2.2.1.2.1 x4.2.2.1.2.2.1)),())) none)) some)))
def be (x1:Z58):Option Z55:=
 (bnd (ae (((aJ .i64 x1.2.1.2.2.2.2.1 x1.1.1),x1.2.1.2.2.2.1,3584,()),())) (fun x2=>br (aQ x2.1) (some ((-12),x1.2)) (br (aQ (eqI 256 0)) (iter (σ:=Z61) F (fun(x3:(Z61→(Option Z55)))=>(fun(x4:Z61)=>jp x4 (fun x5=>br (ltI x5.1.2.1 (aJ .i64 x5.2.1.2.2.2.2.1 x5.1.1)) (bnd (an (((x5.2.2.1,()),(aJ .i64 16384 x5.1.2.1),()),())) (fun x6=>br (leI 0 x6.1) (x3 (Sum.inl ((x5.1.1,(aJ .i64 x5.1.2.1 256),()),x5.2.1,x5.2.2.1,(),()))) (br (eqI (aA x5.2.2.1) 32) (some ((-12),x5.2.1,x5.2.2.1,())) (bnd (bp (((0::([]:List UInt8)),256,()),())) (fun x7=>bnd (aZ (((x5.2.2.1,()),(Page.mk (aJ .i64 16384 x5.1.2.1) 3 x7.1),()),())) (fun x8=>x3 (Sum.inr ((x5.1.1,(aJ .i64 x5.1.2.1 256),()),x5.2.1,x5.2.2.1,(),x8.2)))))))) (some (x5.2.1.2.2.2.2.1,(x5.2.1.1,x5.2.1.2.1,x5.2.1.2.2.1,x5.2.1.2.2.2.1,(aJ .i64 x5.2.1.2.2.2.2.1 x5.1.1),(d5 x5.2.1)),x5.2.2.1,()))) (fun(x9:Z60)=>br (ltI x9.1.2.1 (aJ .i64 x9.2.1.2.2.2.2.1 x9.1.1)) (bnd (an ((x9.2.2.2.2,(aJ .i64 16384 x9.1.2.1),()),())) (fun x10=>br (leI 0 x10.1) (x3 (Sum.inr ((x9.1.1,(aJ .i64 x9.1.2.1 256),()),x9.2.1,x9.2.2.1,(),x9.2.2.2.2))) (br (eqI (aA x9.2.2.2.2.1) 32) (some ((-12),x9.2.1,x9.2.2.1,())) (bnd (bp (((0::([]:List UInt8)),256,()),())) (fun x11=>bnd (aZ ((x9.2.2.2.2,(Page.mk (aJ .i64 16384 x9.1.2.1) 3 x11.1),()),())) (fun x12=>x3 (Sum.inr ((x9.1.1,(aJ .i64 x9.1.2.1 256),()),x9.2.1,x9.2.2.1,(),x12.2)))))))) (some (x9.2.1.2.2.2.2.1,(x9.2.1.1,x9.2.1.2.1,x9.2.1.2.2.1,x9.2.1.2.2.2.1,(aJ .i64 x9.2.1.2.2.2.2.1 x9.1.1),(d5 x9.2.1)),x9.2.2.2.2))))) (Sum.inl ((x1.1.1,(cj .i64 x1.2.1.2.2.2.1 (gN x1.2.1.2.2.2.1 256)),()),x1.2.1,x1.2.2.1,(),()))) none)))
def bG (x1:Z58):Option Z55:=
 (bnd (aV ((7,()),())) (fun x2=>br x2.1 none (bnd (bj (((aD x1.2.1.1 7 (au .i)),4,()),())) (fun x3=>bnd (aV ((6,()),())) (fun x4=>br x4.1 none (bnd (bj (((aD x1.2.1.1 6 (au .i)),4,()),())) (fun x5=>br (eqI x1.1.1 1) (bnd (bf ((x3.1,x5),x1.2)) (fun x6=>some (x6.1,(cp6 x1.2.1 ((p6 x6.2.1),(d7 x1.2.1))),x6.2.2))) (br (eqI x1.1.1 2) (bnd (aR ((x3.1,x5),x1.2)) (fun x7=>some (x7.1,(cp7 x1.2.1 ((p7 x7.2.1),(d8 x1.2.1))),x7.2.2))) (br (eqI x1.1.1 3) (bnd (bv ((x3.1,4,()),())) (fun x8=>bnd (be (x8,x1.2)) (fun x9=>some (x9.1,(x1.2.1.1,x1.2.1.2.1,x1.2.1.2.2.1,x1.2.1.2.2.2.1,x9.2.1.2.2.2.2.1,(d5 x1.2.1)),x9.2.2)))) (br (eqI x1.1.1 4) (some ((p8 x1.2.1),(cp8 x1.2.1 ((fA (aJ .i64 (p8 x1.2.1) 1) 1000000),(d9 x1.2.1))),x1.2.2)) (br (eqI x1.1.1 5) (some ((rF .i64 (jq .i64 (aJ .i64 (fE .i64 1103515245 (p9 x1.2.1)) 12345) 2147483647) 16),(cp9 x1.2.1 ((jq .i64 (aJ .i64 (fE .i64 1103515245 (p9 x1.2.1)) 12345) 2147483647),(d10 x1.2.1))),x1.2.2)) (some ((-38),x1.2)))))))))))))
def c9 (x1:Z25):Option Z0:=
 (bnd (ae ((x1.1.2.1,0,4095,()),())) (fun x2=>br (aQ x2.1) (some (0,())) (some ((aJ .i64 16384 (jq .i64 x1.1.1 x1.1.2.1)),()))))
def bX (x1:Z58):Option Z53:=
 (br (eqI x1.1.1 0) (bnd (bv (((aD x1.2.1.1 7 (au .i)),4,()),())) (fun x2=>some ((),(cp10 x1.2.1 (2,x2.1,(d12 x1.2.1))),x1.2.2))) (bnd (aY ((x1.2.2,(aD x1.2.1.1 4 (au .i)),8,()),())) (fun x3=>br (aQ (eqI x3.1.2.1 0)) (bnd (eF ((x3.1.2.1,(aD x1.2.1.1 4 (au .i)),()),x1.2)) (fun x4=>some ((),(cp10 x1.2.1 ((p10 x4.2.1),(p11 x1.2.1),(d12 x4.2.1))),x4.2.2))) (bnd (bG x1) (fun x5=>bnd (aV ((0,()),())) (fun x6=>br x6.1 none (bnd (bj ((x5.1,4,()),())) (fun x7=>bnd (c9 ((x3.1.1,4064,()),())) (fun x8=>some ((),((ea (jk 16 (au .i) (ea (jk 16 (au .i) x1.2.1.1) 0 x7.1)) 4 (aJ .i64 (aD (ea (jk 16 (au .i) x1.2.1.1) 0 x7.1) 4 (au .i)) 8)),x8.1,x1.2.1.2.2.1,x1.2.1.2.2.2.1,x5.2.1.2.2.2.2.1,(p5 x1.2.1),(p6 x5.2.1),(p7 x5.2.1),(p8 x5.2.1),(p9 x5.2.1),(d10 x1.2.1)),x5.2.2))))))))))
def cY (x1:Z10):Option Z62:=
 (bnd (bq x1) (fun x2=>br (eqI x2.1 0) (bnd (b9 ((x1.1.1,()),())) (fun x3=>bnd (bX (x1.1.2,x3)) (fun x4=>some (((x4.2.1.1,x4.2.1.2.1,x3.1.2.2.1,x3.1.2.2.2.1,x4.2.1.2.2.2.2.1,(p5 x3.1),(d6 x4.2.1)),0,()),x4.2.2)))) (br (eqI x2.1 35) (bnd (b9 ((x1.1.1,()),())) (fun x5=>some ((x5.1,x2),x5.2))) (some (((([]:List Int),0,0,0,0,([]:List UInt8),0,([]:List UInt8),0,0,0,0,0,0,()),x2),([]:List Page),())))))
def cl (x1:((Z11×Z12)×Unit)):Option Z22:=
 (iter (σ:=Z63) F (fun(x2:(Z63→Z24))=>(fun(x3:Z63)=>br (ltI x3.1.1 16) (br (inR x3.1.1 16) (br (inR x3.1.1 16) (br (aQ (eqI (aD x3.2.1.1 x3.1.1 (au .i)) (aD x3.2.2.1.1 x3.1.1 (au .i)))) (some (false,())) (x2 (((aJ .i64 x3.1.1 1),()),x3.2))) none) none) (some (true,())))) ((0,()),x1.1))
def dH (x1:((Z14×Z15)×Unit)):Option Z22:=
 (bnd (cl (((x1.1.1.1,()),(x1.1.2.1.1,()),()),())) (fun x2=>br (aQ x2.1) (some (false,())) (br (aQ (eqI x1.1.1.2.1 x1.1.2.1.2.1)) (some (false,())) (br (aQ (eqI x1.1.1.2.2.1 x1.1.2.1.2.2.1)) (some (false,())) (some (true,()))))))
def db (x1:((Page×Z17)×Unit)):Option Z22:=
 (br (aQ (eqI x1.1.1.base x1.1.2.1.base)) (some (false,())) (br (aQ (eqI x1.1.1.perm x1.1.2.1.perm)) (some (false,())) (br (aQ (eqS x1.1.1.data x1.1.2.1.data)) (some (false,())) (some (true,())))))
def cJ (x1:(((List Page)×Z4)×Unit)):Option Z22:=
 (br (aQ (eqI (aA x1.1.1) (aA x1.1.2.1))) (some (false,())) (iter (σ:=Z64) F (fun(x2:(Z64→Z24))=>(fun(x3:Z64)=>br (ltI x3.1.2.2.1 (aA x3.1.1)) (br (inR x3.1.2.2.1 (aA x3.1.1)) (br (inR x3.1.2.2.1 (aA x3.1.2.1)) (bnd (db (((aD x3.1.1 x3.1.2.2.1 (au .page)),(aD x3.1.2.1 x3.1.2.2.1 (au .page)),()),())) (fun x4=>br (aQ x4.1) (some (false,())) (x2 ((x3.1.1,x3.1.2.1,(aJ .i64 x3.1.2.2.1 1),()),())))) none) none) (some (true,())))) ((x1.1.1,x1.1.2.1,0,()),())))
def cm (x1:((Z4×(Z4×Unit))×Unit)):Option Z22:=
 (bnd (cJ ((x1.1.1.1,x1.1.2.1),())) (fun x2=>br (aQ x2.1) (some (false,())) (some (true,()))))
def bQ (x1:((Z9×(Z9×Unit))×Unit)):Option Z22:=
 (bnd (dH (((x1.1.1.1,x1.1.1.2.1,x1.1.1.2.2.1,()),(x1.1.2.1.1,x1.1.2.1.2.1,x1.1.2.1.2.2.1,()),()),())) (fun x2=>br (aQ x2.1) (some (false,())) (bnd (cm (((x1.1.1.2.2.2.1,()),(x1.1.2.1.2.2.2.1,()),()),())) (fun x3=>br (aQ x3.1) (some (false,())) (br (aQ (eqI x1.1.1.2.2.2.2.1 x1.1.2.1.2.2.2.2.1)) (some (false,())) (br (aQ (eqI (p5 x1.1.1) (p5 x1.1.2.1))) (some (false,())) (br (aQ (eqS (p6 x1.1.1) (p6 x1.1.2.1))) (some (false,())) (br (aQ (eqI (p7 x1.1.1) (p7 x1.1.2.1))) (some (false,())) (br (aQ (eqS (p8 x1.1.1) (p8 x1.1.2.1))) (some (false,())) (br (aQ (eqI (p9 x1.1.1) (p9 x1.1.2.1))) (some (false,())) (br (aQ (eqI (p10 x1.1.1) (p10 x1.1.2.1))) (some (false,())) (br (aQ (eqI (p11 x1.1.1) (p11 x1.1.2.1))) (some (false,())) (br (aQ (eqI (p12 x1.1.1) (p12 x1.1.2.1))) (some (false,())) (br (aQ (eqI (p13 x1.1.1) (p13 x1.1.2.1))) (some (false,())) (br (aQ (eqI (p14 x1.1.1) (p14 x1.1.2.1))) (some (false,())) (some (true,())))))))))))))))))
def aN (x1:(Z0×Unit)):Option (Z6×Unit):=
 (br (leI x1.1.1 0) (some ((109::(48::([]:List UInt8))),())) (iter (σ:=Z65) F (fun(x2:(Z65→Z33))=>(fun(x3:Z65)=>br (ltI 0 x3.1.1) (br (dR (fg ((aF .u8 (aJ .i64 48 (gN x3.1.1 10)))::([]:List Int))) x3.1.2.1) (x2 (((sd .i64 x3.1.1 10),(dN (fg ((aF .u8 (aJ .i64 48 (gN x3.1.1 10)))::([]:List Int))) x3.1.2.1),()),())) none) (br (dR (109::([]:List UInt8)) x3.1.2.1) (some ((dN (109::([]:List UInt8)) x3.1.2.1),())) none))) ((x1.1.1,([]:List UInt8),()),())))
def bZ (x1:(Z0×Z4)):Option (Int×Z4):=
 (iter (σ:=Z66) F (fun(x2:(Z66→(Option (Int×Z4))))=>(fun(x3:Z66)=>(let u2:=(aJ .i64 (aJ .i64 x3.1.1 1) 1);(let u1:=(ea x3.2.1 x3.1.2.1 (Page.mk x3.1.1 (aD x3.2.1 x3.1.2.1 (au .page)).perm (aD x3.2.1 x3.1.2.1 (au .page)).data));(let u0:=(ea u1 x3.1.2.1 (Page.mk (aD u1 x3.1.2.1 (au .page)).base (aJ .i64 x3.1.1 1) (aD u1 x3.1.2.1 (au .page)).data));(br (ltI x3.1.2.1 (aA x3.2.1)) (br (inR x3.1.2.1 (aA x3.2.1)) (br (inR x3.1.2.1 (aA u1)) (bnd (aN ((u2,()),())) (fun x4=>br (inR x3.1.2.1 (aA u0)) (x2 (((aJ .i64 u2 1),(aJ .i64 x3.1.2.1 1),()),(ea u0 x3.1.2.1 (Page.mk (aD u0 x3.1.2.1 (au .page)).base (aD u0 x3.1.2.1 (au .page)).perm x4.1)),())) none)) none) none) (some (x3.1.1,x3.2)))))))) ((x1.1.1,0,()),x1.2))
def bJ (x1:((Unit×Z0)×Z4)):Option (Int×Z4):=
 (bnd (bZ (x1.1.2,x1.2)) (fun x2=>some x2))
def ce (x1:Z62):Option (Int×Z4):=
 (bnd (bJ (((),x1.1.2),x1.2)) (fun x2=>some x2))
def bY (x1:(Z1×Unit)):Option Z0:=
 (iter (σ:=(Z2×Unit)) F (fun(x2:Z3)=>(fun(x3:(Z2×Unit))=>br (ltI x3.1.2.2.1 (aA x3.1.1)) (br (inR x3.1.2.2.1 (aA x3.1.1)) (br (aQ (eqI (aD x3.1.1 x3.1.2.2.1 (au .page)).base x3.1.2.1)) (some ((-1),())) (br (inR x3.1.2.2.1 (aA x3.1.1)) (br (aQ (eqI (aD x3.1.1 x3.1.2.2.1 (au .page)).perm (aJ .i64 x3.1.2.1 1))) (some ((-1),())) (br (inR x3.1.2.2.1 (aA x3.1.1)) (bnd (aN (((aJ .i64 (aJ .i64 x3.1.2.1 1) 1),()),())) (fun x4=>br (aQ (eqS (aD x3.1.1 x3.1.2.2.1 (au .page)).data x4.1)) (some ((-1),())) (x2 ((x3.1.1,(aJ .i64 (aJ .i64 (aJ .i64 x3.1.2.1 1) 1) 1),(aJ .i64 x3.1.2.2.1 1),()),())))) none)) none)) none) (some (x3.1.2.1,())))) ((x1.1.1,x1.1.2.1,0,()),()))
def bI (x1:Z5):Option Z0:=
 (bnd (bY ((x1.1.1.1,x1.1.2),())) (fun x2=>br (ltI x2.1 0) (some ((-1),())) (some x2)))
def cc (x1:Z10):Option Z0:=
 (bnd (bI (((x1.1.1.2.2.2.1,()),x1.1.2),())) (fun x2=>br (ltI x2.1 0) (some ((-1),())) (some x2)))
def aT (x1:Z10):Option Z22:=
 (bnd (dI ((x1.1.1,1048576,()),())) (fun x2=>br (ltI x2.1 0) (some (true,())) (bnd (bR ((x1.1.1,()),())) (fun x3=>bnd (dM (((x3.1.1,x3.1.2.1,x3.1.2.2.1,x3.2.1,x3.1.2.2.2),x1.1.2),())) (fun x4=>bnd (bR ((x1.1.1,()),())) (fun x5=>bnd (cY (((x5.1.1,x5.1.2.1,x5.1.2.2.1,x5.2.1,x5.1.2.2.2),x1.1.2),())) (fun x6=>bnd (bQ (((x6.1.1.1,x6.1.1.2.1,x6.1.1.2.2.1,x6.2.1,x6.1.1.2.2.2),x4.1.1,()),())) (fun x7=>bnd (br (aQ x7.1) (some true) (some (aQ (eqI x6.1.2.1 x4.1.2.1)))) (fun(x8:Bool)=>br x8 (some (false,())) (bnd (bR ((x1.1.1,()),())) (fun x9=>bnd (bQ (((x5.1.1,x5.1.2.1,x5.1.2.2.1,x5.2.1,x5.1.2.2.2),(x9.1.1,x9.1.2.1,x9.1.2.2.1,x9.2.1,x9.1.2.2.2),()),())) (fun x10=>br (aQ x10.1) (some (false,())) (bnd (ce ((x5.1,1,()),x5.2)) (fun x11=>bnd (br (ltI x11.1 0) (some true) (bnd (bQ (((x6.1.1.1,x6.1.1.2.1,x6.1.1.2.2.1,x6.2.1,x6.1.1.2.2.2),x4.1.1,()),())) (fun x12=>some (aQ x12.1)))) (fun(x13:Bool)=>bnd (br x13 (some true) (some (aQ (eqI x6.1.2.1 x4.1.2.1)))) (fun(x14:Bool)=>br x14 (some (false,())) (bnd (ce ((x6.1.1,1,()),x6.2)) (fun x15=>bnd (cc (((x6.1.1.1,x6.1.1.2.1,x6.1.1.2.2.1,x15.2.1,x6.1.1.2.2.2),1,()),())) (fun x16=>br (ltI x16.1 0) (some (false,())) (br (aQ (eqI x16.1 x15.1)) (some (false,())) (bnd (bR ((x1.1.1,()),())) (fun x17=>bnd (cY (((x17.1.1,x17.1.2.1,x17.1.2.2.1,x17.2.1,x17.1.2.2.2),x1.1.2),())) (fun x18=>bnd (bQ (((x18.1.1.1,x18.1.1.2.1,x18.1.1.2.2.1,x18.2.1,x18.1.1.2.2.2),x4.1.1,()),())) (fun x19=>bnd (br (aQ x19.1) (some true) (some (aQ (eqI x18.1.2.1 x4.1.2.1)))) (fun(x20:Bool)=>br x20 (some (false,())) (bnd (cc (((x6.1.1.1,x6.1.1.2.1,x6.1.1.2.2.1,x15.2.1,x6.1.1.2.2.2),1,()),())) (fun x21=>br (ltI x21.1 0) (some (false,())) (br (aQ (eqI x21.1 x15.1)) (some (false,())) (some (true,()))))))))))))))))))))))))))))))
end Go.Den.G
