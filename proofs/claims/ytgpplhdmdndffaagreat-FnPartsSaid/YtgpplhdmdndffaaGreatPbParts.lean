/- Theory for the proofs of this claim: see its last text. -/
import Derived.Test.YtgpplhdmdndffaaGreatFnParts
import Derived.Test.YtgpplhdmdndffaaGreatDenF
import Derived.KernelRfl
import Derived.Laws.MathBits
import Derived.Test.YtgpplhdmdndffaaGreatPaParts
set_option linter.unusedSimpArgs false
namespace Go.Den.G
open Go.Den
set_option maxRecDepth 100000
def xR:List UInt8:=[114,109,105,48]
theorem qO:∀c∈xR,∀d∈xR,ia (([c],(d.toNat:Int),()),())=some (decide (c=d),()):=by decide +kernel
def sl (k:Int)(c:UInt8):Prop:=k=1/\c=114\/k=2/\c=109\/k=3/\c=105\/k=0/\c=48
instance (k:Int) (c:UInt8):Decidable (sl k c):=by unfold sl;infer_instance
theorem xc {k r b i s d m:Int}{c:UInt8}(hc:c∈xR):iF (((k,r,b,i,s,d,m,()),[c],()),())=some (decide (sl k c),()):=by
 unfold iF
 dsimp only
 have h1:=qO c hc 114 (by decide)
 have h2:=qO c hc 109 (by decide)
 have h3:=qO c hc 105 (by decide)
 have h4:=qO c hc 48 (by decide)
 simp only[show((114:UInt8).toNat:Int)=114 from rfl,show((109:UInt8).toNat:Int)=109 from rfl,show((105:UInt8).toNat:Int)=105 from rfl,show((48:UInt8).toNat:Int)=48 from rfl]at h1 h2 h3 h4
 simp only[h1,h2,h3,h4,af,tS,ue]
 congr 2
 rw[bv,aG]
 simp only[cO,ar,lJ,aG]
 unfold sl
 simp only[or_assoc]
def nS (kd ks:Int)(q:List UInt8):Bool:=match q with
 |[a,b]=>decide (sl kd a)&&decide (sl ks b)
 |_=>false
def GM (ps:List (List UInt8)):Prop:=∀q∈ps,∃a∈xR,∃b∈xR,q=[a,b]
theorem Gj (x:Ins)(ps:List (List UInt8))(hp:GM ps)(hl:ps.length<=100):bH ((x,ps,()),())=some (ps.any (nS x.dst.kind x.src.kind),()):=by
 unfold bH
 dsimp only[ew,dw]
 refine(Ret.iter (fun y=>∃i:Nat,i<=ps.length/\(ps.drop i).any (nS x.dst.kind x.src.kind)=ps.any (nS x.dst.kind x.src.kind)/\y=((ps,(i:Int),()),(ew x ()),())) (fun y=>ps.length-y.1.2.1.toNat) ?_ F _ ⟨0,by omega,rfl,rfl⟩ (by unfold F;simp;omega)).eq
 rintro _ rec ⟨i,hi,ha,rfl⟩ hrec
 dsimp only[ew,dw,cp7,d11]
 by_cases h:i<ps.length
 ·obtain⟨a,hca,b,hcb,e⟩:=hp ps[i] (fG h)
  have hg:bk ps (i:Int) (aJ .s)=[a,b]:=by rw[le h,e]
  rw[ag (kN (by unfold da;omega)),ag (by simp[inR,da];omega),hg,ag (show inC 1 (da [a,b])=true from rfl)]
  rw[show k9 [a,b] 1=[a]from rfl,xc hca,af]
  dsimp only
  rw[py h,e,List.any_cons]at ha
  have next:(ps.drop (i+1)).any (nS x.dst.kind x.src.kind)=ps.any (nS x.dst.kind x.src.kind)->Ret (rec ((ps,aL .i64 (i:Int) 1,()),(ew x ()),())) (fun z=>z=(ps.any (nS x.dst.kind x.src.kind),())):=fun h2=>by
   rw[aW]
   exact hrec _ ⟨i+1,by omega,h2,rfl⟩ (by simp;omega)
  by_cases h1:sl x.dst.kind a
  ·rw[aF h1,ag rfl,ag (by simp[inR,da];omega),ag (show inC 1 (da [a,b])=true from rfl)]
   rw[show nq [a,b] 1=[b]from rfl,xc hcb,af]
   dsimp only
   by_cases h2:sl x.src.kind b
   ·rw[aF h2,ag rfl]
    refine Ret.some ?_
    rw[<-ha]
    simp[nS,h1,h2]
   ·rw[aP h2,aq rfl]
    refine next ?_
    rw[<-ha]
    simp[nS,h2]
  ·rw[aP h1,aq rfl]
   refine next ?_
   rw[<-ha]
   simp[nS,h1]
 ·rw[aq (kJ (by unfold da;omega))]
  refine Ret.some ?_
  rw[<-ha,List.drop_of_length_le (by omega)]
  rfl
set_option maxRecDepth 100000
def fz (n:Nat):List Int×List UInt8:=match ri (((n:Int),()),())with
 |some x=>(x.1.1,x.1.2.1)
 |none=>([],[])
def szK (n:Nat):Nat:=if n<=16\/n=18\/n=19\/(20<=n/\n<=24)\/n=28 then 0 else if n=17\/n=25\/n=26\/n=27\/n=36\/n=39\/n=40 then 1 else if 29<=n/\n<=32 then 2 else if n=35\/n=41\/n=42 then 3 else 4
def szL (k:Nat):List Int:=if k=0 then [1,2,4,8]else if k=1 then [2,4,8]else if k=2 then [8]else if k=3 then [1]else [0]
def prK (n:Nat):List (List UInt8):=
 if n<=9 then [[114,114],[109,114],[114,109],[114,105],[109,105]]
 else if n=10\/(20<=n/\n<=24)then [[114,114],[109,114],[114,105],[109,105]]
 else if n=28 then [[114,114],[109,114]]
 else if n=11\/n=12\/n=18\/n=19\/n=30\/n=35 then [[114,48],[109,48]]
 else if 13<=n/\n<=16 then [[48,114],[48,109]]
 else if n=17\/n=36\/n=26\/n=27 then [[114,114],[114,109]]
 else if n=25 then [[114,109]]
 else if n=29\/n=31\/n=32 then [[48,114],[48,109],[48,105]]
 else if n=33\/n=44 then [[48,105]]
 else [[48,48]]
theorem prK_ok:∀n,n<45->GM (prK n):=by
 intro n _
 unfold prK
 repeat' split
 all_goals
  intro q hq
  simp only[aN,gg,or_false]at hq
  rcases hq with rfl|rfl|rfl|rfl|rfl<;>exact⟨_,by decide,_,by decide,rfl⟩
def sE (r z:Int):Prop:=0<=r/\r<=15\/z=1/\16<=r/\r<=19
def opB (k r b i s d m z:Int):Prop:=
 k=1/\b=0/\i=0/\s=0/\d=0/\m=0/\sE r z\/uB k r b i s d m\/k=3/\r=0/\b=0/\i=0/\s=0/\d=0\/k=0/\r=0/\b=0/\i=0/\s=0/\d=0/\m=0
instance (r z:Int):Decidable (sE r z):=by unfold sE;infer_instance
instance (k r b i s d m z:Int):Decidable (opB k r b i s d m z):=by unfold opB;infer_instance
theorem yy {k r b i s d m z:Int}:fu (((k,r,b,i,s,d,m,()),z,()),())=some (decide (opB k r b i s d m z),()):=by
 unfold fu
 dsimp only[p5,p6]
 rw[ca,ro]
 by_cases h1:k=1
 ·subst h1
  rw[ag (bK rfl)]
  have hx:(br (eqI z 1) (some (Sum.inl ((19,()),(1,r,b,i,s,d,m,()),()):Sum ((Int×Unit)×((Int×(Int×(Int×(Int×(Int×(Int×(Int×Unit)))))))×Unit)) (Bool×Unit))) (some (Sum.inl ((15,()),(1,r,b,i,s,d,m,()),()))))
    =some (Sum.inl ((if z=1 then 19 else 15,()),(1,r,b,i,s,d,m,()),())):=by
   by_cases h:z=1
   ·rw[ag (bK h),aa h]
   ·rw[aq (aD h),ae h]
  rw[hx]
  simp only[af,am,bB,tS]
  congr 2
  rw[bv,aG]
  simp only[ar,xN,lJ,aG]
  unfold opB sE uB
  by_cases h:z=1
  ·rw[aa h];simp only[true_and];omega
  ·rw[ae h];simp only[true_and];omega
 ·rw[aq (aD h1)]
  by_cases h2:k=2
  ·subst h2
   rw[ag (bK rfl)]
   simp only[bB,wX,ue,tS,af,eqI,ltI,leI]
   rw[brF]
   congr 2
   have e:opB 2 r b i s d m z↔uB 2 r b i s d m:=by unfold opB;simp
   rw[bv,aG,e]
   unfold uB
   simp only[ar,cO,ef,oc,aG,pd,vN,decide_eq_false_iff_not]
   clear h1 e
   constructor
   ·rintro⟨⟨⟨⟨⟨⟨⟨g1,g2⟩,g3⟩,g4⟩,g5⟩,g6⟩,g7⟩,g8,g9⟩
    refine⟨trivial,g1,g2,g3.1,g3.2,g4.1,g4.2,g5,?_,?_,g7.1,g7.2⟩
    ·omega
    ·omega
   ·rintro⟨_,g1,g2,g3,g4,g5,g6,g7,g8,g9,g10,g11⟩
    refine⟨⟨⟨⟨⟨⟨⟨g1,g2⟩,⟨g3,g4⟩⟩,⟨g5,g6⟩⟩,g7⟩,?_⟩,⟨g10,g11⟩⟩,?_,?_⟩
    ·omega
    ·omega
    ·omega
  ·rw[aq (aD h2)]
   by_cases h3:k=3
   ·subst h3
    rw[ag (bK rfl)]
    congr 2
    rw[bv,aG]
    simp only[xN,lJ]
    unfold opB uB
    simp
   ·rw[aq (aD h3)]
    congr 2
    rw[bv,aG]
    simp only[xN,lJ]
    unfold opB uB
    simp[h1,h2,h3]
set_option maxHeartbeats 4000000
set_option linter.unusedSimpArgs false
theorem aV {α:Type}{x y:α}:br true x y=x:=rfl
def yh (v z:Int):Bool:=fitsB v (jp z 4)
theorem vC {v z:Int}(h:1<=z):bC ((v,z,()),())=some (yh v z,()):=by
 unfold yh
 by_cases h4:z<=4
 ·rw[Km h4];exact xb v z h h4
 ·rw[F8 (by omega),<-xb v 4 (by decide) (by decide)]
  unfold bC
  dsimp only
  rw[F8 (by omega),F8 (by decide)]
section
variable (x:Ins)
theorem vm:m8 (ew x ())=x:=rfl
theorem tI1:(ew x ()).1=x.op:=rfl
theorem tI2:(ew x ()).2.1=x.size:=rfl
theorem tI4:(ew x ()).2.2.2.1=x.frm:=rfl
theorem tI11:p11 (ew x ())=x.src.kind:=rfl
theorem tI12:p12 (ew x ())=x.src.reg:=rfl
theorem Ii (a b:Int):eqI a b=decide (a=b):=rfl
theorem IJ (a b:Int):leI a b=decide (a<=b):=rfl
theorem IR (a b:Int):ltI a b=decide (a<b):=rfl
end
def yH (x:Ins)(n:Nat):Bool:=
 if n<=8\/n=10 then yh x.src.imm x.size
 else if n=9 then decide (x.size=8/\x.dst.kind=1)||yh x.src.imm x.size
 else if 20<=n/\n<=24 then decide (¬(x.src.kind=1/\x.src.reg≠1)/\0<=x.src.imm/\x.src.imm<=255)
 else if n=26 then decide (x.frm=1\/x.frm=2/\2<x.size)
 else if n=27 then decide (x.frm=1\/x.frm=2/\2<x.size\/x.frm=4/\x.size=8)
 else if n=29\/n=31\/n=32\/n=33 then yh x.src.imm 4
 else if n=44 then decide (0<=x.src.imm/\x.src.imm<=255)
 else true
def shB (x:Ins)(n:Nat):Bool:=decide (x.size∈szL (szK n))&&((prK n).any (nS x.dst.kind x.src.kind)&&yH x n)
theorem two_eq (x:Ins)(ps:List (List UInt8))(n:Nat)(hn:n<45)(h:prK n=ps)(hl:ps.length<=100):bH ((x,ps,()),())=some ((prK n).any (nS x.dst.kind x.src.kind),()):=by
 subst h;exact Gj x _ (prK_ok n hn) hl
set_option synthInstance.maxSize 40000
set_option synthInstance.maxHeartbeats 4000000
theorem sh_all:∀n:Nat,n<45->1<=n->(n=1/\(n:Int)=1/\szK n=0/\prK n=[[114,114],[109,114],[114,109],[114,105],[109,105]]\/
  n=2/\(n:Int)=2/\szK n=0/\prK n=[[114,114],[109,114],[114,109],[114,105],[109,105]]\/
  n=3/\(n:Int)=3/\szK n=0/\prK n=[[114,114],[109,114],[114,109],[114,105],[109,105]]\/
  n=4/\(n:Int)=4/\szK n=0/\prK n=[[114,114],[109,114],[114,109],[114,105],[109,105]]\/
  n=5/\(n:Int)=5/\szK n=0/\prK n=[[114,114],[109,114],[114,109],[114,105],[109,105]]\/
  n=6/\(n:Int)=6/\szK n=0/\prK n=[[114,114],[109,114],[114,109],[114,105],[109,105]]\/
  n=7/\(n:Int)=7/\szK n=0/\prK n=[[114,114],[109,114],[114,109],[114,105],[109,105]]\/
  n=8/\(n:Int)=8/\szK n=0/\prK n=[[114,114],[109,114],[114,109],[114,105],[109,105]]\/
  n=9/\(n:Int)=9/\szK n=0/\prK n=[[114,114],[109,114],[114,109],[114,105],[109,105]]\/
  n=10/\(n:Int)=10/\szK n=0/\prK n=[[114,114],[109,114],[114,105],[109,105]]\/
  n=11/\(n:Int)=11/\szK n=0/\prK n=[[114,48],[109,48]]\/
  n=12/\(n:Int)=12/\szK n=0/\prK n=[[114,48],[109,48]]\/
  n=13/\(n:Int)=13/\szK n=0/\prK n=[[48,114],[48,109]]\/
  n=14/\(n:Int)=14/\szK n=0/\prK n=[[48,114],[48,109]]\/
  n=15/\(n:Int)=15/\szK n=0/\prK n=[[48,114],[48,109]]\/
  n=16/\(n:Int)=16/\szK n=0/\prK n=[[48,114],[48,109]]\/
  n=17/\(n:Int)=17/\szK n=1/\prK n=[[114,114],[114,109]]\/
  n=18/\(n:Int)=18/\szK n=0/\prK n=[[114,48],[109,48]]\/
  n=19/\(n:Int)=19/\szK n=0/\prK n=[[114,48],[109,48]]\/
  n=20/\(n:Int)=20/\szK n=0/\prK n=[[114,114],[109,114],[114,105],[109,105]]\/
  n=21/\(n:Int)=21/\szK n=0/\prK n=[[114,114],[109,114],[114,105],[109,105]]\/
  n=22/\(n:Int)=22/\szK n=0/\prK n=[[114,114],[109,114],[114,105],[109,105]]\/
  n=23/\(n:Int)=23/\szK n=0/\prK n=[[114,114],[109,114],[114,105],[109,105]]\/
  n=24/\(n:Int)=24/\szK n=0/\prK n=[[114,114],[109,114],[114,105],[109,105]]\/
  n=25/\(n:Int)=25/\szK n=1/\prK n=[[114,109]]\/
  n=26/\(n:Int)=26/\szK n=1/\prK n=[[114,114],[114,109]]\/
  n=27/\(n:Int)=27/\szK n=1/\prK n=[[114,114],[114,109]]\/
  n=28/\(n:Int)=28/\szK n=0/\prK n=[[114,114],[109,114]]\/
  n=29/\(n:Int)=29/\szK n=2/\prK n=[[48,114],[48,109],[48,105]]\/
  n=30/\(n:Int)=30/\szK n=2/\prK n=[[114,48],[109,48]]\/
  n=31/\(n:Int)=31/\szK n=2/\prK n=[[48,114],[48,109],[48,105]]\/
  n=32/\(n:Int)=32/\szK n=2/\prK n=[[48,114],[48,109],[48,105]]\/
  n=33/\(n:Int)=33/\szK n=4/\prK n=[[48,105]]\/
  n=34/\(n:Int)=34/\szK n=4/\prK n=[[48,48]]\/
  n=35/\(n:Int)=35/\szK n=3/\prK n=[[114,48],[109,48]]\/
  n=36/\(n:Int)=36/\szK n=1/\prK n=[[114,114],[114,109]]\/
  n=37/\(n:Int)=37/\szK n=4/\prK n=[[48,48]]\/
  n=38/\(n:Int)=38/\szK n=4/\prK n=[[48,48]]\/
  n=39/\(n:Int)=39/\szK n=1/\prK n=[[48,48]]\/
  n=40/\(n:Int)=40/\szK n=1/\prK n=[[48,48]]\/
  n=41/\(n:Int)=41/\szK n=3/\prK n=[[48,48]]\/
  n=42/\(n:Int)=42/\szK n=3/\prK n=[[48,48]]\/
  n=43/\(n:Int)=43/\szK n=4/\prK n=[[48,48]]\/
  n=44/\(n:Int)=44/\szK n=4/\prK n=[[48,105]]):=by decide +kernel
theorem JI (x:Ins){n:Nat}(h1:1<=n)(hn:n<45)(h:x.op=n):iY ((x,()),())=some (shB x n,()):=by
 obtain⟨A,hA⟩:∃A,A=(prK n).any (nS x.dst.kind x.src.kind):=⟨_,rfl⟩
 rcases sh_all n hn h1 with ⟨rfl,hc,hk,hp⟩|⟨rfl,hc,hk,hp⟩|⟨rfl,hc,hk,hp⟩|⟨rfl,hc,hk,hp⟩|⟨rfl,hc,hk,hp⟩|⟨rfl,hc,hk,hp⟩|⟨rfl,hc,hk,hp⟩|⟨rfl,hc,hk,hp⟩|⟨rfl,hc,hk,hp⟩|⟨rfl,hc,hk,hp⟩|⟨rfl,hc,hk,hp⟩|⟨rfl,hc,hk,hp⟩|⟨rfl,hc,hk,hp⟩|⟨rfl,hc,hk,hp⟩|⟨rfl,hc,hk,hp⟩|⟨rfl,hc,hk,hp⟩|⟨rfl,hc,hk,hp⟩|⟨rfl,hc,hk,hp⟩|⟨rfl,hc,hk,hp⟩|⟨rfl,hc,hk,hp⟩|⟨rfl,hc,hk,hp⟩|⟨rfl,hc,hk,hp⟩|⟨rfl,hc,hk,hp⟩|⟨rfl,hc,hk,hp⟩|⟨rfl,hc,hk,hp⟩|⟨rfl,hc,hk,hp⟩|⟨rfl,hc,hk,hp⟩|⟨rfl,hc,hk,hp⟩|⟨rfl,hc,hk,hp⟩|⟨rfl,hc,hk,hp⟩|⟨rfl,hc,hk,hp⟩|⟨rfl,hc,hk,hp⟩|⟨rfl,hc,hk,hp⟩|⟨rfl,hc,hk,hp⟩|⟨rfl,hc,hk,hp⟩|⟨rfl,hc,hk,hp⟩|⟨rfl,hc,hk,hp⟩|⟨rfl,hc,hk,hp⟩|⟨rfl,hc,hk,hp⟩|⟨rfl,hc,hk,hp⟩|⟨rfl,hc,hk,hp⟩|⟨rfl,hc,hk,hp⟩|⟨rfl,hc,hk,hp⟩|⟨rfl,hc,hk,hp⟩
 all_goals
  rw[hc]at h
  clear hc h1
  have h2:=two_eq x _ _ hn hp (by decide)
  unfold shB
  rw[hk]
  rw[<-hA]at h2|-
  clear hA hp hk
  unfold iY
  dsimp only
  rw[ro,wX,af]
  dsimp only
  by_cases hs:x.size=1\/x.size=2\/x.size=4\/x.size=8
  ·have h3:=vC (v:=x.src.imm) (z:=x.size) (by omega)
   have h4:=vC (v:=x.src.imm) (z:=4) (by decide)
   simp only[h,h2,h3,h4,aF hs,tS,ue,af,ap,aV,am,rC,tI1,tI2,tI4,tI11,tI12,vm,Int.reduceEq,Int.reduceLE,Int.reduceLT,decide_true,decide_false,and_false,and_true,true_and,false_and,ca,bB,Ii,IJ,IR]
   rcases hs with hs|hs|hs|hs<;>(simp[brF,szL,yH,bm,Ii,IJ,IR,hs,Bool.and_comm,Bool.and_left_comm,qG,Bool.or_assoc];try rfl)
  ·have h4:=vC (v:=x.src.imm) (z:=4) (by decide)
   simp only[h,h2,h4,aP hs,tS,ue,af,ap,aV,am,rC,tI1,tI2,tI4,tI11,tI12,vm,Int.reduceEq,Int.reduceLE,Int.reduceLT,decide_true,decide_false,and_false,and_true,true_and,false_and,ca,bB,Ii,IJ,IR]
   have hz:x.size≠1/\x.size≠2/\x.size≠4/\x.size≠8:=by omega
   (simp[brF,szL,yH,bm,Ii,IJ,IR,hz,Bool.and_comm,Bool.and_left_comm,qG,Bool.or_assoc];try rfl)
def wC (k r b i z:Int):Prop:=k=1/\(8<=r/\r<=15\/z=1/\4<=r/\r<=7)\/k=2/\(8<=b/\b<=15\/8<=i)
instance (k r b i z:Int):Decidable (wC k r b i z):=by unfold wC;infer_instance
def noP (k r:Int):Prop:=k=1/\16<=r
instance (k r:Int):Decidable (noP k r):=by unfold noP;infer_instance
theorem Gi {k r b i s d m z:Int}:dZ (((k,r,b,i,s,d,m,()),z,()),())=some ((decide (wC k r b i z),decide (noP k r),()),()):=by
 unfold dZ
 dsimp only
 rw[ca]
 by_cases h1:k=1
 ·subst h1
  have e2:leI 16 r=decide (noP 1 r):=by rw[bv,aG,zZ];unfold noP;omega
  rw[ag (bK rfl),bB,af,e2]
  dsimp only
  by_cases h:8<=r/\r<=15
  ·rw[aF h,ag rfl]
   have:decide (wC 1 r b i z)=true:=aF (by unfold wC;omega)
   rw[this]
  ·rw[aP h,aq rfl]
   by_cases hz:z=1
   ·rw[ag (bK hz),bB,af]
    have:decide (4<=r/\r<=7)=decide (wC 1 r b i z):=by rw[bv,aG,aG];unfold wC;omega
    rw[this]
   ·rw[aq (aD hz)]
    have:decide (wC 1 r b i z)=false:=aP (by unfold wC;omega)
    rw[this]
 ·rw[aq (aD h1)]
  have e2:decide (noP k r)=false:=aP (by unfold noP;omega)
  rw[e2]
  by_cases h2:k=2
  ·subst h2
   rw[ag (bK rfl),bB,af]
   dsimp only
   rw[ue,af]
   have:(decide (8<=b/\b<=15)||leI 8 i)=decide (wC 2 r b i z):=by
    rw[bv,aG]
    simp only[cO,aG,zZ]
    unfold wC;omega
   rw[this]
  ·rw[aq (aD h2)]
   have:decide (wC k r b i z)=false:=aP (by unfold wC;omega)
   rw[this]
def sSz (x:Ins)(n:Nat):Int:=if 20<=n/\n<=24 then 8 else if 0<x.frm then x.frm else x.size
def ss (o:Opd)(z:Int):Prop:=opB o.kind o.reg o.base o.index o.scale o.disp o.imm z
def um (o:Opd)(z:Int):Prop:=wC o.kind o.reg o.base o.index z
def HQ (o:Opd):Prop:=noP o.kind o.reg
instance (o:Opd) (z:Int):Decidable (ss o z):=by unfold ss;infer_instance
instance (o:Opd) (z:Int):Decidable (um o z):=by unfold um;infer_instance
instance (o:Opd):Decidable (HQ o):=by unfold HQ;infer_instance
def wV (x:Ins)(n:Nat):Prop:=
 0<=x.len/\x.len<=15/\shB x n=true/\((n=26\/n=27)\/x.frm=0)/\((n=33\/n=35\/n=36)\/x.cond=0)/\0<=x.cond/\x.cond<=15/\ss x.dst x.size/\ss x.src (sSz x n)/\
 (¬(HQ x.dst\/HQ x.src)\/¬um x.dst x.size/\¬um x.src (sSz x n)/\(x.size≠8\/29<=n/\n<=32))
instance (x:Ins) (n:Nat):Decidable (wV x n):=by unfold wV;infer_instance
theorem vD (x:Ins){n:Nat}(h:x.op=n):fE ((x,()),())=some ((x.size,sSz x n,()),()):=by
 unfold fE gn sSz
 dsimp only
 rw[ca,h]
 by_cases hf:0<x.frm
 ·rw[ag (kN hf),af,bB,af,aa hf]
  dsimp only
  by_cases hn:20<=n/\n<=24
  ·rw[dT,ag rfl,af,aa hn,am]
  ·rw[dF,aq rfl,af,ae hn,am]
 ·rw[aq (kJ hf),af,bB,af,ae hf]
  dsimp only
  by_cases hn:20<=n/\n<=24
  ·rw[dT,ag rfl,af,aa hn,am]
  ·rw[dF,aq rfl,af,ae hn,am]
theorem II (x:Ins){n:Nat}(h1:1<=n)(h2:n<45)(h:x.op=n):gZ ((x,()),())=some (decide (wV x n),()):=by
 unfold gZ lv fk
 dsimp only[dw]
 rw[ca,h,bB,af,af]
 dsimp only
 rw[dT,eu,bB,JI x h1 h2 h,vD x h]
 simp only[ap,af,bB,yy,Gi,ue,tS]
 have go:∀ {q:Prop} [Decidable q] {c:Bool} {rest:Option (Bool×Unit)},(c=true->¬q)->(c=false->rest=some (decide q,()))->br c (some (false,())) rest=some (decide q,()):=by
  intro q _ c rest h1 h2
  cases c
  ·exact h2 rfl
  ·rw[aP (h1 rfl)];rfl
 refine go (fun hc hq=>?_) fun hc=>?_
 ·unfold wV at hq
  simp only[cO,pd,decide_eq_false_iff_not]at hc
  rcases hc with hc|hc
  ·exact hc ⟨hq.1,hq.2.1⟩
  ·rw[hq.2.2.1]at hc;cases hc
 ·simp only[oc,vN,aG]at hc
  refine go (fun hd hq=>?_) fun hd=>?_
  ·unfold wV at hq
   simp only[ar,pd,FI]at hd
   omega
  ·refine go (fun he hq=>?_) fun he=>?_
   ·unfold wV at hq
    simp only[ar,cO,pd,FI,decide_eq_false_iff_not]at he
    omega
   ·refine go (fun hf hq=>?_) fun hf=>?_
    ·unfold wV at hq
     simp only[cO,pd,decide_eq_false_iff_not]at hf
     rcases hf with hf|hf
     ·exact hf hq.2.2.2.2.2.2.2.1
     ·exact hf hq.2.2.2.2.2.2.2.2.1
    ·simp only[oc,vN,aG]at hf
     congr 2
     rw[bv,aG]
     simp only[sW,oc,vN,lJ,aG]at hd he
     unfold wV
     simp only[ar,cO,pd,oc,decide_eq_false_iff_not,lJ,FI]
     have w:(x.size≠8\/(((n:Int)=29\/(n:Int)=30)\/(n:Int)=31)\/(n:Int)=32)↔(x.size≠8\/29<=n/\n<=32):=by omega
     rw[w]
     constructor
     ·intro g
      exact⟨hc.1.1,hc.1.2,hc.2,by omega,by omega,he.2.1,he.2.2,hf.1,hf.2,g.imp (fun g a=>a.elim g.1 g.2) fun g=>⟨g.1.1,g.1.2,g.2⟩⟩
     ·rintro⟨_,_,_,_,_,_,_,_,_,g⟩
      exact g.imp (fun g=>⟨fun a=>g (.inl a),fun a=>g (.inr a)⟩) fun g=>⟨⟨g.1,g.2.1⟩,g.2.2⟩
def kc (k:Int):Nat:=if k=1 then 1 else if k=2 then 2 else if k=3 then 3 else 0
def FV (x:Ins)(n:Nat):Prop:=if n=26 then x.frm=1\/x.frm=2/\2<x.size else if n=27 then x.frm=1\/x.frm=2/\2<x.size\/x.frm=4/\x.size=8 else x.frm=0
instance (x:Ins) (n:Nat):Decidable (FV x n):=by unfold FV;infer_instance
def iSz (x:Ins)(n:Nat):Int:=if x.frm≠0 then x.frm else if(20<=n/\n<=24)\/x.size=0 then 8 else x.size
def hiP (o:Opd):Prop:=o.kind=1/\16<=o.reg/\o.reg<=19
instance (o:Opd):Decidable (hiP o):=by unfold hiP;infer_instance
def askP (o:Opd)(z:Int):Prop:=o.kind=1/\(8<=o.reg/\o.reg<=15\/z=1/\4<=o.reg/\o.reg<=7)\/o.kind=2/\(8<=o.base/\o.base<=15\/8<=o.index/\o.index<=15)
instance (o:Opd) (z:Int):Decidable (askP o z):=by unfold askP;infer_instance
def fixP (n:Nat):Prop:=(29<=n/\n<=34)\/n=37\/n=38\/n=43\/n=44
instance (n:Nat):Decidable (fixP n):=by unfold fixP;infer_instance
def numI (x:Ins)(n:Nat):Bool:=
 if(20<=n/\n<=24)\/n=44 then decide (0<=x.src.imm/\x.src.imm<=255)
 else if n=9/\x.size=8/\x.dst.kind=1 then true
 else if x.size=0 then yh x.src.imm 4 else yh x.src.imm x.size
def insI (x:Ins)(n:Nat):Prop:=
 (0<=x.len/\x.len<=15)/\(0<=x.cond/\x.cond<=15)/\(x.cond=0\/n=33\/n=35\/n=36)/\x.size∈szL (szK n)/\FV x n/\(prK n).any (nS (kc x.dst.kind) (kc x.src.kind))=true/\
 (ii (F7 1 x.size)/\ss x.dst (F7 1 x.size))/\(ii (iSz x n)/\ss x.src (iSz x n))/\(x.src.kind=3->numI x n=true)/\(20<=n/\n<=24->x.src.kind=1->x.src.reg=1)/\
 (¬(hiP x.dst\/hiP x.src)\/¬((x.size=8/\¬fixP n)\/askP x.dst x.size\/askP x.src (iSz x n)))
instance (x:Ins) (n:Nat):Decidable (insI x n):=by unfold insI;infer_instance
theorem KL {n:Nat}{z:Int}(h:z∈szL (szK n)):z=0\/z=1\/z=2\/z=4\/z=8:=by
 unfold szL at h
 repeat' split at h
 all_goals (simp only[aN,gg,or_false]at h;omega)
theorem opB_z {k r b i s d m z z':Int}(h:k≠1):opB k r b i s d m z↔opB k r b i s d m z':=by
 unfold opB
 constructor<;>(rintro(g|g);exact ah g.1 h;exact .inr g)
theorem Ae:∀n:Nat,n<45->(!((szL (szK n)).any fun z=>decide (z=0))||decide (n=0)||decide (prK n=[[48,105]])||decide (prK n=[[48,48]]))=true:=by decide +kernel
theorem BJ (n:Nat)(h:n<45)(h1:1<=n)(hz:(0:Int)∈szL (szK n)):prK n=[[48,105]]\/prK n=[[48,48]]:=by
 have:=Ae n h
 have e:((szL (szK n)).any fun z=>decide (z=0))=true:=List.any_eq_true.2 ⟨0,hz,rfl⟩
 rw[e]at this
 simp only[kB,kT,cO,aG]at this
 rcases this with (h|h)|h
 ·omega
 ·exact .inl h
 ·exact .inr h
theorem Bx {k:Int}(h:sl k 48):k=0:=by
 unfold sl at h
 rcases h with h|h|h|h
 ·exact ah h.2 (by decide)
 ·exact ah h.2 (by decide)
 ·exact ah h.2 (by decide)
 ·exact h.1
theorem IF {k:Int}(h:sl k 105):k=3:=by
 unfold sl at h
 rcases h with h|h|h|h
 ·exact ah h.2 (by decide)
 ·exact ah h.2 (by decide)
 ·exact h.1
 ·exact ah h.2 (by decide)
theorem xD {n:Nat}(h2:n<45)(h1:1<=n){k l:Int}(hs:(0:Int)∈szL (szK n))(ha:(prK n).any (nS k l)=true):k=0/\(l=0\/l=3):=by
 rcases BJ n h2 h1 hs with e|e<;>rw[e]at ha<;>simp only[List.any_cons,List.any_nil,Bool.or_false,nS,ar,aG]at ha
 ·exact⟨Bx ha.1,.inr (IF ha.2)⟩
 ·exact⟨Bx ha.1,.inl (Bx ha.2)⟩
theorem AE:∀n:Nat,n<45->((szL (szK n)).all fun z=>decide (1<=n->(n<=10->z≠0)/\(20<=n/\n<=24->z≠0)/\((n=33\/n=34\/n=37\/n=38\/n=43\/n=44)->z=0)/\(n=26\/n=27->z≠0)/\(29<=n/\n<=32->z=8)))=true:=by decide +kernel
theorem Ch (n:Nat)(h:n<45)(h1:1<=n)(z:Int)(hz:z∈szL (szK n)):(n<=10->z≠0)/\(20<=n/\n<=24->z≠0)/\((n=33\/n=34\/n=37\/n=38\/n=43\/n=44)->z=0)/\(n=26\/n=27->z≠0)/\(29<=n/\n<=32->z=8):=
 bh (fc.1 (AE n h) z hz) h1
structure Com (x:Ins)(n:Nat):Prop where
 sz:x.size∈szL (szK n)
 any:(prK n).any (nS x.dst.kind x.src.kind)=true
 frm:FV x n
variable {x:Ins}{n:Nat}
theorem Com.dst (h:Com x n)(h1:1<=n)(h2:n<45):(ii (F7 1 x.size)/\ss x.dst (F7 1 x.size))↔ss x.dst x.size:=by
 have hs:=KL h.sz
 by_cases h0:x.size=0
 ·have hk:=xD h2 h1 (h0▸h.sz) h.any
  have e:F7 1 x.size=1:=by rw[h0];rfl
  rw[e]
  have:ss x.dst 1↔ss x.dst x.size:=opB_z (by omega)
  rw[this]
  exact⟨fun g=>g.2,fun g=>⟨.inl rfl,g⟩⟩
 ·have e:F7 1 x.size=x.size:=imax_r (by omega)
  rw[e]
  exact⟨fun g=>g.2,fun g=>⟨by unfold ii;omega,g⟩⟩
theorem Com.sizes (h:Com x n)(h1:1<=n)(h2:n<45):(iSz x n=sSz x n/\ii (iSz x n))\/(x.size=0/\x.src.kind≠1/\x.src.kind≠2/\ii (iSz x n)):=by
 have hs:=KL h.sz
 obtain⟨_,c2,_,c4,_⟩:=Ch n h2 h1 x.size h.sz
 have hf:=h.frm
 unfold FV at hf
 unfold iSz sSz ii
 by_cases hn:20<=n/\n<=24
 ·rw[iN,iN]at hf
  left
  rw[iN,aa (.inl hn),aa hn]
  omega
 ·by_cases hm:n=26\/n=27
  ·have hfr:x.frm=1\/x.frm=2\/x.frm=4:=by
    rcases hm with hm|hm
    ·rw[aa hm]at hf;omega
    ·rw[iN,aa hm]at hf;omega
   left
   rw[iP,ae hn,iP]
   omega
  ·rw[iN,iN]at hf
   by_cases h0:x.size=0
   ·right
    have hk:=xD h2 h1 (h0▸h.sz) h.any
    rw[iN,aa (.inr h0)]
    omega
   ·left
    rw[iN,iN,ae hn,iN]
    omega
theorem Com.src (h:Com x n)(h1:1<=n)(h2:n<45):(ii (iSz x n)/\ss x.src (iSz x n))↔ss x.src (sSz x n):=by
 rcases h.sizes h1 h2 with ⟨e,hz⟩|⟨h0,hk,_,hz⟩
 ·rw[e]at hz|-
  exact⟨fun g=>g.2,fun g=>⟨hz,g⟩⟩
 ·have:ss x.src (iSz x n)↔ss x.src (sSz x n):=opB_z hk
  rw[this]
  exact⟨fun g=>g.2,fun g=>⟨hz,g⟩⟩
theorem DK (x:Ins)(h:¬(1<=x.op/\x.op<=44)):re ((x,()),())=some (false,())/\gZ ((x,()),())=some (false,()):=by
 constructor
 ·unfold re uP
  dsimp only
  rw[bB,af,af]
  dsimp only
  rw[aP h,eF]
  rfl
 ·unfold gZ lv
  dsimp only
  rw[ca,bB,af,af]
  dsimp only
  rw[aP h,eF]
  rfl
variable {x:Ins}{n:Nat}
def lw (t:List UInt8)(a n:Int):Int:=IntKind.wrap .i64 (leN ((t.drop a.toNat).take n.toNat))
theorem GB {t:List UInt8}{a:Int}(h0:0<=a)(h1:a<t.length):lw t a 1=gi t a:=by
 obtain⟨k,rfl⟩:=bU h0
 have hk:k<t.length:=by omega
 unfold lw
 rw[bu,show(1:Int).toNat=0+1 from rfl,yA _ 0 (by simp;omega),qJ hk]
 have hb:t[k].toNat<256:=t[k].toNat_lt
 simp only[List.take_zero,leN,Nat.pow_zero,List.getElem_drop,iA,eP,eB]
 exact fd ⟨by omega,by omega⟩
theorem Hf {t:List UInt8}{a n:Int}(h0:0<=a)(hn:0<=n)(h1:a+n<=t.length):((t.drop a.toNat).take n.toNat).length=n.toNat:=by
 rw[ge,fH];omega
theorem D7 (t:List UInt8)(a n:Int)(hl:(t.length:Int)<=1099511627776)(h0:0<=a)(hn0:0<=n)(hn:n<=8)(h1:a+n<=t.length):
  eK ((t,a,n,()),())=some (lw t a n,()):=by
 unfold eK
 dsimp only
 rw[bN]
 obtain⟨m,rfl⟩:=bU hn0
 obtain⟨k,rfl⟩:=bU h0
 obtain⟨s,hs⟩:∃s,s=(t.drop k).take m:=⟨_,rfl⟩
 have hsl:s.length=m:=by rw[hs,ge,fH];omega
 have hg:∀j:Nat,(h:j<s.length)->gi t ((k:Int)+(j:Nat))=(s[j].toNat:Int):=fun j h=>by
  rw[show(k:Int)+(j:Nat)=((k+j:Nat):Int)by omega,qJ (by omega)]
  simp[hs]
 have hlw:lw t k m=IntKind.wrap .i64 (leN s):=by unfold lw;rw[hs];rfl
 rw[hlw]
 refine iJ (fun x=>x.1.1=t/\x.1.2.1=(k:Int)/\ -1<=x.1.2.2.2.1/\x.1.2.2.2.1<(m:Int)/\x.1.2.2.1=(leN (s.drop (x.1.2.2.2.1+1).toNat):Int)) (fun x=>(x.1.2.2.2.1+1).toNat) (fun _=>some (IntKind.wrap .i64 (leN s),())) ?_ F _ ?_ ?_
 ·rintro⟨⟨u,z,v,i,_⟩,_⟩ rec ⟨h2,hz,h3,h4,h5⟩ hrec
  dsimp only at hz h2 h3 h4 h5 hrec|-
  subst hz h2
  by_cases hi:0<=i
  ·obtain⟨j,rfl⟩:=bU hi
   have hj:j<s.length:=by omega
   have hlt:=C6 (s.drop (j+1))
   have hb:s[j].toNat<256:=s[j].toNat_lt
   have hpow:256^(s.drop (j+1)).length<=256^7:=cX (by decide) (by rw[fH];omega)
   rw[show(256:Nat)^7=72057594037927936 from rfl]at hpow
   rw[show((j:Int)+1).toNat=j+1 by omega]at h5
   rw[ag (gY hi),aW,ag (cQ (by omega) (by rw[bW];omega)),hg j hj]
   rw[hrec _ ⟨rfl,rfl,?_,?_,?_⟩ ?_]
   ·dsimp only;rw[bN];omega
   ·dsimp only;rw[bN];omega
   ·dsimp only
    rw[bN,show((j:Int)-1+1).toNat=j by omega,C5 s j hj,h5]
    rw[IW,dl,H2]
    omega
   ·dsimp only;rw[bN];omega
  ·obtain rfl:i= -1:=by omega
   rw[aq (mI hi),h5]
   rfl
 ·refine⟨rfl,rfl,by dsimp only;omega,by dsimp only;omega,?_⟩
  dsimp only
  rw[show((m:Int)-1+1).toNat=s.length by omega,List.drop_length]
  rfl
 ·simp[F];omega
abbrev Pos:=Except Int Int
def aU (at' code:Int):Pos:=if code=0 then .ok at' else .error code
def Pos.In (p:Pos)(t:List UInt8):Prop:=∀a,p= .ok a->0<=a/\a<=t.length
def exb {α β:Type}(x:Except Int α)(f:α->Except Int β):Except Int β:=match x with
 | .ok a=>f a
 | .error c=> .error c
def adv (t:List UInt8)(n:Int)(p:Pos):Pos:=exb p fun a=>if a+n<=t.length then .ok (a+n)else .error 9
def rdU (t:List UInt8)(n:Int)(p:Pos):Int:=match p with
 | .ok a=>if a+n<=t.length then lw t a n else 0
 | .error _=>0
def rdS (t:List UInt8)(n:Int)(p:Pos):Int:=sx (8*n-1).toNat (rdU t n p)
theorem eR {a:Int}:aU a 0= .ok a:=rfl
theorem ei {a c:Int}(h:c≠0):aU a c= .error c:=ae h
theorem Pos.In.adv {t:List UInt8}{n:Int}{p:Pos}(h:p.In t)(hn:0<=n):(Go.Den.G.adv t n p).In t:=by
 intro a ha
 unfold Go.Den.G.adv exb at ha
 cases p with
 |error c=>cases ha
 |ok b=>
  dsimp only at ha
  obtain⟨h0,h1⟩:=h b rfl
  split at ha
  ·cases ha;omega
  ·cases ha
theorem sx_0 (m:Nat):sx m 0=0:=by
 unfold sx
 rw[show(0:Int)%2^64=0 from rfl,Int.zero_ediv,iD,Int.zero_emod]
theorem IS (t:List UInt8)(a n:Int):I64 (lw t a n):=aB _
section
variable {t:List UInt8}{a c:Int}
theorem DP:∀n:Nat,n<256->dC .i64 (n:Int) 6=(n:Int)/64/\dP .i64 (dC .i64 (n:Int) 3) 7=(n:Int)/8%8/\dP .i64 (n:Int) 7=(n:Int)%8/\dP .i64 (n:Int) 15=(n:Int)%16:=by decide +kernel
theorem bI {b:Int}(h0:0<=b)(h1:b<256):dC .i64 b 6=b/64/\dP .i64 (dC .i64 b 3) 7=b/8%8/\dP .i64 b 7=b%8/\dP .i64 b 15=b%16:=by
 obtain⟨n,rfl⟩:=bU h0
 exact DP n (by omega)
theorem nz (t:List UInt8)(a:Int):0<=gi t a/\gi t a<256:=by
 unfold gi
 have:=(t.getD a.toNat 0).toNat_lt
 omega
theorem fv (t:List UInt8)(p:Pos)(hp:p.In t):0<=rdU t 1 p/\rdU t 1 p<256:=by
 unfold rdU
 cases p with
 |error _=>simp
 |ok b=>
  obtain⟨h0,h1⟩:=hp b rfl
  dsimp only
  split
  ·rw[GB h0 (by omega)];exact nz t b
  ·simp
theorem jT (b:Bool)(k:Int)(r:_):aX ((b,k,()),(t,a,c,r),())=some ((),(t,a,(if b=true/\c=0 then k else c),r),()):=by
 unfold aX
 dsimp only
 cases b with
 |false=>rw[ap,af,ap];simp
 |true=>
  rw[aV,af]
  by_cases h:c=0
  ·rw[ag (bK h)];simp[h]
  ·rw[aq (aD h)];simp[h]
theorem HI {b:Bool}{k:Int}(hk:k≠0):aU a (if b=true/\c=0 then k else c)=exb (aU a c) fun x=>if b=true then .error k else .ok x:=by
 unfold aU
 by_cases h:c=0
 ·subst h
  cases b with
  |false=>simp[exb]
  |true=>simp[exb,hk]
 ·rw[ae (show ¬(b=true/\c=0)from fun g=>h g.2),ae h];rfl
theorem take_lw {t:List UInt8}{a n:Int}(h0:0<=a)(hn0:1<=n)(hn:n<=8)(h1:a+n<=t.length):iS ((nq (k9 t (a+n)) a,()),())=some (lw t a n,()):=by
 have e:nq (k9 t (a+n)) a=(t.drop a.toNat).take n.toNat:=by
  unfold nq k9
  rw[List.drop_take]
  congr 1;omega
 rw[e,Hz _ (by rw[Hf h0 (by omega) h1];omega)]
 rfl
theorem mn (n:Int)(r:_)(h1:1<=n)(h8:n<=8)(hl:(t.length:Int)<=1099511627776)(hp:(aU a c).In t):
  ∃a' c',be ((n,()),(t,a,c,r),())=some (rdU t n (aU a c),(t,a',c',r),())/\aU a' c'=adv t n (aU a c):=by
 unfold be
 dsimp only
 rw[jT,af]
 dsimp only
 by_cases hc:c=0
 ·subst hc
  obtain⟨p0,p1⟩:=hp a eR
  rw[eR,aW]
  unfold rdU adv exb
  dsimp only
  by_cases hn:a+n<=t.length
  ·rw[kJ (by rw[bW];omega)]
   rw[ae (by simp),show bm (eqI 0 0)=false from rfl,ap,ag (uh (by omega) (by rw[bW];omega)),bN,show a+n-n=a by omega,ag (uh),take_lw p0 h1 h8 hn,af]
   exact⟨a+n,0,by rw[aa hn],by rw[aa hn];rfl⟩
  ·rw[kN (by rw[bW];omega)]
   rw[aa ⟨rfl,rfl⟩,show bm (eqI 9 0)=true from rfl,aV]
   exact⟨a,9,by rw[ae hn],by rw[ae hn];rfl⟩
 ·rw[ae (fun g=>hc g.2),aD hc,eF,aV,ei hc]
  exact⟨a,c,rfl,by rw[ei hc];rfl⟩
theorem iH (n:Int)(r:_)(h1:1<=n)(h8:n<=8)(hl:(t.length:Int)<=1099511627776)(hp:(aU a c).In t):
  ∃a' c',bA ((n,()),(t,a,c,r),())=some (rdS t n (aU a c),(t,a',c',r),())/\aU a' c'=adv t n (aU a c):=by
 obtain⟨a',c',e,h⟩:=mn n r h1 h8 hl hp
 unfold bA
 rw[e,af]
 dsimp only
 rw[qb _ _ h1 h8,af]
 exact⟨a',c',rfl,h⟩
end
def rS (x:Int):Prop:=x=0\/64<=x/\x<=79
def lK (x:Int)(k:Nat):Int:=8*(x/2^k%2)
def nr (x r z:Int):Int:=if z=1/\x=0/\4<=r then r+12 else r
def uj (r:Int):Opd:=⟨1,r,0,0,0,0,0⟩
def zO (n:Int):Opd:=⟨3,0,0,0,0,0,n⟩
def memD (b i s d:Int):Opd:=⟨2,0,b,i,s,d,0⟩
def nR (mod rm b:Int):Int:=if mod=2 then 4 else if mod=1 then 1 else if mod=0/\(rm=4/\b%8=5\/rm=5)then 4 else 0
def EP (t:List UInt8)(w:Int)(p:Pos):Int:=if w=0 then 0 else rdS t w p
def FE (t:List UInt8)(w:Int)(p:Pos):Pos:=if w=0 then p else adv t w p
def EQ (t:List UInt8)(x mod rm:Int)(p:Pos):Opd×Pos:=
 if rm=4 then
  (memD (if mod=0/\rdU t 1 p%8=5 then -1 else rdU t 1 p%8+lK x 0)
   (if rdU t 1 p/8%8+lK x 1=4 then -1 else rdU t 1 p/8%8+lK x 1)
   (if rdU t 1 p/8%8+lK x 1=4 then 1 else 2^(rdU t 1 p/64).toNat)
   (EP t (nR mod rm (rdU t 1 p)) (adv t 1 p)),FE t (nR mod rm (rdU t 1 p)) (adv t 1 p))
 else if rm=5/\mod=0 then(memD 16 (-1) 1 (EP t 4 p),FE t 4 p)
 else(memD (rm+lK x 0) (-1) 1 (EP t (nR mod rm 0) p),FE t (nR mod rm 0) p)
def plM (t:List UInt8)(x m z:Int)(p:Pos):Opd×Pos:=
 if m/64=3 then(uj (nr x (m%8+lK x 0) z),p)else EQ t x (m/64) (m%8) p
theorem JC:∀n:Nat,n<16->∀k:Nat,k<4->eW .i64 (dP .i64 (dC .i64 (n:Int) (k:Int)) 1) 3=8*((n:Int)/2^k%2):=by decide +kernel
theorem ext_mod {x:Int}{k:Nat}(hk:k<4):8*(x%16/2^k%2)=lK x k:=by
 unfold lK
 have:k=0\/k=1\/k=2\/k=3:=by omega
 rcases this with rfl|rfl|rfl|rfl
 ·rw[show(2:Int)^0=1 from rfl];omega
 ·rw[show(2:Int)^1=2 from rfl];omega
 ·rw[show(2:Int)^2=4 from rfl];omega
 ·rw[show(2:Int)^3=8 from rfl];omega
theorem u6 {x:Int}{k:Nat}(hk:k<4):lK x k=0/\(x≠0\/x=0)\/lK x k=8/\x≠0:=by
 unfold lK
 have:k=0\/k=1\/k=2\/k=3:=by omega
 rcases this with rfl|rfl|rfl|rfl
 ·rw[show(2:Int)^0=1 from rfl];omega
 ·rw[show(2:Int)^1=2 from rfl];omega
 ·rw[show(2:Int)^2=4 from rfl];omega
 ·rw[show(2:Int)^3=8 from rfl];omega
section
variable {t:List UInt8}{a c:Int}
theorem xS {x:Int}(k:Nat)(hk:k<4)(nw hr:Bool)(r:_):
  bn (((k:Int),()),(t,a,c,nw,x%16,hr,r),())=some (lK x k,(t,a,c,nw,x%16,hr,r),()):=by
 unfold bn
 dsimp only
 rw[ag (gY)]
 have h16:0<=x%16/\x%16<16:=by omega
 have:=JC (x%16).toNat (by omega) k hk
 rw[kz h16.1]at this
 rw[this,ext_mod hk]
theorem Bf {x:Int}{n z:Int}(hn:0<=n)(hn15:n<=15)(h7:x=0->n<=7)(nw:Bool)(r:_):
  cn ((n,z,()),(t,a,c,nw,x%16,decide (x≠0),r),())=some (dw (uj (nr x n z)) (),(t,a,c,nw,x%16,decide (x≠0),r),()):=by
 unfold cn fO
 dsimp only[p5]
 simp only[bB,af]
 have key:∀u:Bool,(u=true↔(z=1/\x=0/\4<=n))->(br u (some (n+12)) (some n))=some (nr x n z):=fun u hu=>by
  unfold nr
  cases u with
  |true=>rw[aa (hu.1 rfl)];rfl
  |false=>rw[ae (fun g=>by have:=hu.2 g;cases this)];rfl
 by_cases h1:z=1
 ·rw[ag (bK h1),af]
  by_cases h2:x=0
  ·rw[show bm (decide (x≠0))=true by simp[h2,bm],aV]
   by_cases h3:4<=n
   ·rw[aF (show 4<=n/\n<=7 from⟨h3,h7 h2⟩),af,aV,af,am,aW]
    unfold nr
    rw[aa ⟨h1,h2,h3⟩];rfl
   ·rw[aP (show ¬(4<=n/\n<=7)from fun g=>h3 g.1),af,ap,af,am]
    unfold nr
    rw[ae (fun g=>h3 g.2.2)];rfl
  ·rw[show bm (decide (x≠0))=false by simp[h2,bm],ap,af,ap,af,am]
   unfold nr
   rw[ae (fun g=>h2 g.2.1)];rfl
 ·rw[aq (aD h1),af,ap,af,ap,af,am]
  unfold nr
  rw[ae (fun g=>h1 g.1)];rfl
end
section
variable {t:List UInt8}{a c x:Int}{w:Bool}
theorem uH (k:Int):cL ((k,()),(t,a,x,w,c,()),())=some ((),(t,a,x,w,if c=0 then k else c,()),()):=by
 unfold cL
 dsimp only
 by_cases h:c=0
 ·rw[ag (bK h),aa h]
 ·rw[aq (aD h),ae h]
theorem ju (n:Int)(h1:1<=n)(h8:n<=8)(hl:(t.length:Int)<=1099511627776)(hp:(aU a c).In t):
  ∃a' c',bG ((n,()),(t,a,x,w,c,()),())=some (rdS t n (aU a c),(t,a',x,w,c',()),())/\aU a' c'=adv t n (aU a c):=by
 unfold bG
 dsimp only
 by_cases hc:c=0
 ·subst hc
  obtain⟨p0,p1⟩:=hp a eR
  rw[show bm (eqI 0 0)=false from rfl,ap,eR,bN (by rw[bW];omega) (by rw[bW];omega)]
  unfold rdS rdU adv exb
  dsimp only
  by_cases hn:a+n<=t.length
  ·rw[aq (kJ (by rw[bW];omega)),aW,bN,show a+n-n=a by omega,D7 t a n hl p0 (by omega) h8 hn,af]
   dsimp only
   rw[jq _ _ h1 h8,af]
   exact⟨a+n,0,by rw[aa hn],by rw[aa hn];rfl⟩
  ·rw[ag (kN (by rw[bW];omega)),uH,af]
   rw[aa rfl]
   exact⟨a,9,by rw[ae hn,sx_0],by rw[ae hn];rfl⟩
 ·rw[aD hc,eF,aV,ei hc]
  exact⟨a,c,by unfold rdS rdU;dsimp only;rw[sx_0],by rw[ei hc];rfl⟩
theorem Hu {b:Int}(h0:0<=b)(h1:b<256):cR (sx 7 b) 1=b:=by
 unfold cR sx
 rw[iD]
 rw[show(2:Int)^(7+1)=256 from rfl]
 split<;>omega
theorem jv (m:Nat)(hm:m<=63)(v:Int):I64 (sx m v):=by
 unfold sx
 have hp:(0:Int)<2^(m+1):=cI (by decide)
 have h1:=eg v (jf hp)
 have h2:=eZ v hp
 have hd:(2:Int)^(m+1)=2^m*2:=jS 2 m
 have hm3:(2:Int)^m<=2^63:=by
  have h:=cX (show 0<2 by decide) hm
  have e1:((2^m:Nat):Int)=(2:Int)^m:=by simp
  have e2:((2^63:Nat):Int)=(2:Int)^63:=by simp
  rw[<-e1,<-e2];exact Int.ofNat_le.2 h
 have hb:v%2^64/2^m%2=v%2^(m+1)/2^m:=by
  have h64:(2:Int)^(m+1)*2^(63-m)=2^64:=by rw[<-jh];congr 1;omega
  have h1:v%2^(m+1)=v%2^64%2^(m+1):=by
   rw[gP]
   exact⟨2^(63-m),h64.symm⟩
  rw[h1,jS 2 m]
  have hu:=bX v
  rw[<-hu]
  have:((2:Int)^m)=((2^m:Nat):Int):=by simp
  rw[this]
  have h2:((2^m:Nat):Int)*2=((2^m*2:Nat):Int):=by simp
  rw[h2]
  rw[<-gf,<-dM,<-gf,mU]
  simp
 rw[hb]
 have hpm:(0:Int)<2^m:=cI (by decide)
 generalize v%2^(m+1)=r at*
 unfold I64
 by_cases hs:(2:Int)^m<=r
 ·have hq:r/2^m=1:=by
   rw[qt hpm];omega
  rw[hq,aa rfl];omega
 ·have hq:r/2^m=0:=qu h1 (by omega)
  rw[hq,iD];omega
theorem nJ (hl:(t.length:Int)<=1099511627776)(hp:(aU a c).In t):
  ∃a' c',bS ((),(t,a,x,w,c,()),())=some (rdU t 1 (aU a c),(t,a',x,w,c',()),())/\aU a' c'=adv t 1 (aU a c):=by
 obtain⟨a',c',e,h⟩:=ju (x:=x) (w:=w) 1 (by decide) (by decide) hl hp
 have hr:=fv t (aU a c) hp
 unfold bS
 dsimp only
 rw[e,af]
 dsimp only
 rw[show rdS t 1 (aU a c)=sx 7 (rdU t 1 (aU a c))from rfl]
 have hz:=cc (jv 7 (by decide) (rdU t 1 (aU a c))) 1 rfl
 rw[Hu hr.1 hr.2]at hz
 rw[show((1:Nat):Int)=1 from rfl]at hz
 rw[hz,af]
 exact⟨a',c',rfl,h⟩
theorem Cf (hx:rS x)(k:Nat)(hk:k<4):bL (((k:Int),()),(t,a,x,w,c,()),())=some (lK x k,(t,a,x,w,c,()),()):=by
 unfold bL
 dsimp only
 rw[pL _ _ (by omega) (by omega),af]
 have h1:x%2^64=x:=jb (by unfold rS at hx;omega) (by unfold rS at hx;omega)
 rw[h1,bu]
 have h2:=u6 (x:=x) hk
 unfold lK at h2
 unfold lK
 rw[dh]
theorem Cj {n z:Int}(hn:0<=n)(hn15:n<=15):ej ((n,z,()),(t,a,x,w,c,()),())=some (dw (uj (nr x n z)) (),(t,a,x,w,c,()),()):=by
 unfold ej
 dsimp only
 by_cases h1:z=1
 ·rw[ag (bK h1),af]
  by_cases h2:x=0
  ·rw[ag (bK h2),af]
   by_cases h3:4<=n
   ·rw[ag (gY h3),af,am,aW]
    unfold nr
    rw[aa ⟨h1,h2,h3⟩];rfl
   ·rw[aq (mI h3),af,am]
    unfold nr
    rw[ae (fun g=>h3 g.2.2)];rfl
  ·rw[aq (aD h2),af,ap,af,am]
   unfold nr
   rw[ae (fun g=>h2 g.2.1)];rfl
 ·rw[aq (aD h1),af,ap,af,ap,af,am]
  unfold nr
  rw[ae (fun g=>h1 g.1)];rfl
end
def rH (n:Nat)(hi lo:Int):Nat:=cZ hi n*2^(8*n)+cZ lo n
def si (sg:Bool)(n:Nat)(hi lo:Int):Int:=if sg=true/\2^(16*n-1)<=rH n hi lo then(rH n hi lo:Int)-2^(16*n)else(rH n hi lo:Int)
theorem nQ (n:Nat)(hi lo:Int):rH n hi lo<2^(16*n):=by
 have h1:=jx hi n
 have h2:=jx lo n
 unfold rH
 rw[show 16*n=8*n+8*n by omega,eD]
 generalize 2^(8*n)=P at*
 have:(cZ hi n+1)*P<=P*P:=ed _ h1
 rw[ci]at this
 omega
theorem FA (hi lo:Int):rH 8 hi lo=uns hi*18446744073709551616+uns lo:=by
 unfold rH cZ
 rw[show(2:Nat)^(8*8)=18446744073709551616 from rfl,cb (gA hi),cb (gA lo)]
theorem join_n {n:Nat}(hn:n=1\/n=2\/n=4){hi lo:Int}(hh:I64 hi)(hl:I64 lo):ior .i64 (eW .i64 (cR hi n) (8*(n:Int))) (cR lo n)=IntKind.wrap .i64 (rH n hi lo):=by
 have hs:di (n:Int)=true:=by rcases hn with rfl|rfl|rfl<;>rfl
 refine l7 (mL ..) (aB _) ?_
 have e8:8*(n:Int)=((8*n:Nat):Int):=by omega
 have hlt:=nQ n hi lo
 have h32:2^(16*n)<=2^64:=cX (by decide) (by omega)
 have hu:uns (eW .i64 (cR hi n) ((8*n:Nat):Int))=cZ hi n*2^(8*n):=by
  unfold eW
  rw[cT,bu,show min (8*n) IntKind.i64.bits=8*n by simp[IntKind.bits];omega]
  have:0<=cR hi n:=by
   unfold cR
   rw[iN]
   exact eg _ (jf (cI (by decide)))
  have h3:=bX (cR hi n)
  rw[dD hh hs]at h3
  have hI:=gE hh hs
  unfold I64 at hI
  have h4:cR hi n=(cZ hi n:Int):=by omega
  rw[h4,<-nk,<-Int.natCast_mul,gX]
  refine gQ ?_ (dB hlt h32)
  exact Nat.le_add_right _ _
 rw[qe,e8,hu,dD hl hs,cT,gX (dB hlt h32)]
 unfold rH
 rw[cH,lA (jx lo n)]
theorem bit_top {N m:Nat}(h:N<2^(m+1)):N/2^m%2=1↔2^m<=N:=by
 have hp:=cE m
 rw[cP]at h
 have h1:N/2^m<2:=ja h
 have h2:1<=N/2^m↔2^m<=N:=by rw[nZ hp,jg]
 generalize N/2^m=q at*
 omega
theorem sx_nat {N m:Nat}(hm:m<=63)(h:N<2^(m+1)):sx m (IntKind.wrap .i64 (N:Int))=if 2^m<=N then(N:Int)-2^(m+1)else(N:Int):=by
 have h64:N<2^64:=dB h (cX (by decide) (by omega))
 have hu:IntKind.wrap .i64 (N:Int)%2^64=(N:Int):=by rw[<-bX,cT,gX h64]
 have hd:(2:Int)^(m+1)∣2^64:=⟨2^(63-m),by rw[<-jh];congr 1;omega⟩
 have hl:IntKind.wrap .i64 (N:Int)%2^(m+1)=(N:Int):=by
  rw[<-gP _ hd,hu,<-nk,<-dM,cb h]
 unfold sx
 rw[hu,hl]
 have e:((N:Int)/2^m%2=1)↔(2^m<=N):=by
  rw[<-bit_top h,<-nk,<-gf];omega
 simp only[e]
theorem Hd {v:Int}(hv:I64 v):dC .i64 v 63=if v<0 then -1 else 0:=by
 unfold I64 at hv
 unfold dC
 show Int.fdiv v (2^63)=_
 rw[i7 _ (by decide)]
 split<;>omega
theorem Id {n:Nat}(hn:n=1\/n=2\/n=4)(hi lo:Int):I64 (si true n hi lo)/\si true n hi lo=sx (16*n-1) (IntKind.wrap .i64 (rH n hi lo)):=by
 have e:si true n hi lo=sx (16*n-1) (IntKind.wrap .i64 (rH n hi lo)):=by
  have hlt:=nQ n hi lo
  rw[sx_nat (by omega) (by rw[show 16*n-1+1=16*n by omega];exact hlt)]
  unfold si
  rw[show 16*n-1+1=16*n by omega]
  simp only[true_and]
 refine⟨?_,e⟩
 rw[e]
 exact jv _ (by omega) _
theorem F0 {n:Nat}{hi lo:Int}(hn:di (n:Int)=true)(hh:I64 hi)(hl:I64 lo)(sg:Bool):
  ∃h l,kj (((n:Int),hi,lo,sg,()),())=some ((h,l,()),())/\I64 h/\I64 l/\
   ((uns h:Int)*18446744073709551616+uns l=if si sg n hi lo<0 then si sg n hi lo+340282366920938463463374607431768211456 else si sg n hi lo)/\(sg=true->(h<0↔si sg n hi lo<0)):=by
 unfold kj
 dsimp only
 by_cases h8:n=8
 ·subst h8
  rw[bK (by rfl),aV]
  refine⟨hi,lo,rfl,hh,hl,?_,?_⟩
  ·have hN:=FA hi lo
   have h1:=gA hi
   have h2:=gA lo
   unfold si
   rw[show(2:Nat)^(16*8-1)=170141183460469231731687303715884105728 from rfl,show(2:Int)^(16*8)=340282366920938463463374607431768211456 from rfl]
   have hlt:rH 8 hi lo<340282366920938463463374607431768211456:=nQ 8 hi lo
   by_cases hc:sg=true/\170141183460469231731687303715884105728<=rH 8 hi lo
   ·rw[aa hc];omega
   ·rw[ae hc];omega
  ·rintro rfl
   have hN:=FA hi lo
   have h1:=bX hi
   have h2:=gA lo
   unfold si
   rw[show(2:Nat)^(16*8-1)=170141183460469231731687303715884105728 from rfl,show(2:Int)^(16*8)=340282366920938463463374607431768211456 from rfl]
   have hlt:rH 8 hi lo<340282366920938463463374607431768211456:=nQ 8 hi lo
   unfold I64 at hh
   simp only[true_and]
   by_cases hc:170141183460469231731687303715884105728<=rH 8 hi lo
   ·rw[aa hc];omega
   ·rw[ae hc];omega
 ·have h3:n=1\/n=2\/n=4:=by rcases AS hn with h|h|h|h<;>omega
  rw[aD (show(n:Int)≠8 by omega),ap,cG _ n hn,cG _ n hn,af,af]
  dsimp only
  rw[dh (a:=8),ag (gY),join_n h3 hh hl]
  cases sg with
  |true=>
   rw[aV,dh (a:=2),qb _ _ (by omega) (by omega),af]
   dsimp only
   rw[show(8*(2*(n:Int))-1).toNat=16*n-1 by omega]
   obtain⟨hI,he⟩:=Id h3 hi lo
   rw[<-he]
   generalize si true n hi lo=X at*
   refine⟨_,_,rfl,by rw[Hd hI];split<;>(unfold I64;omega),hI,?_,?_⟩
   ·rw[Hd hI]
    have hc:=bX X
    unfold I64 at hI
    by_cases hX:X<0
    ·rw[aa hX,aa hX,show uns (-1)=18446744073709551615 from rfl];omega
    ·rw[ae hX,ae hX,show uns 0=0 from rfl];omega
   ·intro _
    rw[Hd hI]
    by_cases hX:X<0
    ·rw[aa hX];omega
    ·rw[ae hX];omega
  |false=>
   rw[ap]
   refine⟨_,_,rfl,by unfold I64;omega,aB _,?_,fun h=>by cases h⟩
   have hlt:=nQ n hi lo
   have h64:rH n hi lo<2^64:=dB hlt (cX (by decide) (by omega))
   rw[cT,gX h64]
   have e:si false n hi lo=(rH n hi lo:Int):=ae (fun h=>by cases h.1)
   rw[e,iN,show uns 0=0 from rfl]
   omega
theorem BU {h l:Int}:∃h' l',iR ((h,l,()),())=some ((h',l',()),())/\I64 h'/\I64 l'/\
  (uns h':Int)*18446744073709551616+uns l'=(340282366920938463463374607431768211456-((uns h:Int)*18446744073709551616+uns l))%340282366920938463463374607431768211456:=by
 have hh:=gA h
 have hl:=gA l
 have hu:∀v,y4 (an .u64 v)=true:=fun v=>by
  rw[gy]
  have:=gA v
  exact dT
 unfold iR
 dsimp only
 rw[hu,hu,show y4 0=true from rfl,show EN 0=true from rfl,aV,aV,aV,aV,aV]
 have hc:EN (pw 0 (an .u64 l) 0)=true:=by
  unfold pw EN
  split<;>rfl
 rw[hc,aV,gy,gy]
 refine⟨_,_,rfl,aB _,aB _,?_⟩
 unfold an
 have e:∀z:Int,((uns (z%18446744073709551616):Nat):Int)=z%18446744073709551616:=fun z=>by
  rw[bX,show(2:Int)^64=18446744073709551616 from rfl];omega
 rw[cT,cT]
 unfold rB pw
 rw[e,e]
 generalize uns h=a at*
 generalize uns l=b at*
 split<;>omega
theorem xE {h l d:Int}:
  gF ((h,l,d,()),())=some (if uns d<=uns h then((0,0,16,()),())else((IntKind.wrap .i64 (((uns h*18446744073709551616+uns l)/uns d:Nat):Int),IntKind.wrap .i64 (((uns h*18446744073709551616+uns l)%uns d:Nat):Int),0,()),())):=by
 unfold gF fe
 dsimp only
 rw[af,gy,gy,gy]
 dsimp only
 by_cases hc:uns d<=uns h
 ·rw[kJ,eF,aV,aa hc]
 ·rw[kN,eu,ap,HT (by omega) (gA d) (gA l),af,ae hc]
  rfl
theorem Hv {n:Nat}(hn:di (n:Int)=true)(d:Int):sx (8*n-1) (cR d n)=sx (8*n-1) d:=by
 have h18:=fw hn
 unfold cR
 by_cases h8:n=8
 ·rw[aa h8]
 ·rw[ae h8]
  have h3:n=1\/n=2\/n=4:=by rcases AS hn with h|h|h|h<;>omega
  unfold sx
  rcases h3 with rfl|rfl|rfl
  ·rw[show(2:Int)^(8*1-1+1)=256 from rfl,show(2:Int)^(8*1-1)=128 from rfl,show(2:Int)^64=18446744073709551616 from rfl]
   split<;>split<;>omega
  ·rw[show(2:Int)^(8*2-1+1)=65536 from rfl,show(2:Int)^(8*2-1)=32768 from rfl,show(2:Int)^64=18446744073709551616 from rfl]
   split<;>split<;>omega
  ·rw[show(2:Int)^(8*4-1+1)=4294967296 from rfl,show(2:Int)^(8*4-1)=2147483648 from rfl,show(2:Int)^64=18446744073709551616 from rfl]
   split<;>split<;>omega
def zx (M B:Nat):Bool:=decide (B*18446744073709551616<=M)
def zy (t:Bool)(n q:Nat):Bool:=if t=true then decide (2^(8*n-1)<q)else decide (2^(8*n-1)<=q)
def EO (X D:Int):Bool:=decide (X<0) != decide (D<0)
def negI (t:Bool)(q:Nat):Int:=if t=true then -(q:Int)else(q:Int)
def Kd (sg:Bool)(n:Nat)(X D:Int)(q r:Nat):Int×Int×Bool:=
 if zx X.natAbs D.natAbs=true then(0,0,false)
 else if sg=false then(nU n (q:Int),nU n (r:Int),decide (q<2^(8*n)))
 else if zy (EO X D) n q=true then(0,0,false)
 else(nU n (negI (EO X D) q),nU n (negI (decide (X<0)) r),true)
def xX (op:Int)(n:Nat)(hi lo d:Int):Int×Int×Bool:=
 Kd (decide (op=16)) n (si (decide (op=16)) n hi lo) (rb (decide (op=16)) n d) ((si (decide (op=16)) n hi lo).natAbs/(rb (decide (op=16)) n d).natAbs) ((si (decide (op=16)) n hi lo).natAbs%(rb (decide (op=16)) n d).natAbs)
theorem uz {n:Nat}(hn:di (n:Int)=true)(z:Int):cR (IntKind.wrap .i64 z) n=nU n z:=by
 refine tD hn (aB _) ?_
 rw[cT,bX,gP z (by have:=FH (fw hn).2;exact this)]
theorem oR {a b:Int}(h:a%18446744073709551616=b%18446744073709551616):IntKind.wrap .i64 a=IntKind.wrap .i64 b:=by
 simp only[IntKind.wrap,IntKind.bits,show(2:Int)^64=18446744073709551616 from rfl,h]
theorem qj (x:Int):IntKind.wrap .i64 x%18446744073709551616=x%18446744073709551616:=by
 have:=cT x
 have h1:=bX (IntKind.wrap .i64 x)
 have h2:=bX x
 rw[this]at h1
 rw[show(2:Int)^64=18446744073709551616 from rfl]at h1 h2
 omega
theorem Dc (z:Int):bo .i64 0 (IntKind.wrap .i64 z)=IntKind.wrap .i64 (-z):=by
 unfold bo
 refine oR ?_
 have:=qj z
 omega
theorem FB {sg:Bool}{n:Nat}(hn:di (n:Int)=true)(hi lo:Int): -170141183460469231731687303715884105728<=si sg n hi lo/\si sg n hi lo<340282366920938463463374607431768211456/\(sg=false->0<=si sg n hi lo):=by
 have hlt:=nQ n hi lo
 unfold si
 generalize rH n hi lo=N at*
 rcases AS hn with rfl|rfl|rfl|rfl
 ·rw[show(2:Nat)^(16*1)=65536 from rfl]at hlt
  rw[show(2:Nat)^(16*1-1)=32768 from rfl,show(2:Int)^(16*1)=65536 from rfl]
  split
  ·rename_i h;exact⟨by omega,by omega,fun g=>by rw[g]at h;cases h.1⟩
  ·omega
 ·rw[show(2:Nat)^(16*2)=4294967296 from rfl]at hlt
  rw[show(2:Nat)^(16*2-1)=2147483648 from rfl,show(2:Int)^(16*2)=4294967296 from rfl]
  split
  ·rename_i h;exact⟨by omega,by omega,fun g=>by rw[g]at h;cases h.1⟩
  ·omega
 ·rw[show(2:Nat)^(16*4)=18446744073709551616 from rfl]at hlt
  rw[show(2:Nat)^(16*4-1)=9223372036854775808 from rfl,show(2:Int)^(16*4)=18446744073709551616 from rfl]
  split
  ·rename_i h;exact⟨by omega,by omega,fun g=>by rw[g]at h;cases h.1⟩
  ·omega
 ·rw[show(2:Nat)^(16*8)=340282366920938463463374607431768211456 from rfl]at hlt
  rw[show(2:Nat)^(16*8-1)=170141183460469231731687303715884105728 from rfl,show(2:Int)^(16*8)=340282366920938463463374607431768211456 from rfl]
  split
  ·rename_i h;exact⟨by omega,by omega,fun g=>by rw[g]at h;cases h.1⟩
  ·omega
theorem Gp {n:Nat}(hn:di (n:Int)=true):uns (eW .i64 1 (8*(n:Int)-1))=2^(8*n-1):=by
 rcases AS hn with rfl|rfl|rfl|rfl<;>decide +kernel
theorem zc (a b:Int):fe ((a,b,()),())=some (decide (uns a<uns b),()):=by
 unfold fe
 dsimp only
 rw[gy,gy]
 unfold ltI
 simp only[ka]
theorem Ik {n:Nat}(hn:di (n:Int)=true){q:Nat}(hq:q<18446744073709551616):eqI (nU n (q:Int)) (IntKind.wrap .i64 (q:Int))=decide (q<2^(8*n)):=by
 unfold eqI
 have h1:=AL n (fw hn).2 (q:Int)
 have h2:uns (IntKind.wrap .i64 (q:Int))=q:=by rw[cT,gX hq]
 have h3:((q:Int)%2^(8*n)).toNat=q%2^(8*n):=by
  rw[<-nk,<-dM,bu]
 rw[h3]at h1
 by_cases h:q<2^(8*n)
 ·rw[aF h]
  refine aF (l7 (lQ ..) (aB _) ?_)
  rw[h1,h2,cb h]
 ·rw[aP h]
  refine aP (fun he=>?_)
  rw[he,h2]at h1
  have:=cr q (cE (8*n))
  omega
theorem FC {op hi lo d:Int}{n:Nat}(hn:di (n:Int)=true)(hh:I64 hi)(hl:I64 lo)(hd:I64 d):
  jk ((op,(n:Int),hi,lo,d,()),())=some (((xX op n hi lo d).1,(xX op n hi lo d).2.1,(xX op n hi lo d).2.2,()),()):=by
 obtain⟨h1,h8⟩:=fw hn
 unfold jk
 dsimp only
 obtain⟨sg,hsg⟩:∃sg:Bool,sg=decide (op=16):=⟨_,rfl⟩
 have heq:eqI op 16=sg:=by rw[hsg];rfl
 rw[heq]
 obtain⟨h,l,e1,hI,lI,hX,hlt⟩:=F0 hn hh hl sg
 rw[e1,af,cG _ n hn,af]
 dsimp only
 have hxb:=FB (sg:=sg) hn hi lo
 unfold xX
 rw[<-hsg]
 obtain⟨X,hXe⟩:∃X,X=si sg n hi lo:=⟨_,rfl⟩
 obtain⟨D,hDe⟩:∃D,D=rb sg n d:=⟨_,rfl⟩
 have hDb:=Kh sg hn d
 rw[<-hXe]at hX hlt hxb
 rw[<-hDe]at hDb
 rw[<-hXe,<-hDe]
 obtain⟨q,hq⟩:∃q,q=X.natAbs/D.natAbs:=⟨_,rfl⟩
 obtain⟨r,hr⟩:∃r,r=X.natAbs%D.natAbs:=⟨_,rfl⟩
 rw[<-hq,<-hr]
 obtain⟨D1,hD1⟩:∃D1,D1=if sg=true then D else cR d n:=⟨_,rfl⟩
 refine(Ret.bnd (Q:=fun y=>y=Sum.inl (((n:Int),h,l,D1,sg,()),())) ?_ ?_).eq
 ·cases sg with
  |true=>
   rw[aV,qb _ _ (by omega) (by omega),af,show(8*(n:Int)-1).toNat=8*n-1 by omega,Hv hn,hD1,aa rfl,hDe]
   exact Ret.some rfl
  |false=>
   rw[ap,hD1,iD]
   exact Ret.some rfl
 rintro _ rfl
 rw[am]
 dsimp only
 have hbel:br sg (some (ltI h 0)) (some false)=some (decide (X<0)):=by
  cases sg with
  |true=>rw[aV];unfold ltI;simp only[hlt rfl]
  |false=>rw[ap,aP (show ¬X<0 by have:=hxb.2.2 rfl;omega)]
 rw[hbel,af]
 refine Ret.bnd (Q:=fun y=>∃h' l',I64 h'/\I64 l'/\uns h'*18446744073709551616+uns l'=X.natAbs/\y=Sum.inl (((n:Int),h',l',D1,sg,decide (X<0),false,()),())) ?_ ?_
 ·by_cases hx:X<0
  ·rw[aF hx,aV]
   obtain⟨h',l',e2,hI',lI',hO⟩:=BU (h:=h) (l:=l)
   rw[e2,af]
   refine Ret.some ⟨h',l',hI',lI',?_,rfl⟩
   rw[hX,aa hx]at hO
   omega
  ·rw[aP hx,ap]
   refine Ret.some ⟨h,l,hI,lI,?_,rfl⟩
   rw[ae hx]at hX
   omega
 rintro _ ⟨h',l',hI',lI',hM,rfl⟩
 rw[am]
 dsimp only
 have htur:br sg (some (ltI D1 0)) (some false)=some (decide (D<0)):=by
  cases sg with
  |true=>rw[aV,hD1,aa rfl];rfl
  |false=>rw[ap,aP (show ¬D<0 by have:=hDb.2.2.2 rfl;omega)]
 rw[htur,af]
 refine Ret.bnd (Q:=fun y=>∃d',uns d'=D.natAbs/\y=Sum.inl (((n:Int),h',l',d',sg,decide (X<0),decide (D<0),()),())) ?_ ?_
 ·have hb63:sg=true-> -9223372036854775808<=D/\D<9223372036854775808:=fun g=>by
   have h5:(2:Nat)^(8*n-1)<=2^63:=cX (by decide) (by omega)
   have h6:(2:Int)^(8*n-1)<=9223372036854775808:=by
    have:=nk (8*n-1)
    rw[<-this];exact Int.ofNat_le.2 h5
   have:=hDb.1
   have:=hDb.2.2.1 g
   omega
  by_cases hx:D<0
  ·have hs:sg=true:=by
    cases sg with
    |true=>rfl
    |false=>have:=hDb.2.2.2 rfl;omega
   subst hs
   rw[aF hx,aV,hD1,aa rfl]
   refine Ret.some ⟨bo .i64 0 D,?_,rfl⟩
   have hb:=hb63 rfl
   unfold bo
   rw[cT,show 0-D=((D.natAbs:Nat):Int)by omega,gX (by omega)]
  ·rw[aP hx,ap]
   refine Ret.some ⟨D1,?_,rfl⟩
   cases sg with
   |true=>
    rw[hD1,aa rfl]
    have hb:=hb63 rfl
    obtain⟨k,hk⟩:∃k:Nat,D=k:=⟨D.natAbs,by omega⟩
    rw[hk,gX (by omega),Int.natAbs_natCast]
   |false=>
    rw[hD1,iD,dD hd hn,hDe]
    unfold rb
    rw[iD,Int.natAbs_natCast]
 rintro _ ⟨d',hd',rfl⟩
 rw[am]
 dsimp only[p5,p6]
 rw[xE,af,hM,hd']
 have hl64:=gA l'
 by_cases hov:D.natAbs<=uns h'
 ·have hb:zx X.natAbs D.natAbs=true:=dT
  unfold Kd
  rw[aa hov,aa hb]
  exact Ret.some rfl
 have hb:¬zx X.natAbs D.natAbs=true:=fun g=>by
  have:=bh g
  omega
 rw[ae hov]
 dsimp only
 have hq64:q<18446744073709551616:=by rw[hq];exact ja (by omega)
 rw[<-hq,<-hr,show bm (eqI 0 0)=false from rfl,ap]
 clear hov hXe hDe hq hr hM hd' hxb hDb hbel htur hD1
 cases sg with
 |false=>
  rw[show bm false=true from rfl,aV,cG _ n hn,cG _ n hn,af,af,af]
  dsimp only
  rw[uz hn,uz hn,Ik hn hq64]
  unfold Kd
  rw[ae hb,aa rfl]
  exact Ret.some rfl
 |true=>
  rw[show bm true=false from rfl,ap]
  rw[dh (a:=8),bN,ag (gY),zc,zc,af,af,Gp hn,cT,gX hq64]
  have hnB:∀a b:Bool,bm (eqB a b)=(a != b):=fun a b=>by cases a<;>cases b<;>rfl
  rw[hnB,show(decide (X<0) != decide (D<0))=EO X D from rfl]
  dsimp only
  unfold Kd
  rw[ae hb,ae (show ¬true=false by decide)]
  obtain⟨t,ht⟩:∃t:Bool,t=EO X D:=⟨_,rfl⟩
  rw[<-ht]
  by_cases hf:zy t n q=true
  ·rw[aa hf]
   refine Ret.bnd (Q:=fun y=>y=Sum.inr ((0,0,false,()),())) ?_ ?_
   ·cases t with
    |true=>
     have hf':2^(8*n-1)<q:=bh hf
     rw[aV,aF hf',aV]
     exact Ret.some rfl
    |false=>
     have hf':2^(8*n-1)<=q:=bh hf
     rw[ap,dF,show bm false=true from rfl,aV]
     exact Ret.some rfl
   ·rintro _ rfl
    rw[rC]
    exact Ret.some rfl
  ·rw[ae hf]
   refine Ret.bnd (Q:=fun y=>y=Sum.inl (((n:Int),decide (X<0),IntKind.wrap .i64 (negI t q),IntKind.wrap .i64 (r:Int),()),())) ?_ ?_
   ·cases t with
    |true=>
     have hf':¬2^(8*n-1)<q:=fun g=>hf (aF g)
     rw[aV,aP hf',ap,Dc]
     exact Ret.some rfl
    |false=>
     have hf':¬2^(8*n-1)<=q:=fun g=>hf (aF g)
     rw[ap,dT,show bm true=false from rfl,ap]
     exact Ret.some rfl
   rintro _ rfl
   rw[am]
   dsimp only
   refine Ret.bnd (Q:=fun y=>y=Sum.inl (((n:Int),IntKind.wrap .i64 (negI t q),IntKind.wrap .i64 (negI (decide (X<0)) r),()),())) ?_ ?_
   ·cases decide (X<0)with
    |true=>
     rw[aV,Dc]
     exact Ret.some rfl
    |false=>
     rw[ap]
     exact Ret.some rfl
   rintro _ rfl
   rw[am]
   dsimp only
   rw[cG _ n hn,cG _ n hn,af,af]
   dsimp only
   rw[uz hn,uz hn]
   exact Ret.some rfl
theorem CJ {op hi lo d:Int}{n:Nat}:I64 (xX op n hi lo d).1/\I64 (xX op n hi lo d).2.1:=by
 have z:I64 0:=by unfold I64;omega
 unfold xX Kd
 split
 ·exact⟨z,z⟩
 split
 ·exact⟨lQ ..,lQ ..⟩
 split
 ·exact⟨z,z⟩
 ·exact⟨lQ ..,lQ ..⟩
structure AddInv (A B c0 i out c:Nat):Prop where
 lo:out<2^i
 hc:c<=1
 e:out+2^i*c=A%2^i+B%2^i+c0
structure SubInv (A B c0 i out c:Nat):Prop where
 lo:out<2^i
 hc:c<=1
 e:out+B%2^i+c0=A%2^i+2^i*c
theorem AddInv.init {A B c0:Nat}(h:c0<=1):AddInv A B c0 0 0 c0:=⟨by decide,h,by omega⟩
theorem SubInv.init {A B c0:Nat}(h:c0<=1):SubInv A B c0 0 0 c0:=⟨by decide,h,by omega⟩
theorem ud (A i:Nat):A/2^i%2=0\/A/2^i%2=1:=by omega
theorem AddInv.step {A B c0 i out c:Nat}(h:AddInv A B c0 i out c):
  AddInv A B c0 (i+1) (out+2^i*((A/2^i%2+B/2^i%2+c)%2)) ((A/2^i%2+B/2^i%2+c)/2):=by
 obtain⟨h1,h2,h3⟩:=h
 have hp:=cE i
 have hx:=ud A i
 have hy:=ud B i
 have hc:c=0\/c=1:=by omega
 refine⟨?_,?_,?_⟩
 ·rw[cP]
  rcases hx with hx|hx<;>rcases hy with hy|hy<;>rcases hc with hc|hc<;>rw[hx,hy,hc]<;>simp only[Nat.reduceAdd,Nat.reduceMod,mD,eB]<;>omega
 ·omega
 ·rw[qC,qC,cP]
  generalize A%2^i=a at*
  generalize B%2^i=b at*
  rcases hx with hx|hx<;>rcases hy with hy|hy<;>rcases hc with hc|hc<;>rw[hc]at h3<;>rw[hx,hy,hc]<;>simp only[Nat.reduceAdd,Nat.reduceMod,Nat.reduceDiv,mD,eB]at* <;>omega
theorem SubInv.step {A B c0 i out c:Nat}(h:SubInv A B c0 i out c):
  SubInv A B c0 (i+1) (out+2^i*((A/2^i%2+2-B/2^i%2-c)%2)) (if A/2^i%2+2-B/2^i%2-c<2 then 1 else 0):=by
 obtain⟨h1,h2,h3⟩:=h
 have hp:=cE i
 have hx:=ud A i
 have hy:=ud B i
 have hc:c=0\/c=1:=by omega
 refine⟨?_,?_,?_⟩
 ·rw[cP]
  rcases hx with hx|hx<;>rcases hy with hy|hy<;>rcases hc with hc|hc<;>rw[hx,hy,hc]<;>simp only[Nat.reduceAdd,Nat.reduceSub,Nat.reduceMod,mD,eB]<;>omega
 ·split<;>omega
 ·rw[qC,qC,cP]
  generalize A%2^i=a at*
  generalize B%2^i=b at*
  rcases hx with hx|hx<;>rcases hy with hy|hy<;>rcases hc with hc|hc<;>rw[hc]at h3<;>rw[hx,hy,hc]<;>simp only[Nat.reduceAdd,Nat.reduceSub,Nat.reduceMod,mD,eB,Nat.reduceLT,if_true,if_false]at* <;>omega
theorem AddInv.fin {A B c0 i out c:Nat}(h:AddInv A B c0 i out c):out=(A%2^i+B%2^i+c0)%2^i/\c=(A%2^i+B%2^i+c0)/2^i:=by
 obtain⟨h1,h2,h3⟩:=h
 rw[<-h3]
 constructor
 ·rw[qn,cb h1]
 ·rw[qx _ _ (cE i),mY h1,eP]
theorem SubInv.fin {A B c0 i out c:Nat}(h:SubInv A B c0 i out c):out%2^i=(A%2^i+2^i-B%2^i-c0)%2^i/\c=(if A%2^i<B%2^i+c0 then 1 else 0):=by
 obtain⟨h1,h2,h3⟩:=h
 have hp:=cE i
 have hA:=cr A hp
 have hB:=cr B hp
 generalize A%2^i=a at*
 generalize B%2^i=b at*
 generalize 2^i=P at*
 have hc:c=0\/c=1:=by omega
 rcases hc with rfl|rfl
 ·rw[mD]at h3
  constructor
  ·rw[show a+P-b-c0=out+P by omega,Nat.add_mod_right]
  ·rw[iN]
 ·rw[eB]at h3
  constructor
  ·rw[show a+P-b-c0=out by omega]
  ·rw[iP]
structure WideInv (a b k:Nat)(h l:Int):Prop where
 h0:0<=h
 l0:0<=l
 hl:l<18446744073709551616
 e:h*18446744073709551616+l=((a*(b/2^k):Nat):Int)
theorem WideInv.init {a b:Nat}(hb:b<18446744073709551616):WideInv a b 64 0 0:=⟨by omega,by omega,by omega,by rw[mY hb];rfl⟩
theorem zI (b k:Nat):b/2^k=2*(b/2^(k+1))+b/2^k%2:=by
 rw[cP,<-oC]
 omega
theorem KM (a b k:Nat):a*(b/2^k)=2*(a*(b/2^(k+1)))+a*(b/2^k%2):=by
 have h4:a*(b/2^k)=a*(2*(b/2^(k+1))+b/2^k%2):=congrArg _ (zI b k)
 rw[h4,kb,Nat.mul_left_comm]
theorem HF {a b:Nat}(k:Nat)(ha:a<18446744073709551616)(hb:b<18446744073709551616):((a*(b/2^k):Nat):Int)<340282366920938463463374607431768211456:=by
 have:a*(b/2^k)<18446744073709551616*18446744073709551616:=Nat.mul_lt_mul'' ha (gQ (oo _ _) hb)
 exact ka.2 this
theorem wide0I {h l p p1:Int}(l0:0<=l)(h0:0<=h)(h2:h*18446744073709551616+l=p1)(e:p=2*p1+0)(h1:l<18446744073709551616)(hq:p<340282366920938463463374607431768211456):
  (h*2+l/9223372036854775808)%18446744073709551616*18446744073709551616+l*2%18446744073709551616=p:=by omega
theorem wide1I {h l a p p1 l' h':Int}(l0:0<=l)(h0:0<=h)(a0:0<=a)(h2:h*18446744073709551616+l=p1)(e:p=2*p1+a)(h1:l<18446744073709551616)(ha:a<18446744073709551616)(hq:p<340282366920938463463374607431768211456)
  (e1:h'=(h*2+l/9223372036854775808)%18446744073709551616) (e2:l'=l*2%18446744073709551616):
  ((l'+a)%18446744073709551616<l'->(h'+1)%18446744073709551616*18446744073709551616+(l'+a)%18446744073709551616=p)/\(¬(l'+a)%18446744073709551616<l'->h'*18446744073709551616+(l'+a)%18446744073709551616=p):=by constructor<;>intro g<;>omega
theorem WideInv.step0 {a b k:Nat}{h l:Int}(ha:a<18446744073709551616)(hb:b<18446744073709551616)(H:WideInv a b (k+1) h l)(h0:b/2^k%2=0):
  WideInv a b k ((h*2+l/9223372036854775808)%18446744073709551616) (l*2%18446744073709551616):=by
 obtain⟨h1,h3,h4,h2⟩:=H
 have hq:=HF k ha hb
 have e:=KM a b k
 rw[h0,mD]at e
 exact⟨by omega,by omega,by omega,wide0I h3 h1 h2 (by omega) h4 hq⟩
theorem WideInv.step1 {a b k:Nat}{h l h' l':Int}(ha:a<18446744073709551616)(hb:b<18446744073709551616)(H:WideInv a b (k+1) h l)(h0:b/2^k%2=1)
  (e1:h'=(h*2+l/9223372036854775808)%18446744073709551616) (e2:l'=l*2%18446744073709551616):
  ((l'+a)%18446744073709551616<l'->WideInv a b k ((h'+1)%18446744073709551616) ((l'+a)%18446744073709551616))/\(¬(l'+a)%18446744073709551616<l'->WideInv a b k h' ((l'+a)%18446744073709551616)):=by
 obtain⟨h1,h3,h4,h2⟩:=H
 have hq:=HF k ha hb
 have e:=KM a b k
 rw[h0,eB]at e
 have:=wide1I (h:=h) (l:=l) (a:=a) h3 h1 (by omega) h2 (by omega) h4 (by omega) hq e1 e2
 exact⟨fun g=>⟨by omega,by omega,by omega,this.1 g⟩,fun g=>⟨by omega,by omega,by omega,this.2 g⟩⟩
theorem WideInv.fin {a b:Nat}{h l:Int}(H:WideInv a b 0 h l):h=((a*b/18446744073709551616:Nat):Int)/\l=((a*b%18446744073709551616:Nat):Int):=by
 obtain⟨h1,h3,h4,h2⟩:=H
 rw[Nat.pow_zero,mF]at h2
 rw[gf,dM]
 obtain⟨p,hp⟩:∃p,p=a*b:=⟨_,rfl⟩
 rw[<-hp]at h2|-
 omega
structure QuoInv (hi lo d k q r:Nat):Prop where
 lt:r<d
 e:hi*2^(64-k)+lo/2^k=q*d+r
theorem QuoInv.init {hi lo d:Nat}(h:hi<d)(hl:lo<18446744073709551616):QuoInv hi lo d 64 0 hi:=⟨h,by rw[mY hl];simp⟩
theorem QuoInv.step {hi lo d k q r:Nat}(hk:k<64)(H:QuoInv hi lo d (k+1) q r):
  (r*2+lo/2^k%2<d->QuoInv hi lo d k (q*2) (r*2+lo/2^k%2))/\(d<=r*2+lo/2^k%2->QuoInv hi lo d k (q*2+1) (r*2+lo/2^k%2-d)):=by
 obtain⟨h1,h2⟩:=H
 have hs:=zI lo k
 have e1:hi*2^(64-k)=2*(hi*2^(64-(k+1))):=by
  rw[show 64-k=64-(k+1)+1 by omega,cP]
  generalize 2^(64-(k+1))=P
  rw[<-kU,cH]
 have e2:hi*2^(64-k)+lo/2^k=q*2*d+(r*2+lo/2^k%2):=by
  rw[Nat.mul_right_comm,e1]
  generalize hi*2^(64-(k+1))=p at*
  generalize q*d=s at*
  omega
 refine⟨fun h=>⟨h,e2⟩,fun h=>⟨by omega,?_⟩⟩
 rw[e2,ci,jg]
 generalize q*2*d=s at*
 omega
theorem QuoInv.fin {hi lo d q r:Nat}(H:QuoInv hi lo d 0 q r):q=(hi*18446744073709551616+lo)/d/\r=(hi*18446744073709551616+lo)%d:=by
 obtain⟨h1,h2⟩:=H
 have e:hi*18446744073709551616+lo=r+d*q:=by
  rw[cH d q,ou r,<-h2]
  simp
 rw[e]
 constructor
 ·rw[qx _ _ (by omega),mY h1,eP]
 ·rw[qn,cb h1]
theorem Fm (v:Int)(k:Nat)(hk:k<=63):bg ((v,(k:Int),()),())=some (((uns v/2^k%2:Nat):Int),()):=by
 rw[pL _ _ (by omega) (by omega),bu,<-bX]
 simp
theorem HL (v:Int)(k:Nat):eqI ((uns v/2^k%2:Nat):Int) 1=oU v k:=by
 rw[kD,oA]
 unfold eqI
 rw[bv,aG,aG]
 omega
theorem nF (b:Bool)(k:Int):cW ((b,k,()),())=some (if b=true then k else 0,()):=by
 unfold cW
 cases b<;>rfl
theorem zX (b:Bool):ib ((b,()),())=some (if b=true then 1 else 0,()):=by
 unfold ib
 cases b<;>rfl
def Aj (u:Nat):Nat->Nat
 |0=>0
 |k+1=>Aj u k+u/2^k%2
theorem I5 (u k:Nat):Aj u k<=k:=by
 induction k with
 |zero=>exact bV 0
 |succ k ih=>unfold Aj;omega
theorem Jt (u:Nat)(h:u<256):parL.getD u false=((u%2+u/2%2+u/4%2+u/8%2+u/16%2+u/32%2+u/64%2+u/128%2)%2==0):=by
 unfold parL
 rw[ec,lD,List.getElem?_range h]
 rfl
theorem pA (u k:Nat)(hk:k<8):u%256/2^k%2=u/2^k%2:=by
 have h:256=2^k*2^(8-k):=by rw[<-eD,show k+(8-k)=8 by omega]
 have h2:2^(8-k)=2*2^(7-k):=by rw[show 8-k=7-k+1 by omega,cP,cH]
 rw[h,mU,h2,Nat.mod_mul_right_mod]
theorem GS (v:Int):eqI (gC ((Aj (uns v) 8:Nat):Int) 2) 0=Js v:=by
 unfold Js
 rw[Jt _ (cr _ (by decide)),cS]
 generalize uns v=u
 have b0:=pA u 0 (by decide)
 have b1:=pA u 1 (by decide)
 have b2:=pA u 2 (by decide)
 have b3:=pA u 3 (by decide)
 have b4:=pA u 4 (by decide)
 have b5:=pA u 5 (by decide)
 have b6:=pA u 6 (by decide)
 have b7:=pA u 7 (by decide)
 rw[show(2:Nat)^0=1 from rfl,mF,mF]at b0
 rw[show(2:Nat)^1=2 from rfl]at b1
 rw[show(2:Nat)^2=4 from rfl]at b2
 rw[show(2:Nat)^3=8 from rfl]at b3
 rw[show(2:Nat)^4=16 from rfl]at b4
 rw[show(2:Nat)^5=32 from rfl]at b5
 rw[show(2:Nat)^6=64 from rfl]at b6
 rw[show(2:Nat)^7=128 from rfl]at b7
 rw[b0,b1,b2,b3,b4,b5,b6,b7]
 have e:Aj u 8=u%2+u/2%2+u/4%2+u/8%2+u/16%2+u/32%2+u/64%2+u/128%2:=by
  show 0+u/2^0%2+u/2^1%2+u/2^2%2+u/2^3%2+u/2^4%2+u/2^5%2+u/2^6%2+u/2^7%2=_
  rw[eP,show(2:Nat)^0=1 from rfl,mF]
 rw[e]
 generalize u%2+u/2%2+u/4%2+u/8%2+u/16%2+u/32%2+u/64%2+u/128%2=t
 unfold eqI
 rw[bv,aG,beq_iff_eq]
 omega
theorem sm {v:Int}{n:Nat}(hn:di (n:Int)=true)(hv:I64 v):eL (((n:Int),v,()),())=some (AJ n v,()):=by
 obtain⟨h1,h8⟩:=fw hn
 unfold eL
 dsimp only
 refine(Ret.iter (fun x=>∃k:Nat,k<=8/\x=(((n:Int),v,((Aj (uns v) k:Nat):Int),(k:Int),()),())) (fun x=>8-x.1.2.2.2.1.toNat) ?_ F _ ⟨0,by omega,rfl⟩ (by unfold F;dsimp only;omega)).eq
 rintro _ rec ⟨k,hk,rfl⟩ hrec
 dsimp only at hrec|-
 by_cases h:k<8
 ·rw[ag (kN),Fm _ _ (by omega),af]
  dsimp only
  have:=I5 (uns v) k
  rw[aW,aW (a:=(k:Int))]
  exact hrec _ ⟨k+1,by omega,by
   rw[show Aj (uns v) (k+1)=Aj (uns v) k+uns v/2^k%2 from rfl,Int.natCast_add]
   rfl⟩ (by dsimp only;omega)
 ·obtain rfl:k=8:=by omega
  rw[aq (kJ),dh (a:=8),bN,show 8*(n:Int)-1=((8*n-1:Nat):Int)by omega,Fm _ _ (by omega),af]
  dsimp only
  rw[HL,nF,af,cc hv n hn,af]
  dsimp only
  rw[nF,af]
  dsimp only
  rw[GS,nF,af]
  refine Ret.some ?_
  unfold AJ
  simp only[lJ]
theorem bitOr {out i b:Nat}(h:out<2^i)(hb:b<=1)(hi:i<=63):ior .u64 (out:Int) (eW .u64 (b:Int) (i:Int))=((out+2^i*b:Nat):Int):=by
 have hp:2^(i+1)<=2^64:=cX (by decide) (by omega)
 have hl:b*2^i<2^64:=by
  have:b*2^i<=1*2^i:=ed _ hb
  rw[cP]at hp
  have:=cE i
  omega
 have hs:out+2^i*b<2^64:=by
  have:2^i*b<=2^i*1:=oe _ hb
  rw[cP]at hp
  omega
 rw[KG (by omega),cb hl]
 unfold ior
 rw[gB]
 have e1:(BitVec.ofInt IntKind.u64.bits (out:Int)|||BitVec.ofInt IntKind.u64.bits ((b*2^i:Nat):Int)).toNat=out|||b*2^i:=by
  rw[oq]
  show(BitVec.ofInt 64 (out:Int)).toNat|||(BitVec.ofInt 64 ((b*2^i:Nat):Int)).toNat=_
  have hh:∀k:Nat,k<2^64->(BitVec.ofInt 64 (k:Int)).toNat=k:=fun k hk=>by
   rw[gd]
   have:((k:Int)%((2^64:Nat):Int))=((k%2^64:Nat):Int):=(dM ..).symm
   rw[this,bu,cb hk]
  rw[hh _ (by omega),hh _ hl]
 rw[e1,Nat.or_comm,cH b,<-lA h,ou]
 have:((out+2^i*b:Nat):Int)<((2^64:Nat):Int):=ka.2 hs
 exact jb (by omega) this
theorem yL {i n:Nat}(h:i<=8*n)(v:Int):cZ v n%2^i=uns v%2^i:=by
 unfold cZ
 exact mX _ (ot 2 h)
theorem oL {a b:Int}{n c:Nat}(less:Bool)(hn:di (n:Int)=true)(hc:c<=1):
  df (((n:Int),a,b,(c:Int),less,()),())=some (((if less=true then xz n a b c else zb n a b c).1,(if less=true then xz n a b c else zb n a b c).2,()),()):=by
 obtain⟨h1,h8⟩:=fw hn
 unfold df
 dsimp only
 refine(Ret.iter (fun x=>∃i out c' into:Nat,i<=8*n/\(if less=true then SubInv (uns a) (uns b) c i out c' else AddInv (uns a) (uns b) c i out c')/\
   (∀j,i=j+1->∃out',if less=true then SubInv (uns a) (uns b) c j out' into else AddInv (uns a) (uns b) c j out' into)/\
   x=(((n:Int),(a,(b,(less,((out:Int),((c':Int),((into:Int),((i:Int),())))))))),())) (fun x=>8*n-(p7 x.1).toNat) ?_ F _ ⟨0,0,c,0,by omega,by cases less;exact AddInv.init hc;exact SubInv.init hc,fun j hj=>by omega,rfl⟩ (by unfold F;dsimp only[p7];omega)).eq
 rintro _ rec ⟨i,out,c',into,hi,hv,hin,rfl⟩ hrec
 dsimp only[p5,p6,p7,p8,d7]at hrec|-
 rw[dh (a:=8)]
 by_cases h:i<8*n
 ·rw[ag (kN),Fm _ _ (by omega),Fm _ _ (by omega),af,af]
  dsimp only
  have hx:=ud (uns a) i
  have hy:=ud (uns b) i
  have hwi:an .u64 (i:Int)=(i:Int):=dl
  have next:∀(d k:Nat),d<=1->k<=1->(if less=true then SubInv (uns a) (uns b) c (i+1) (out+2^i*d) k else AddInv (uns a) (uns b) c (i+1) (out+2^i*d) k)->
    Ret (br (leI 0 (an .u64 (i:Int))) (rec (((n:Int),a,b,less,(ior .u64 (out:Int) (eW .u64 (an .u64 (d:Int)) (an .u64 (i:Int)))),(k:Int),(c':Int),(aL .i64 (i:Int) 1),()),())) none) (fun z=>z=(((if less=true then xz n a b c else zb n a b c).1,(if less=true then xz n a b c else zb n a b c).2,()),())):=fun d k hd hk hinv=>by
   have hwd:an .u64 (d:Int)=(d:Int):=dl
   have hlo:out<2^i:=by cases less;exact hv.lo;exact hv.lo
   rw[hwi,hwd,ag (gY),bitOr hlo hd (by omega),aW]
   exact hrec _ ⟨i+1,_,k,c',by omega,hinv,fun j hj=>by
    obtain rfl:j=i:=by omega
    exact⟨out,hv⟩,rfl⟩ (by dsimp only;omega)
  cases less with
  |true=>
   rw[aV,zX,af,af,am]
   have hv:SubInv (uns a) (uns b) c i out c':=hv
   have hc':=hv.hc
   have st:=hv.step
   obtain⟨x,hx'⟩:∃x,x=uns a/2^i%2:=⟨_,rfl⟩
   obtain⟨y,hy'⟩:∃y,y=uns b/2^i%2:=⟨_,rfl⟩
   rw[<-hx']at hx st|-
   rw[<-hy']at hy st|-
   have e1:aL .i64 (bo .i64 (bo .i64 (x:Int) (y:Int)) (c':Int)) 2=((x+2-y-c':Nat):Int):=by
    rw[bN (a:=(x:Int)) (b:=(y:Int)),bN,aW];omega
   rw[e1,cS]
   have e2:((x+2-y-c':Nat):Int)%2=(((x+2-y-c')%2:Nat):Int):=by omega
   have e3:(if ltI ((x+2-y-c':Nat):Int) 2=true then(1:Int)else 0)=((if x+2-y-c'<2 then 1 else 0:Nat):Int):=by
    by_cases g:x+2-y-c'<2
    ·rw[kN,aa rfl,aa g];rfl
    ·rw[kJ,iD,ae g];rfl
   dsimp only
   rw[e2,e3]
   exact next _ _ (by omega) (by split<;>omega) st
  |false=>
   rw[ap,af,am]
   have hv:AddInv (uns a) (uns b) c i out c':=hv
   have hc':=hv.hc
   have st:=hv.step
   obtain⟨x,hx'⟩:∃x,x=uns a/2^i%2:=⟨_,rfl⟩
   obtain⟨y,hy'⟩:∃y,y=uns b/2^i%2:=⟨_,rfl⟩
   rw[<-hx']at hx st|-
   rw[<-hy']at hy st|-
   have e1:aL .i64 (aL .i64 (x:Int) (y:Int)) (c':Int)=((x+y+c':Nat):Int):=by
    rw[aW (a:=(x:Int)) (b:=(y:Int)),aW];omega
   rw[e1,cS,ig (by omega) (by decide) (by omega)]
   have e2:((x+y+c':Nat):Int)%2=(((x+y+c')%2:Nat):Int):=by omega
   have e3:((x+y+c':Nat):Int)/2=(((x+y+c')/2:Nat):Int):=by omega
   dsimp only
   rw[e2,e3]
   exact next _ _ (by omega) (by omega) st
 ·obtain rfl:i=8*n:=by omega
  obtain⟨out',hin⟩:=hin (8*n-1) (by omega)
  rw[aq (kJ)]
  have hV:an .i64 (out:Int)=(if less=true then JQ n a b c else sumV n a b c):=by
   cases less with
   |true=>
    have hv:SubInv (uns a) (uns b) c (8*n) out c':=hv
    rw[aa rfl]
    unfold JQ rc an
    have:=hv.fin.1
    unfold cZ
    rw[<-this,cb hv.lo]
   |false=>
    have hv:AddInv (uns a) (uns b) c (8*n) out c':=hv
    rw[iD]
    unfold sumV rc an
    have:=hv.fin.1
    unfold cZ
    rw[<-this]
  have hC:eqI (c':Int) 1=(if less=true then subC n a b c else sumC n a b c):=by
   cases less with
   |true=>
    have hv:SubInv (uns a) (uns b) c (8*n) out c':=hv
    rw[aa rfl]
    unfold subC cZ eqI
    have:=hv.fin.2
    rw[bv,aG,aG]
    by_cases g:uns a%2^(8*n)<uns b%2^(8*n)+c
    ·rw[aa g]at this;omega
    ·rw[ae g]at this;omega
   |false=>
    have hv:AddInv (uns a) (uns b) c (8*n) out c':=hv
    rw[iD]
    unfold sumC cZ eqI
    rw[<-hv.fin.2,bv,aG,aG]
    omega
  have hT:eqI (into:Int) 1=(if less=true then Hr n a b c else sumI n a b c)/\into<=1:=by
   cases less with
   |true=>
    have hin:SubInv (uns a) (uns b) c (8*n-1) out' into:=hin
    refine⟨?_,hin.hc⟩
    rw[aa rfl]
    unfold Hr eqI
    rw[yL (by omega),yL (by omega)]
    have:=hin.fin.2
    rw[bv,aG,aG]
    by_cases g:uns a%2^(8*n-1)<uns b%2^(8*n-1)+c
    ·rw[aa g]at this;omega
    ·rw[ae g]at this;omega
   |false=>
    have hin:AddInv (uns a) (uns b) c (8*n-1) out' into:=hin
    refine⟨?_,hin.hc⟩
    rw[iD]
    unfold sumI eqI
    rw[yL (by omega),yL (by omega),<-hin.fin.2,bv,aG,aG]
    omega
  have hc':c'<=1:=by cases less;exact hv.hc;exact hv.hc
  have hne:bm (eqI (c':Int) (into:Int))=(eqI (c':Int) 1 != eqI (into:Int) 1):=by
   have:=hT.2
   rw[neI]
   have a1:c'=0\/c'=1:=by omega
   have a2:into=0\/into=1:=by omega
   rcases a1 with rfl|rfl<;>rcases a2 with rfl|rfl<;>rfl
  rw[hV,sm hn (by split<;>exact nE _ _),af,nF,af,hne,hC,hT.1,nF,af]
  dsimp only
  refine Ret.some ?_
  cases less with
  |true=>rfl
  |false=>rfl
theorem yY {a b:Int}{n c:Nat}(hn:di (n:Int)=true)(ha:I64 a)(hb:I64 b):zb n (cR a n) (cR b n) c=zb n a b c:=by
 unfold zb sumV sumC sumI
 rw[qR ha hn,qR hb hn]
theorem uJ {a b:Int}{n c:Nat}(hn:di (n:Int)=true)(ha:I64 a)(hb:I64 b):xz n (cR a n) (cR b n) c=xz n a b c:=by
 unfold xz JQ subC Hr
 rw[qR ha hn,qR hb hn]
theorem Aa {v w:Int}{n:Nat}(hn:di (n:Int)=true)(hv:I64 v)(hw:I64 w)(h:cZ v n=cZ w n):cR v n=cR w n:=by rw[kI hv hn,kI hw hn,h]
theorem xB {v w:Int}{n:Nat}(hn:di (n:Int)=true)(hv:I64 v)(hw:I64 w)(h:cZ v n=cZ w n):AJ n v=AJ n w:=by
 obtain⟨h1,h8⟩:=fw hn
 unfold AJ
 rw[mi (n:=n) (by omega),mi (v:=w) (n:=n) (by omega),h,Aa hn hv hw h]
 have hp:Js v=Js w:=by
  unfold Js
  have e:∀v:Int,uns v%256=cZ v n%256:=fun v=>by
   unfold cZ
   rw[mX _ (show 256∣2^(8*n)from by
    have:=ot 2 (show 8<=8*n by omega)
    exact this)]
  rw[e v,e w,h]
 rw[hp]
theorem JT {v:Int}{n:Nat}(hn:di (n:Int)=true)(hv:I64 v):AJ n (cR v n)=AJ n v:=xB hn (gE hv hn) hv (qR hv hn)
theorem qX (op a b:Int):I64 (pk op a b):=by
 unfold pk
 split
 ·exact mL ..
 split
 ·exact rY ..
 ·exact aB _
theorem DE {op a b:Int}{n:Nat}(hn:di (n:Int)=true)(ha:I64 a)(hb:I64 b):cZ (pk op (cR a n) (cR b n)) n=cZ (pk op a b) n/\cZ (pk op a b) n=uns (pk op (cR a n) (cR b n)):=by
 have h8:=(fw hn).2
 have hlt:∀v,cZ v n%2^(8*n)=cZ v n:=fun v=>cb (jx v n)
 have key:cZ (pk op a b) n=uns (pk op (cR a n) (cR b n)):=by
  unfold pk
  split
  ·rw[qe,dD ha hn,dD hb hn]
   unfold cZ
   rw[qe,Nat.or_mod_two_pow]
  split
  ·rw[uL,dD ha hn,dD hb hn]
   unfold cZ
   rw[uL,sZ]
  ·rw[uK,dD ha hn,dD hb hn]
   unfold cZ
   rw[uK,Nat.and_mod_two_pow]
 refine⟨?_,key⟩
 show uns (pk op (cR a n) (cR b n))%2^(8*n)=_
 rw[<-key,hlt]
theorem AP {op a b:Int}{n:Nat}(hn:di (n:Int)=true)(ha:I64 a)(hb:I64 b):cR (pk op a b) n=pk op (cR a n) (cR b n):=by
 refine l7 (gE (qX ..) hn) (qX ..) ?_
 rw[dD (qX ..) hn,(DE hn ha hb).2]
theorem Ec (op a b:Int):jJ ((op,a,b,()),())=some (pk op a b,()):=by
 unfold jJ pk
 dsimp only
 by_cases h2:op=2
 ·rw[bK h2,aV,aa h2]
 ·rw[aD h2,ap,ae h2]
  by_cases h7:op=7
  ·rw[bK h7,aV,aa h7]
  ·rw[aD h7,ap,ae h7]
theorem Gk {op a b f:Int}{n:Nat}(hn:di (n:Int)=true)(ha:I64 a)(hb:I64 b):ku ((op,(n:Int),a,b,f,()),())=some (((AZ op n a b f).1,(AZ op n a b f).2,()),()):=by
 unfold ku AZ
 dsimp only
 have hf:dP .i64 f 1=(((f%2).toNat:Nat):Int):=zK f
 have hc:(f%2).toNat<=1:=by omega
 have add0:=oL (a:=a) (b:=b) (c:=0) false hn (by decide)
 have addc:=oL (a:=a) (b:=b) (c:=(f%2).toNat) false hn hc
 have sub0:=oL (a:=a) (b:=b) (c:=0) true hn (by decide)
 have subc:=oL (a:=a) (b:=b) (c:=(f%2).toNat) true hn hc
 rw[iD]at add0 addc
 rw[aa rfl]at sub0 subc
 have z0:((0:Nat):Int)=0:=rfl
 rw[z0]at add0 sub0
 rw[yY hn ha hb,yY hn ha hb,uJ hn ha hb,uJ hn ha hb,hf]
 by_cases h1:op=1
 ·rw[bK h1,aV,aa h1,add0,af]
 rw[aD h1,ap,ae h1]
 by_cases h3:op=3
 ·rw[bK h3,aV,aa h3,addc,af]
 rw[aD h3,ap,ae h3]
 by_cases h6:op=6
 ·rw[bK h6,aV,aa h6,sub0,af]
 rw[aD h6,ap,ae h6]
 by_cases h4:op=4
 ·rw[bK h4,aV,aa h4,subc,af]
 rw[aD h4,ap,ae h4]
 by_cases h8:op=8
 ·rw[bK h8,aV,aa h8,sub0,af,cc ha n hn,af]
 rw[aD h8,ap,ae h8]
 by_cases h10:op=10
 ·rw[bK h10,aV,aa h10,cc ha n hn,af,sm (v:=dP .i64 a b) hn (aB _),af]
  have e:=xB (v:=dP .i64 a b) (w:=dP .i64 (cR a n) (cR b n)) hn (aB _) (aB _) (DE (op:=0) hn ha hb).1.symm
  dsimp only
  rw[e]
 rw[aD h10,ap,ae h10,Ec,af]
 dsimp only
 rw[cc (qX ..) n hn,af,sm hn (qX ..),af]
 dsimp only
 rw[AP hn ha hb,<-JT hn (qX op a b),AP hn ha hb]
theorem not_low {a:Int}{n:Nat}(hn:di (n:Int)=true)(ha:I64 a):cR (AR .i64 a) n=cR (AR .i64 (cR a n)) n:=by
 have hi:∀v,I64 (AR .i64 v):=fun v=>rY ..
 refine Aa hn (hi _) (hi _) ?_
 obtain⟨K,hK⟩:∃K,K=uns (-1):=⟨_,rfl⟩
 have hu:∀v,uns (AR .i64 v)=K ^^^uns v:=fun v=>by
  rw[hK]
  exact uL (-1) v
 unfold cZ
 rw[hu,hu,sZ,sZ,dD ha hn]
 unfold cZ
 rw[mE]
theorem Gl {op a f:Int}{n:Nat}(hn:di (n:Int)=true)(ha:I64 a):kx ((op,(n:Int),a,f,()),())=some (((BS op n a f).1,(BS op n a f).2,()),()):=by
 unfold kx BS
 dsimp only
 have neg:=oL (a:=0) (b:=a) (c:=0) true hn (by decide)
 have inc:=fun l=>oL (a:=a) (b:=1) (c:=0) l hn (by decide)
 rw[aa rfl,show((0:Nat):Int)=0 from rfl]at neg
 have l1:cR 1 n=1:=(BE hn).1
 have l0:cR 0 n=0:=(Gy hn).1
 have i1:I64 1:=by unfold I64;omega
 have i0:I64 0:=by unfold I64;omega
 have e1:=uJ (c:=0) hn i0 ha
 have e2:=uJ (c:=0) hn ha i1
 have e3:=yY (c:=0) hn ha i1
 rw[l0]at e1
 rw[l1]at e2 e3
 rw[e1,e2,e3]
 by_cases h11:op=11
 ·rw[bK h11,aV,aa h11,cc (v:=AR .i64 a) (rY ..) n hn,af]
  dsimp only
  rw[not_low hn ha]
 rw[aD h11,ap,ae h11]
 by_cases h12:op=12
 ·rw[bK h12,aV,aa h12,neg,af]
 rw[aD h12,ap,ae h12]
 have hI:df (((n:Int),a,1,0,eqI op 19,()),())=_:=inc (eqI op 19)
 rw[hI,af]
 by_cases h19:op=19
 ·rw[bK h19,aa h19,aa rfl]
  rfl
 ·rw[aD h19,ae h19,iD]
  rfl
theorem jW (x:Int):I64 (an .i64 x):=aB _
theorem xorB (v w:Int)(k j:Nat):eqI (vA .i64 ((uns v/2^k%2:Nat):Int) ((uns w/2^j%2:Nat):Int)) 1=(oU v k != oU w j):=by
 rw[<-HL v k,<-HL w j]
 rcases ud (uns v) k with h|h<;>rcases ud (uns w) j with g|g<;>rw[h,g]<;>rfl
theorem topU {a:Int}{n:Nat}(h1:1<=n):cZ a n/2^(8*n-1)=uns a/2^(8*n-1)%2:=by
 unfold cZ
 have h:2^(8*n)=2^(8*n-1)*2:=by rw[<-cP,show(8*n-1).succ=8*n by omega]
 rw[h,mU]
theorem lowbit {a:Int}{n:Nat}(h1:1<=n):cZ a n%2=uns a/2^0%2:=by
 unfold cZ
 rw[Nat.pow_zero,mF]
 exact mX _ (by
  have:=ot 2 (show 1<=8*n by omega)
  exact this)
theorem Dw {a:Int}{n:Nat}(hn:di (n:Int)=true):uns (cR (an .i64 (eW .u64 (an .u64 a) 1)) n)=(2*cZ a n)%2^(8*n):=by
 obtain⟨h1,h8⟩:=fw hn
 rw[dD (jW _) hn,gy]
 unfold cZ an
 rw[cT,show(1:Int)=((1:Nat):Int)from rfl,KG (by decide),gX (cr _ (by decide))]
 have hd:2^(8*n)∣18446744073709551616:=ot 2 (show 8*n<=64 by omega)
 rw[mX _ hd,Nat.pow_one,cH (uns a) 2]
 rw[Nat.mul_mod 2 (uns a%2^(8*n)),mE,<-Nat.mul_mod]
theorem Dy {a:Int}{n:Nat}(hn:di (n:Int)=true)(ha:I64 a):dC .u64 (an .u64 (cR a n)) 1=((cZ a n/2:Nat):Int):=by
 rw[gy,dD ha hn,show(1:Int)=((1:Nat):Int)from rfl,Ey (by decide),Nat.pow_one]
theorem CX {a:Int}{n:Nat}(h1:1<=n):cZ a n/2<2^(8*n-1):=by
 have h:=jx a n
 rw[show 8*n=8*n-1+1 by omega,cP]at h
 generalize cZ a n=u at*
 omega
theorem sr {op:Int}{n:Nat}(hn:di (n:Int)=true){a v:Int}(hv:I64 v)(h:uns v=Ai op (8*n) (cZ a n)):v=lM op n a:=by
 refine l7 hv (jj ..) ?_
 rw[h,nm _ hn]
theorem Eb {op a f:Int}{n:Nat}(hop:20<=op/\op<=24)(hn:di (n:Int)=true)(ha:I64 a):
  jI ((op,(n:Int),a,f,()),())=some (((vS op n a f).1,(vS op n a f).2,()),()):=by
 obtain⟨h1,h8⟩:=fw hn
 unfold jI
 dsimp only
 have e8:bo .i64 (cj .i64 8 (n:Int)) 1=((8*n-1:Nat):Int):=by
  rw[dh (a:=8),bN];omega
 have e7:bo .i64 ((8*n-1:Nat):Int) 1=((8*n-2:Nat):Int):=by
  rw[bN];omega
 have w8:an .u64 ((8*n-1:Nat):Int)=((8*n-1:Nat):Int):=dl
 have b0:bg ((a,0,()),())=some (((uns a/2^0%2:Nat):Int),()):=Fm a 0 (by decide)
 rw[e8,Fm _ _ (by omega),af,b0,af]
 dsimp only
 have hwb:∀x:Nat,x%2=x->an .u64 (x:Int)=(x:Int):=fun x hx=>dl
 refine(Ret.bnd (Q:=fun y=>∃c o:Int,y=Sum.inl ((op,(n:Int),f,lM op n a,c,o,()),())/\eqI c 1=BP op n a/\eqI o 1=BQ op n a) ?_ ?_).eq
 ·by_cases h20:op=20
  ·subst h20
   rw[bK rfl,aV,cc (jW _) n hn,af]
   dsimp only
   have hV:ior .i64 (cR (an .i64 (eW .u64 (an .u64 a) 1)) n) ((uns a/2^(8*n-1)%2:Nat):Int)=lM 20 n a:=by
    refine sr hn (mL ..) ?_
    rw[qe,Dw hn,gX (by have:=ud (uns a) (8*n-1);omega)]
    unfold Ai
    rw[aa rfl,topU h1]
    have hev:(2*cZ a n)%2^(8*n)%2=0:=by
     rw[mX _ (by
      have:=ot 2 (show 1<=8*n by omega)
      exact this)]
     omega
    have:=Kw hev (decide (uns a/2^(8*n-1)%2=1))
    rcases ud (uns a) (8*n-1)with h|h
    ·rw[h]at this|-;simp
    ·rw[h]at this|-;simpa using this
   rw[hV,Fm _ _ (by omega),af]
   exact Ret.some ⟨_,_,rfl,by rw[HL];rfl,by rw[xorB];rfl⟩
  rw[aD h20,ap]
  refine Ret.bnd (Q:=fun y=>∃c o:Int,y=Sum.inl ((op,(n:Int),f,lM op n a,c,o,()),())/\eqI c 1=BP op n a/\eqI o 1=BQ op n a) ?_ (by rintro _ ⟨c,o,rfl,g⟩;rw[am];exact Ret.some ⟨c,o,rfl,g⟩)
  by_cases h22:op=22
  ·subst h22
   rw[bK rfl,aV,cc (jW _) n hn,af]
   dsimp only
   have hV:cR (an .i64 (eW .u64 (an .u64 a) 1)) n=lM 22 n a:=by
    refine sr hn (gE (jW _) hn) ?_
    rw[Dw hn]
    rfl
   rw[hV,Fm _ _ (by omega),af]
   exact Ret.some ⟨_,_,rfl,by rw[HL];rfl,by rw[xorB];rfl⟩
  rw[aD h22,ap]
  refine Ret.bnd (Q:=fun y=>∃c o:Int,y=Sum.inl ((op,(n:Int),f,lM op n a,c,o,()),())/\eqI c 1=BP op n a/\eqI o 1=BQ op n a) ?_ (by rintro _ ⟨c,o,rfl,g⟩;rw[am];exact Ret.some ⟨c,o,rfl,g⟩)
  have hjoin:∀x:Nat,x<=1->an .i64 (ior .u64 (dC .u64 (an .u64 (cR a n)) 1) (eW .u64 (an .u64 (x:Int)) ((8*n-1:Nat):Int)))=IntKind.wrap .i64 ((cZ a n/2+2^(8*n-1)*x:Nat):Int)/\uns (IntKind.wrap .i64 ((cZ a n/2+2^(8*n-1)*x:Nat):Int))=cZ a n/2+x*2^(8*n-1):=fun x hx=>by
   refine⟨?_,?_⟩
   ·rw[Dy hn ha,dl,bitOr (CX h1) hx (by omega)]
    rfl
   ·rw[cT,cH x,gX]
    have hp:2^(8*n-1+1)<=2^64:=cX (by decide) (by omega)
    have:=CX (a:=a) h1
    have:2^(8*n-1)*x<=2^(8*n-1)*1:=oe _ hx
    rw[cP]at hp
    omega
  by_cases h21:op=21
  ·subst h21
   rw[bK rfl,aV,cc ha n hn,af]
   dsimp only
   obtain⟨j1,j2⟩:=hjoin (uns a/2^0%2) (by omega)
   rw[w8,ag (gY),j1]
   have hV:IntKind.wrap .i64 ((cZ a n/2+2^(8*n-1)*(uns a/2^0%2):Nat):Int)=lM 21 n a:=by
    refine sr hn (aB _) ?_
    rw[j2,<-lowbit h1]
    rfl
   rw[hV,Fm _ _ (by omega),af,e7,Fm _ _ (by omega),af]
   exact Ret.some ⟨_,_,rfl,by rw[HL];rfl,by rw[xorB];rfl⟩
  rw[aD h21,ap]
  refine Ret.bnd (Q:=fun y=>∃c o:Int,y=Sum.inl ((op,(n:Int),f,lM op n a,c,o,()),())/\eqI c 1=BP op n a/\eqI o 1=BQ op n a) ?_ (by rintro _ ⟨c,o,rfl,g⟩;rw[am];exact Ret.some ⟨c,o,rfl,g⟩)
  by_cases h23:op=23
  ·subst h23
   rw[bK rfl,aV,cc ha n hn,af]
   dsimp only
   have hV:an .i64 (dC .u64 (an .u64 (cR a n)) 1)=lM 23 n a:=by
    refine sr hn (aB _) ?_
    rw[Dy hn ha]
    unfold an
    rw[cT,gX]
    ·rfl
    ·have:=gA a
     have:cZ a n<=uns a:=Nat.mod_le _ _
     omega
   rw[hV]
   exact Ret.some ⟨_,_,rfl,by rw[HL];rfl,by rw[HL];rfl⟩
  ·have h24:op=24:=by omega
   subst h24
   rw[aD (by decide),ap,cc ha n hn,af]
   dsimp only
   obtain⟨j1,j2⟩:=hjoin (uns a/2^(8*n-1)%2) (by omega)
   rw[w8,ag (gY),j1]
   have hV:IntKind.wrap .i64 ((cZ a n/2+2^(8*n-1)*(uns a/2^(8*n-1)%2):Nat):Int)=lM 24 n a:=by
    refine sr hn (aB _) ?_
    rw[j2,<-topU h1]
    rfl
   rw[hV]
   exact Ret.some ⟨_,_,rfl,by rw[HL];rfl,rfl⟩
 rintro _ ⟨c,o,rfl,hC,hO⟩
 rw[am]
 dsimp only[p5]
 have hbr:br (bm (eqI op 20)) (some (bm (eqI op 21))) (some false)=some (decide (¬(op=20\/op=21))):=by
  by_cases a8:op=20
  ·rw[bK a8,eu,ap,dF]
  ·rw[aD a8,eF,aV]
   by_cases a10:op=21
   ·rw[bK a10,eu,dF]
   ·rw[aD a10,eF,dT]
 rw[hbr,af]
 refine Ret.bnd (Q:=fun y=>y=Sum.inl ((lM op n a,c,o,Ej op n a f,()),())) ?_ ?_
 ·unfold Ej
  by_cases hk:op=20\/op=21
  ·rw[dF,ap,aa hk]
   exact Ret.some rfl
  ·rw[aF hk,aV,ae hk,sm hn (jj ..),af]
   exact Ret.some rfl
 rintro _ rfl
 rw[am]
 dsimp only
 rw[nF,af,nF,af,hC,hO]
 exact Ret.some rfl
theorem D6 (op:Int)(n k:Nat)(x:Int×Int):vw op n (k+1) x=vw op n k (vS op n x.1 x.2):=rfl
theorem BB {op a k f:Int}{n:Nat}(hop:20<=op/\op<=24)(hn:di (n:Int)=true)(ha:I64 a):
  iZ ((op,(n:Int),a,k,f,()),())=some (((lP op n a k f).1,(lP op n a k f).2,()),()):=by
 obtain⟨h1,h8⟩:=fw hn
 unfold iZ lP
 dsimp only
 have hk:=bX k
 have hku:=gA k
 have hcnt:∀m:Int,m=64\/m=32->an .i64 (gC (an .u64 k) m)=k%m:=fun m hm=>by
  rw[gy,cS]
  have:((uns k:Nat):Int)%m=k%m:=by
   rw[hk,show(2:Int)^64=18446744073709551616 from rfl]
   rcases hm with rfl|rfl<;>omega
  rw[this]
  exact fd (by unfold I64;rcases hm with rfl|rfl<;>omega)
 refine(Ret.bnd (Q:=fun y=>y=Sum.inl ((op,(n:Int),a,f,((Cg n k:Nat):Int),()),())) ?_ ?_).eq
 ·unfold Cg
  by_cases h:n=8
  ·rw[bK (show(n:Int)=8 by omega),aV,hcnt 64 (.inl rfl),aa h]
   exact Ret.some (by rw[show k%64=(((k%64).toNat:Nat):Int)by omega];rfl)
  ·rw[aD (show(n:Int)≠8 by omega),ap,hcnt 32 (.inr rfl),ae h]
   exact Ret.some (by rw[show k%32=(((k%32).toNat:Nat):Int)by omega];rfl)
 rintro _ rfl
 rw[am]
 dsimp only
 rw[cc ha n hn,af]
 have hN:Cg n k<64:=by unfold Cg;split<;>omega
 obtain⟨N,hNe⟩:∃N,N=Cg n k:=⟨_,rfl⟩
 rw[<-hNe]at hN|-
 refine Ret.iter (fun x=>∃(i:Nat) (v g:Int),i<=N/\I64 v/\vw op n (N-i) (v,g)=vw op n N (cR a n,f)/\x=((op,(n:Int),g,(N:Int),v,(i:Int),()),())) (fun x=>N-(p5 x.1).toNat) ?_ F _ ⟨0,_,f,by omega,gE ha hn,rfl,rfl⟩ (by unfold F;dsimp only[p5];omega)
 rintro _ rec ⟨i,v,g,hi,hv,he,rfl⟩ hrec
 dsimp only[p5]at hrec|-
 by_cases h:i<N
 ·rw[ag (kN),Eb hop hn hv,af]
  dsimp only
  rw[aW]
  exact hrec _ ⟨i+1,_,_,by omega,jj ..,by
   rw[show N-i=N-(i+1)+1 by omega,D6]at he
   exact he,rfl⟩ (by dsimp only;omega)
 ·obtain rfl:i=N:=by omega
  rw[aq (kJ)]
  rw[jd]at he
  refine Ret.some ?_
  rw[<-he]
  rfl
theorem IE (x:Int):eW .u64 x 1=x*2%18446744073709551616:=Dx x 1 (by decide)
theorem Gg (x:Int):dC .u64 x 63=x/9223372036854775808:=wg x 63 (by decide)
theorem D9 {a b:Nat}(ha:a<18446744073709551616)(hb:b<18446744073709551616):
  gm (((a:Int),(b:Int),()),())=some ((((a*b/18446744073709551616:Nat):Int),((a*b%18446744073709551616:Nat):Int),()),()):=by
 unfold gm
 dsimp only
 refine(Ret.iter (fun x=>∃(k:Nat) (h l:Int),k<=64/\WideInv a b k h l/\x=(((a:Int),(b:Int),h,l,((k:Int)-1),()),())) (fun x=>(x.1.2.2.2.2.1+1).toNat) ?_ F _ ⟨64,0,0,by omega,WideInv.init hb,rfl⟩ (by unfold F;dsimp only;omega)).eq
 rintro _ rec ⟨k,h,l,hk,hw,rfl⟩ hrec
 dsimp only at hrec|-
 cases k with
 |zero=>
  rw[aq (mI)]
  obtain⟨e1,e2⟩:=hw.fin
  exact Ret.some (by rw[e1,e2])
 |succ k=>
  have ek:((k+1:Nat):Int)-1=(k:Int):=by omega
  rw[ek]at hrec|-
  have hwk:an .u64 (k:Int)=(k:Int):=dl
  rw[ag (gY),hwk,ag (gY),Ey (by omega),cS (Int.natCast_nonneg _),IE,IE,Gg]
  have hbit:((b/2^k:Nat):Int)%2=((b/2^k%2:Nat):Int):=(dM _ 2).symm
  rw[hbit,Fb,Fb,Fb]
  have hx:(h*2%18446744073709551616+l/9223372036854775808)%18446744073709551616=(h*2+l/9223372036854775808)%18446744073709551616:=by omega
  have hx1:((h*2%18446744073709551616+l/9223372036854775808)%18446744073709551616+1)%18446744073709551616=((h*2+l/9223372036854775808)%18446744073709551616+1)%18446744073709551616:=by omega
  refine Ret.bnd (Q:=fun y=>∃h' l',WideInv a b k h' l'/\y=Sum.inl (((a:Int),(b:Int),h',l',(k:Int),()),())) ?_ ?_
  ·rcases ud b k with h0|h0
   ·rw[h0,aq (by rfl)]
    exact Ret.some ⟨_,_,hw.step0 ha hb h0,by rw[hx]⟩
   ·rw[h0,ag (by rfl)]
    have hst:=hw.step1 ha hb h0 (h':=(h*2+l/9223372036854775808)%18446744073709551616) (l':=l*2%18446744073709551616) rfl rfl
    refine Ret.bnd (Q:=fun y=>∃h' l',WideInv a b k h' l'/\y=Sum.inl (((a:Int),(b:Int),h',l',(k:Int),()),())) ?_ (by rintro _ ⟨h',l',g,rfl⟩;rw[am];exact Ret.some ⟨h',l',g,rfl⟩)
    by_cases hc:(l*2%18446744073709551616+(a:Int))%18446744073709551616<l*2%18446744073709551616
    ·rw[ag (kN hc)]
     exact Ret.some ⟨_,_,hst.1 hc,by rw[hx1]⟩
    ·rw[aq (kJ hc)]
     exact Ret.some ⟨_,_,hst.2 hc,by rw[hx]⟩
  rintro _ ⟨h',l',hw',rfl⟩
  rw[am]
  dsimp only
  rw[bN]
  exact hrec _ ⟨k,h',l',by omega,hw',rfl⟩ (by dsimp only;omega)
theorem QuoInv.q_lt {hi lo d k q r:Nat}(H:QuoInv hi lo d k q r)(h:hi<d)(hl:lo<18446744073709551616)(hk:k<=64):q<2^(64-k):=by
 have hP:2^k*2^(64-k)=18446744073709551616:=by rw[<-eD,show k+(64-k)=64 by omega]
 have h1:lo/2^k<2^(64-k):=ja (by rw[hP];exact hl)
 have h2:(hi+1)*2^(64-k)<=d*2^(64-k):=ed _ h
 rw[ci,jg]at h2
 have h3:=H.e
 refine Nat.lt_of_mul_lt_mul_right (a:=d) ?_
 rw[cH (2^(64-k)) d]
 generalize hi*2^(64-k)=A at*
 generalize d*2^(64-k)=B at*
 generalize q*d=C at*
 omega
theorem GZ {r b d r2:Int}(r0:0<=r)(hr:r<d)(hd:d<18446744073709551616)(b0:b=0\/b=1)(e:r2=(r*2%18446744073709551616+b)%18446744073709551616):
  (r/9223372036854775808=1->d<=r*2+b)/\(¬r/9223372036854775808=1->(d<=r2↔d<=r*2+b))/\(d<=r*2+b->(r2-d)%18446744073709551616=r*2+b-d)/\(r*2+b<d->r2=r*2+b):=by
 refine⟨?_,?_,?_,?_⟩<;>omega
theorem zV {hi lo d:Nat}(h:hi<d)(hd:d<18446744073709551616)(hlo:lo<18446744073709551616):
  iq (((hi:Int),(lo:Int),(d:Int),()),())=some (((((hi*18446744073709551616+lo)/d:Nat):Int),(((hi*18446744073709551616+lo)%d:Nat):Int),()),()):=by
 unfold iq
 dsimp only
 refine(Ret.iter (fun x=>∃k q r:Nat,k<=64/\QuoInv hi lo d k q r/\x=(((lo:Int),(d:Int),(q:Int),(r:Int),((k:Int)-1),()),())) (fun x=>(x.1.2.2.2.2.1+1).toNat) ?_ F _ ⟨64,0,hi,by omega,QuoInv.init h hlo,rfl⟩ (by unfold F;dsimp only;omega)).eq
 rintro _ rec ⟨k,q,r,hk,hw,rfl⟩ hrec
 dsimp only at hrec|-
 cases k with
 |zero=>
  rw[aq (mI)]
  obtain⟨e1,e2⟩:=hw.fin
  exact Ret.some (by rw[e1,e2])
 |succ k=>
  have ek:((k+1:Nat):Int)-1=(k:Int):=by omega
  rw[ek]at hrec|-
  have hwk:an .u64 (k:Int)=(k:Int):=dl
  obtain⟨st0,st1⟩:=hw.step (by omega)
  have hrd:=hw.lt
  have hbit:((lo/2^k:Nat):Int)%2=((lo/2^k%2:Nat):Int):=(dM _ 2).symm
  obtain⟨b,hb⟩:∃b,b=lo/2^k%2:=⟨_,rfl⟩
  rw[<-hb]at st0 st1 hbit
  have hb01:b=0\/b=1:=by rw[hb];exact ud lo k
  rw[ag (gY),hwk,ag (gY),Ey (by omega),cS (Int.natCast_nonneg _),hbit,Gg,IE,IE,Fb,Fb,subU]
  obtain⟨r2,hr2⟩:∃r2:Int,r2=((r:Int)*2%18446744073709551616+(b:Int))%18446744073709551616:=⟨_,rfl⟩
  rw[<-hr2]
  obtain⟨a1,a2,a3,a4⟩:=GZ (r:=(r:Int)) (b:=(b:Int)) (d:=(d:Int)) (by omega) (by omega) (by omega) (by omega) hr2
  have hcond:br (eqI ((r:Int)/9223372036854775808) 1) (some true) (some (leI (d:Int) r2))=some (decide (d<=r*2+b)):=by
   by_cases g:(r:Int)/9223372036854775808=1
   ·have:=a1 g
    rw[bK g,aV,dT]
   ·have:=a2 g
    rw[aD g,ap]
    by_cases g2:d<=r*2+b
    ·rw[aF g2,gY (this.2 (by omega))]
    ·rw[aP g2,mI (fun z=>g2 (by have:=this.1 z;omega))]
  rw[hcond,af]
  have hp:2^(64-k)<=2^64:=cX (by decide) (by omega)
  refine Ret.bnd (Q:=fun y=>∃q' r':Nat,QuoInv hi lo d k q' r'/\y=Sum.inl (((lo:Int),(d:Int),(q':Int),(r':Int),(k:Int),()),())) ?_ ?_
  ·by_cases g2:d<=r*2+b
   ·have hq:=(st1 g2).q_lt h hlo (by omega)
    rw[aF g2,aV,a3 (by omega)]
    refine Ret.some ⟨q*2+1,r*2+b-d,st1 g2,?_⟩
    rw[show((q:Int)*2%18446744073709551616+1)%18446744073709551616=((q*2+1:Nat):Int)by omega,show(r:Int)*2+(b:Int)-(d:Int)=((r*2+b-d:Nat):Int)by omega]
   ·have hq:=(st0 (by omega)).q_lt h hlo (by omega)
    rw[aP g2,ap,a4 (by omega)]
    refine Ret.some ⟨q*2,r*2+b,st0 (by omega),?_⟩
    rw[show((q:Int)*2%18446744073709551616)=((q*2:Nat):Int)by omega,show(r:Int)*2+(b:Int)=((r*2+b:Nat):Int)by omega]
  rintro _ ⟨q',r',hw',rfl⟩
  rw[am]
  dsimp only
  rw[bN]
  exact hrec _ ⟨k,q',r',by omega,hw',rfl⟩ (by dsimp only;omega)
theorem inotU {h:Int}(h0:0<=h)(h1:h<18446744073709551616):AR .u64 h=18446744073709551615-h:=by
 unfold AR vA
 rw[gB]
 have e:(BitVec.ofInt IntKind.u64.bits (if IntKind.u64.signed=true then -1 else IntKind.u64.max)^^^BitVec.ofInt IntKind.u64.bits h).toNat=(18446744073709551615-h).toNat:=by
  have e1:(BitVec.ofInt IntKind.u64.bits (if IntKind.u64.signed=true then -1 else IntKind.u64.max))=BitVec.allOnes 64:=by rfl
  have e2:(BitVec.ofInt 64 h).toNat=h.toNat:=by rw[gd];omega
  rw[e1]
  show(BitVec.allOnes 64 ^^^BitVec.ofInt 64 h).toNat=_
  rw[BitVec.allOnes_xor,BitVec.toNat_not,e2]
  omega
 rw[e];omega
theorem tz {v:Int}(hv:I64 v):fm ((v,()),())=some (((v.natAbs:Nat):Int),())/\v.natAbs<18446744073709551616:=by
 unfold I64 at hv
 refine⟨?_,by omega⟩
 unfold fm
 dsimp only
 have hu:=bX v
 rw[show(2:Int)^64=18446744073709551616 from rfl]at hu
 rw[gy,hu]
 by_cases h:v<0
 ·rw[kN h,aV,subU]
  congr 2;omega
 ·rw[kJ h,ap]
  congr 2;omega
theorem neg128 {h l p:Int}(h0:0<=h)(l0:0<=l)(l1:l<18446744073709551616)(h1:h<18446744073709551616)(e:h*18446744073709551616+l=p):
  ((-l)%18446744073709551616=0->(18446744073709551615-h+1)%18446744073709551616*18446744073709551616+(-l)%18446744073709551616=(-p)%340282366920938463463374607431768211456)/\
  (¬(-l)%18446744073709551616=0->(18446744073709551615-h)*18446744073709551616+(-l)%18446744073709551616=(-p)%340282366920938463463374607431768211456):=by
 constructor<;>intro g<;>omega
theorem yz {X Y:Int}(sg:Bool)(hX:I64 X)(hY:I64 Y):∃h l:Int,gN ((X,Y,sg,()),())=some ((h,l,()),())/\0<=h/\h<18446744073709551616/\0<=l/\l<18446744073709551616/\
  h*18446744073709551616+l=(if sg=true then X*Y else((uns X:Nat):Int)*((uns Y:Nat):Int))%340282366920938463463374607431768211456:=by
 have hwide:∀a b:Nat,a<18446744073709551616->b<18446744073709551616->∃h l:Int,gm (((a:Int),(b:Int),()),())=some ((h,l,()),())/\0<=h/\h<18446744073709551616/\0<=l/\l<18446744073709551616/\h*18446744073709551616+l=(a:Int)*(b:Int):=fun a b ha hb=>by
  refine⟨_,_,D9 ha hb,?_⟩
  have hp:a*b<18446744073709551616*18446744073709551616:=Nat.mul_lt_mul'' ha hb
  have e:(a:Int)*(b:Int)=((a*b:Nat):Int):=by simp
  have hp':((a*b:Nat):Int)<340282366920938463463374607431768211456:=ka.2 hp
  rw[e,gf,dM]
  have h0:0<=((a*b:Nat):Int):=Int.natCast_nonneg _
  generalize ((a*b:Nat):Int)=p at*
  show 0<=p/18446744073709551616/\p/18446744073709551616<18446744073709551616/\0<=p%18446744073709551616/\p%18446744073709551616<18446744073709551616/\p/18446744073709551616*18446744073709551616+p%18446744073709551616=p
  omega
 have hbig:∀h l p:Int,0<=h->h<18446744073709551616->0<=l->l<18446744073709551616->h*18446744073709551616+l=p->h*18446744073709551616+l=p%340282366920938463463374607431768211456:=fun h l p a b c d e=>by omega
 unfold gN
 dsimp only
 cases sg with
 |false=>
  obtain⟨h,l,e,a1,a2,a3,a4,a5⟩:=hwide _ _ (gA X) (gA Y)
  rw[show bm false=true from rfl,aV,gy,gy,e,af,iD]
  exact⟨h,l,rfl,a1,a2,a3,a4,hbig _ _ _ a1 a2 a3 a4 a5⟩
 |true=>
  obtain⟨s1,l1⟩:=tz hX
  obtain⟨s2,l2⟩:=tz hY
  obtain⟨h,l,e,a1,a2,a3,a4,a5⟩:=hwide _ _ l1 l2
  rw[show bm true=false from rfl,ap,s1,af,s2,af,aa rfl]
  dsimp only
  rw[e,af]
  dsimp only
  have hne:bm (eqB (ltI X 0) (ltI Y 0))=(decide (X<0) != decide (Y<0)):=by
   unfold ltI
   cases decide (X<0)<;>cases decide (Y<0)<;>rfl
  rw[hne]
  have habs:∀Z:Int,(Z.natAbs:Int)=if Z<0 then -Z else Z:=fun Z=>by split<;>omega
  rw[habs X,habs Y]at a5
  by_cases hd:(decide (X<0) != decide (Y<0))=true
  ·rw[hd,aV,subU,inotU a1 a2,Fb]
   have hp:h*18446744073709551616+l= -(X*Y):=by
    rw[a5]
    by_cases x0:X<0
    ·by_cases y0:Y<0
     ·rw[aF x0,aF y0]at hd;cases hd
     ·rw[aa x0,ae y0,Int.neg_mul]
    ·by_cases y0:Y<0
     ·rw[ae x0,aa y0,Int.mul_neg]
     ·rw[aP x0,aP y0]at hd;cases hd
   obtain⟨n1,n2⟩:=neg128 a1 a3 a4 a2 hp
   rw[Int.neg_neg]at n1 n2
   rw[Int.zero_sub]
   by_cases hz:(-l)%18446744073709551616=0
   ·rw[bK hz,aV,af,am,af,am]
    exact⟨_,_,rfl,by omega,by omega,by omega,by omega,n1 hz⟩
   ·rw[aD hz,ap,af,am,af,am]
    exact⟨_,_,rfl,by omega,by omega,by omega,by omega,n2 hz⟩
  ·rw[jO.2 hd,ap,af,am]
   have hp:h*18446744073709551616+l=X*Y:=by
    rw[a5]
    by_cases x0:X<0
    ·by_cases y0:Y<0
     ·rw[aa x0,aa y0,Int.neg_mul_neg]
     ·rw[aF x0,aP y0]at hd;exact ah rfl hd
    ·by_cases y0:Y<0
     ·rw[aP x0,aF y0]at hd;exact ah rfl hd
     ·rw[ae x0,ae y0]
   exact⟨h,l,rfl,a1,a2,a3,a4,hbig _ _ _ a1 a2 a3 a4 hp⟩
theorem CS {sg:Bool}{n:Nat}(hn:di (n:Int)=true){a:Int}(ha:I64 a):I64 (wP sg n a):=by
 obtain⟨h1,h8⟩:=fw hn
 unfold wP
 split
 ·exact jv _ (by omega) _
 ·exact gE ha hn
theorem Im {sg:Bool}{n:Nat}(hn:di (n:Int)=true){a b:Int}(ha:I64 a)(hb:I64 b):
  (if sg=true then wP sg n a*wP sg n b else((uns (wP sg n a):Nat):Int)*((uns (wP sg n b):Nat):Int))=rb sg n a*rb sg n b:=by
 unfold wP rb
 cases sg with
 |true=>simp only[if_true]
 |false=>
  rw[iD,iD,iD,iD,iD,dD ha hn,dD hb hn]
theorem rq {op a b f:Int}{n:Nat}(hn:di (n:Int)=true)(ha:I64 a)(hb:I64 b):
  d8 ((op,(n:Int),a,b,f,()),())=some (((vI op n a b f).1,(vI op n a b f).2.1,(vI op n a b f).2.2,()),()):=by
 obtain⟨h1,h8⟩:=fw hn
 unfold d8
 dsimp only
 obtain⟨sg,hsg⟩:∃sg:Bool,sg=decide (op≠13):=⟨_,rfl⟩
 have heq:bm (eqI op 13)=sg:=by
  rw[hsg,neI,bv,bne_iff_ne,aG]
 have hsx:∀v,bi ((v,(n:Int),()),())=some (sx (8*n-1) v,()):=fun v=>by
  rw[jq _ _ (by omega) (by omega),show(8*(n:Int)-1).toNat=8*n-1 by omega]
 rw[heq,cc ha n hn,cc hb n hn,af,af]
 refine(Ret.bnd (Q:=fun y=>y=Sum.inl (((n:Int),f,sg,wP sg n a,wP sg n b,()),())) ?_ ?_).eq
 ·cases sg with
  |true=>
   rw[aV,hsx,hsx,af,af]
   exact Ret.some rfl
  |false=>
   rw[ap]
   exact Ret.some rfl
 rintro _ rfl
 rw[am]
 dsimp only
 obtain⟨h,l,e,a1,a2,a3,a4,a5⟩:=yz sg (CS (sg:=sg) hn ha) (CS (sg:=sg) hn hb)
 rw[Im hn ha hb]at a5
 rw[e,af]
 dsimp only
 have hul:∀z:Int,0<=z->z<18446744073709551616->((uns (an .i64 z):Nat):Int)=z:=fun z z0 z1=>by
  unfold an
  rw[cT,bX,show(2:Int)^64=18446744073709551616 from rfl];omega
 have hlow:cR (an .i64 l) n=Ad sg n a b:=by
  refine tD hn (aB _) ?_
  rw[hul l a3 a4]
  generalize rb sg n a*rb sg n b=p at*
  rcases AS hn with rfl|rfl|rfl|rfl
  ·rw[show(2:Int)^(8*1)=256 from rfl];omega
  ·rw[show(2:Int)^(8*2)=65536 from rfl];omega
  ·rw[show(2:Int)^(8*4)=4294967296 from rfl];omega
  ·rw[show(2:Int)^(8*8)=18446744073709551616 from rfl];omega
 rw[cc (jW l) n hn,af,hlow]
 dsimp only
 refine Ret.bnd (Q:=fun y=>y=Sum.inl (((n:Int),f,sg,Ad sg n a b,rO sg n a b,()),())) ?_ ?_
 ·by_cases h8':n=8
  ·subst h8'
   rw[kJ,ap]
   have hh:an .i64 h=rO sg 8 a b:=by
    unfold rO nU an
    refine oR ?_
    rw[show(2:Int)^(8*8)=18446744073709551616 from rfl]
    generalize rb sg 8 a*rb sg 8 b=p at*
    omega
   rw[hh]
   exact Ret.some rfl
  ·have h3:n=1\/n=2\/n=4:=by rcases AS hn with h|h|h|h<;>omega
   rw[kN,aV,dh (a:=8),dl,ag (gY),show 8*(n:Int)=((8*n:Nat):Int)by omega,wg _ _ (by omega),cc (jW _) n hn,af]
   have hh:cR (an .i64 (l/2^(8*n))) n=rO sg n a b:=by
    refine tD hn (aB _) ?_
    have hd0:0<=l/2^(8*n):=qE a3 (je (cI (by decide)))
    have hd1:l/2^(8*n)<18446744073709551616:=Int.lt_of_le_of_lt (Int.ediv_le_self _ a3) a4
    rw[hul _ hd0 hd1]
    generalize rb sg n a*rb sg n b=p at*
    rcases h3 with rfl|rfl|rfl
    ·rw[show(2:Int)^(8*1)=256 from rfl];omega
    ·rw[show(2:Int)^(8*2)=65536 from rfl];omega
    ·rw[show(2:Int)^(8*4)=4294967296 from rfl];omega
   rw[hh]
   exact Ret.some rfl
 rintro _ rfl
 rw[am]
 dsimp only
 refine Ret.bnd (Q:=fun y=>y=Sum.inl ((f,Ad sg n a b,rO sg n a b,GE sg n a b,()),())) ?_ ?_
 ·unfold GE
  cases sg with
  |true=>
   rw[aV,hsx,hsx,af,af,neI]
   exact Ret.some rfl
  |false=>
   rw[ap,neI]
   exact Ret.some rfl
 rintro _ rfl
 rw[am]
 dsimp only
 rw[nF,af]
 refine Ret.some ?_
 unfold vI
 rw[<-hsg]
theorem orU {a b:Nat}(ha:a<2^64)(hb:b<2^64):ior .u64 (a:Int) (b:Int)=((a|||b:Nat):Int):=by
 unfold ior
 rw[gB]
 have hh:∀k:Nat,k<2^64->(BitVec.ofInt 64 (k:Int)).toNat=k:=fun k hk=>by
  rw[gd]
  have:((k:Int)%((2^64:Nat):Int))=((k%2^64:Nat):Int):=(dM ..).symm
  rw[this,bu,cb hk]
 have e1:(BitVec.ofInt IntKind.u64.bits (a:Int)|||BitVec.ofInt IntKind.u64.bits (b:Int)).toNat=a|||b:=by
  rw[oq]
  show(BitVec.ofInt 64 (a:Int)).toNat|||(BitVec.ofInt 64 (b:Int)).toNat=_
  rw[hh _ ha,hh _ hb]
 rw[e1]
 have:a|||b<2^64:=Nat.or_lt_two_pow ha hb
 have h2:((a|||b:Nat):Int)<((2^64:Nat):Int):=ka.2 this
 exact jb (by omega) h2
theorem joinU {n:Nat}(hn:n=1\/n=2\/n=4){hi lo:Int}(hh:I64 hi)(hl:I64 lo):ior .u64 (eW .u64 (an .u64 (cR hi n)) ((8*n:Nat):Int)) (an .u64 (cR lo n))=((rH n hi lo:Nat):Int):=by
 have hs:di (n:Int)=true:=by rcases hn with rfl|rfl|rfl<;>rfl
 have hlt:=nQ n hi lo
 have h32:2^(16*n)<=2^64:=cX (by decide) (by omega)
 have hN:rH n hi lo<2^64:=dB hlt h32
 have hH:cZ hi n*2^(8*n)<2^64:=gQ (Nat.le_add_right _ _) hN
 have hL:cZ lo n<2^64:=gQ (Nat.le_add_left _ _) hN
 rw[gy,gy,dD hh hs,dD hl hs,KG (by omega),cb hH,orU hH hL]
 unfold rH
 rw[cH,lA (jx lo n)]
theorem Ea {n:Nat}{hi lo:Int}(hn:di (n:Int)=true)(hh:I64 hi)(hl:I64 lo)(sg:Bool):
  ∃h l:Int,jH (((n:Int),hi,lo,sg,()),())=some ((h,l,()),())/\0<=h/\h<18446744073709551616/\0<=l/\l<18446744073709551616/\
   h*18446744073709551616+l=(if si sg n hi lo<0 then si sg n hi lo+340282366920938463463374607431768211456 else si sg n hi lo):=by
 obtain⟨h1,h8⟩:=fw hn
 unfold jH
 dsimp only
 by_cases h8':n=8
 ·subst h8'
  rw[bK (by rfl),aV,gy,gy]
  have g1:=gA hi
  have g2:=gA lo
  refine⟨_,_,rfl,by omega,by omega,by omega,by omega,?_⟩
  have hN:=FA hi lo
  unfold si
  rw[show(2:Nat)^(16*8-1)=170141183460469231731687303715884105728 from rfl,show(2:Int)^(16*8)=340282366920938463463374607431768211456 from rfl]
  have hlt:rH 8 hi lo<340282366920938463463374607431768211456:=nQ 8 hi lo
  by_cases hc:sg=true/\170141183460469231731687303715884105728<=rH 8 hi lo
  ·rw[aa hc];omega
  ·rw[ae hc];omega
 ·have h3:n=1\/n=2\/n=4:=by rcases AS hn with h|h|h|h<;>omega
  have e8:cj .i64 8 (n:Int)=((8*n:Nat):Int):=by rw[dh (a:=8)];omega
  have e16:cj .i64 16 (n:Int)=((16*n:Nat):Int):=by rw[dh (a:=16)];omega
  have w8:an .u64 ((8*n:Nat):Int)=((8*n:Nat):Int):=dl
  have w16:an .u64 ((16*n:Nat):Int)=((16*n:Nat):Int):=dl
  have e7:bo .i64 ((8*n:Nat):Int) 1=((8*n-1:Nat):Int):=by rw[bN];omega
  have hlt:=nQ n hi lo
  have h32:2^(16*n)<=2^64:=cX (by decide) (by omega)
  have hN:rH n hi lo<2^64:=dB hlt h32
  rw[aD (show(n:Int)≠8 by omega),ap,cc hh n hn,af,e8,w8,ag (gY),cc hl n hn,af]
  dsimp only
  rw[joinU h3 hh hl,e7,Fm _ _ (by omega),af]
  dsimp only
  rw[HL]
  have hc:br sg (some (oU hi (8*n-1))) (some false)=some (decide (sg=true/\2^(16*n-1)<=rH n hi lo)):=by
   cases sg with
   |false=>rfl
   |true=>
    rw[aV,mi (n:=n) (by omega)]
    have e:(cZ hi n/2^(8*n-1)%2=1)↔2^(16*n-1)<=rH n hi lo:=by
     have a1:=jx hi n
     have a2:=jx lo n
     unfold rH
     rcases h3 with rfl|rfl|rfl
     ·rw[show(2:Nat)^(8*1)=256 from rfl]at*
      rw[show(2:Nat)^(8*1-1)=128 from rfl,show(2:Nat)^(16*1-1)=32768 from rfl];omega
     ·rw[show(2:Nat)^(8*2)=65536 from rfl]at*
      rw[show(2:Nat)^(8*2-1)=32768 from rfl,show(2:Nat)^(16*2-1)=2147483648 from rfl];omega
     ·rw[show(2:Nat)^(8*4)=4294967296 from rfl]at*
      rw[show(2:Nat)^(8*4-1)=2147483648 from rfl,show(2:Nat)^(16*4-1)=9223372036854775808 from rfl];omega
    simp only[e,true_and]
  rw[hc,af]
  unfold si
  by_cases hs:sg=true/\2^(16*n-1)<=rH n hi lo
  ·rw[aF hs,aV,aa hs]
   have hI16:(2:Int)^(16*n)=((2^(16*n):Nat):Int):=(nk _).symm
   rw[hI16]
   obtain⟨N,hNe⟩:∃N,N=rH n hi lo:=⟨_,rfl⟩
   rw[<-hNe]at hlt hN hs|-
   have hneg:(N:Int)-((2^(16*n):Nat):Int)<0:=by omega
   rw[aa hneg]
   refine Exists.elim (p:=fun l:Nat=>(br (ltI (n:Int) 4) (br (leI 0 (an .u64 (cj .i64 16 (n:Int)))) (some (Sum.inl (((ior .u64 (N:Int) (eW .u64 18446744073709551615 (an .u64 (cj .i64 16 (n:Int))))),()),()):Sum ((Int×Unit)×Unit) ((Int×Int×Unit)×Unit))) none) (some (Sum.inl (((N:Int),()),()))))=some (Sum.inl (((l:Int),()),()))/\(l:Int)=(N:Int)-((2^(16*n):Nat):Int)+18446744073709551616) ?_ ?_
   ·by_cases h4:n=4
    ·subst h4
     rw[kJ (by decide),ap]
     refine⟨N,rfl,?_⟩
     rw[show((2^(16*4):Nat):Int)=18446744073709551616 from rfl];omega
    ·have h12:n=1\/n=2:=by omega
     rw[kN,aV,e16,w16,ag (gY)]
     have hm:eW .u64 18446744073709551615 ((16*n:Nat):Int)=((2^64-2^(16*n):Nat):Int):=by
      have:eW .u64 ((18446744073709551615:Nat):Int) ((16*n:Nat):Int)=_:=KG (a:=18446744073709551615) (s:=16*n) (by omega)
      rw[show(18446744073709551615:Int)=((18446744073709551615:Nat):Int)from rfl,this]
      rcases h12 with rfl|rfl<;>decide +kernel
     have hor:N|||(2^64-2^(16*n))=N+(2^64-2^(16*n)):=by
      obtain⟨t,ht⟩:∃t,2^64-2^(16*n)=2^(16*n)*t:=⟨2^(64-16*n)-1,by rw[Nat.mul_sub,<-eD,show 16*n+(64-16*n)=64 by omega,eB]⟩
      rw[ht,Nat.or_comm,<-lA hlt,ou]
     rw[hm,orU hN (by have:=cE (16*n);omega),hor]
     refine⟨_,rfl,?_⟩
     have h64:(2:Nat)^64=18446744073709551616:=rfl
     rw[h64]at h32|-
     generalize 2^(16*n)=P at*
     omega
   ·rintro l ⟨el,hl2⟩
    rw[el,af,am]
    have hlo0:0<=(l:Int):=by omega
    refine⟨18446744073709551615,(l:Int),rfl,by omega,by omega,by omega,?_,?_⟩
    ·omega
    ·omega
  ·rw[aP hs,ap,ae hs,iN]
   refine⟨0,_,rfl,by omega,by omega,by omega,?_,by omega⟩
   have:((rH n hi lo:Nat):Int)<((2^64:Nat):Int):=ka.2 hN
   exact this
set_option linter.unusedVariables false
theorem negA {h l p:Int}(h0:0<=h)(l0:0<=l)(l1:l<18446744073709551616)(h1:h<18446744073709551616)(e:h*18446744073709551616+l=p+340282366920938463463374607431768211456)(hp: -170141183460469231731687303715884105728<=p)(hp0:p<0):
  ((-l)%18446744073709551616=0->(18446744073709551615-h+1)%18446744073709551616*18446744073709551616+(-l)%18446744073709551616= -p)/\
  (¬(-l)%18446744073709551616=0->(18446744073709551615-h)*18446744073709551616+(-l)%18446744073709551616= -p):=by
 constructor<;>intro g<;>omega
theorem topH {h l X:Int}(h0:0<=h)(h1:h<18446744073709551616)(l0:0<=l)(l1:l<18446744073709551616)(hX: -170141183460469231731687303715884105728<=X)(hX2:X<170141183460469231731687303715884105728)
  (e:h*18446744073709551616+l=(if X<0 then X+340282366920938463463374607431768211456 else X)):h/9223372036854775808=1↔X<0:=by
 split at e<;>omega
theorem Ie {n:Nat}(hn:di (n:Int)=true)(hi lo:Int):si true n hi lo<170141183460469231731687303715884105728:=by
 have hlt:=nQ n hi lo
 unfold si
 generalize rH n hi lo=N at*
 rcases AS hn with rfl|rfl|rfl|rfl
 ·rw[show(2:Nat)^(16*1)=65536 from rfl]at hlt
  rw[show(2:Nat)^(16*1-1)=32768 from rfl,show(2:Int)^(16*1)=65536 from rfl]
  split<;>omega
 ·rw[show(2:Nat)^(16*2)=4294967296 from rfl]at hlt
  rw[show(2:Nat)^(16*2-1)=2147483648 from rfl,show(2:Int)^(16*2)=4294967296 from rfl]
  split<;>omega
 ·rw[show(2:Nat)^(16*4)=18446744073709551616 from rfl]at hlt
  rw[show(2:Nat)^(16*4-1)=9223372036854775808 from rfl,show(2:Int)^(16*4)=18446744073709551616 from rfl]
  split<;>omega
 ·rw[show(2:Nat)^(16*8)=340282366920938463463374607431768211456 from rfl]at hlt
  rw[show(2:Nat)^(16*8-1)=170141183460469231731687303715884105728 from rfl,show(2:Int)^(16*8)=340282366920938463463374607431768211456 from rfl]
  split
  ·omega
  ·rename_i g
   have:¬170141183460469231731687303715884105728<=N:=fun z=>g ⟨rfl,z⟩
   omega
theorem GG {n:Nat}(hn:di (n:Int)=true)(t:Bool){q:Nat}(hq:q<18446744073709551616):cR (an .i64 (if t=true then bo .u64 0 (q:Int)else(q:Int))) n=nU n (negI t q):=by
 have h8:=(fw hn).2
 refine tD hn (jW _) ?_
 unfold an negI
 rw[cT,bX,gP _ (by have:=FH h8;exact this)]
 cases t with
 |false=>rw[iD,iD]
 |true=>
  rw[aa rfl,aa rfl,subU,gP _ (FH h8),Int.zero_sub]
theorem zY {op hi lo d:Int}{n:Nat}(hn:di (n:Int)=true)(hh:I64 hi)(hl:I64 lo)(hd:I64 d):
  ∃q r:Int,fM ((op,(n:Int),hi,lo,d,()),())=some ((q,r,(xX op n hi lo d).2.2,()),())/\((xX op n hi lo d).2.2=true->q=(xX op n hi lo d).1/\r=(xX op n hi lo d).2.1):=by
 obtain⟨h1,h8⟩:=fw hn
 obtain⟨sg,hsg⟩:∃sg:Bool,sg=decide (op=16):=⟨_,rfl⟩
 have heq:eqI op 16=sg:=by rw[hsg];rfl
 suffices hsuf:Ret (fM ((op,(n:Int),hi,lo,d,()),())) (fun y=>∃q r:Int,y=((q,r,(xX op n hi lo d).2.2,()),())/\((xX op n hi lo d).2.2=true->q=(xX op n hi lo d).1/\r=(xX op n hi lo d).2.1))by
  obtain⟨y,e,q,r,rfl,g⟩:=hsuf
  exact⟨q,r,e,g⟩
 unfold fM
 dsimp only
 rw[heq]
 obtain⟨h,l,e1,a1,a2,a3,a4,hX⟩:=Ea hn hh hl sg
 have hxb:=FB (sg:=sg) hn hi lo
 have hxt:sg=true->si sg n hi lo<170141183460469231731687303715884105728:=fun g=>by rw[g];exact Ie hn hi lo
 unfold xX
 rw[<-hsg]
 obtain⟨X,hXe⟩:∃X,X=si sg n hi lo:=⟨_,rfl⟩
 obtain⟨D,hDe⟩:∃D,D=rb sg n d:=⟨_,rfl⟩
 have hDb:=Kh sg hn d
 rw[<-hXe]at hX hxb hxt
 rw[<-hDe]at hDb
 rw[<-hXe,<-hDe]
 obtain⟨q,hq⟩:∃q,q=X.natAbs/D.natAbs:=⟨_,rfl⟩
 obtain⟨r,hr⟩:∃r,r=X.natAbs%D.natAbs:=⟨_,rfl⟩
 rw[<-hq,<-hr,e1,af,cc hd n hn,af]
 dsimp only
 have hsx:bi ((d,(n:Int),()),())=some (sx (8*n-1) d,()):=by
  rw[jq _ _ (by omega) (by omega),show(8*(n:Int)-1).toNat=8*n-1 by omega]
 have hsxI:=jv (8*n-1) (by omega) d
 refine Ret.bnd (Q:=fun y=>y=Sum.inl (((n:Int),sg,h,l,((D.natAbs:Nat):Int),decide (X<0),EO X D,()),())/\D.natAbs<18446744073709551616) ?_ ?_
 ·cases sg with
  |true=>
   obtain⟨z1,z2⟩:=tz hsxI
   rw[aV,hsx,af]
   rw[z1,af,af]
   have hD:D=sx (8*n-1) d:=by rw[hDe];exact aa rfl
   rw[Gg]
   have ht:=topH a1 a2 a3 a4 hxb.1 (hxt rfl) hX
   have e2:eqI (h/9223372036854775808) 1=decide (X<0):=by
    unfold eqI;rw[bv,aG,aG];exact ht
   have e3:bm (eqB (decide (X<0)) (ltI (sx (8*n-1) d) 0))=EO X D:=by
    rw[hD]
    unfold EO ltI
    cases decide (X<0)<;>cases decide (sx (8*n-1) d<0)<;>rfl
   dsimp only
   rw[e2,e3]
   exact Ret.some ⟨by rw[hD],by rw[hD];exact z2⟩
  |false=>
   have hD:D=(cZ d n:Int):=by rw[hDe];exact iD
   have hX0:=hxb.2.2 rfl
   have hu:=gA d
   have hle:cZ d n<=uns d:=Nat.mod_le _ _
   rw[ap,gy,dD hd hn]
   have e3:EO X D=false:=by
    unfold EO
    rw[dF,dF];rfl
   rw[e3,dF,hD,Int.natAbs_natCast]
   exact Ret.some ⟨rfl,by omega⟩
 rintro _ ⟨rfl,hDlt⟩
 rw[am]
 dsimp only[p5,p6]
 refine Ret.bnd (Q:=fun y=>∃h' l':Nat,h'<18446744073709551616/\l'<18446744073709551616/\h'*18446744073709551616+l'=X.natAbs/\y=Sum.inl (((n:Int),sg,(h':Int),(l':Int),((D.natAbs:Nat):Int),decide (X<0),EO X D,()),())) ?_ ?_
 ·have fin:∀h' l':Int,0<=h'->h'<18446744073709551616->0<=l'->l'<18446744073709551616->h'*18446744073709551616+l'=((X.natAbs:Nat):Int)->∃a b:Nat,a<18446744073709551616/\b<18446744073709551616/\a*18446744073709551616+b=X.natAbs/\h'=(a:Int)/\l'=(b:Int):=fun h' l' b1 b2 b3 b4 b5=>⟨h'.toNat,l'.toNat,by omega,by omega,by omega,by omega,by omega⟩
  by_cases hx:X<0
  ·rw[aF hx,aV,subU,inotU a1 a2,Fb,Int.zero_sub]
   rw[aa hx]at hX
   obtain⟨n1,n2⟩:=negA a1 a3 a4 a2 hX hxb.1 hx
   refine Ret.bnd (Q:=fun y=>∃h' l':Nat,h'<18446744073709551616/\l'<18446744073709551616/\h'*18446744073709551616+l'=X.natAbs/\y=Sum.inl (((n:Int),sg,(h':Int),(l':Int),((D.natAbs:Nat):Int),true,EO X D,()),())) ?_ (by rintro _ ⟨h',l',g1,g2,g3,rfl⟩;rw[am];exact Ret.some ⟨h',l',g1,g2,g3,rfl⟩)
   by_cases hz:(-l)%18446744073709551616=0
   ·obtain⟨a,b,g1,g2,g3,g4,g5⟩:=fin _ _ (by omega) (by omega) (by omega) (by omega) ((n1 hz).trans (by omega))
    rw[bK hz,aV,g4,g5]
    exact Ret.some ⟨a,b,g1,g2,g3,rfl⟩
   ·obtain⟨a,b,g1,g2,g3,g4,g5⟩:=fin _ _ (by omega) (by omega) (by omega) (by omega) ((n2 hz).trans (by omega))
    rw[aD hz,ap,g4,g5]
    exact Ret.some ⟨a,b,g1,g2,g3,rfl⟩
  ·rw[ae hx]at hX
   obtain⟨a,b,g1,g2,g3,g4,g5⟩:=fin h l a1 a2 a3 a4 (hX.trans (by omega))
   rw[aP hx,ap,g4,g5]
   exact Ret.some ⟨a,b,g1,g2,g3,rfl⟩
 rintro _ ⟨h',l',b1,b2,hM,rfl⟩
 rw[am]
 dsimp only[p5,p6]
 by_cases hov:D.natAbs<=h'
 ·have hb:zx X.natAbs D.natAbs=true:=dT
  rw[gY,aV]
  unfold Kd
  rw[aa hb]
  exact Ret.some ⟨0,0,rfl,fun g=>by cases g⟩
 have hb:¬zx X.natAbs D.natAbs=true:=fun g=>by
  have:=bh g
  omega
 rw[mI,ap,zV (by omega) hDlt b2,af,hM,<-hq,<-hr]
 dsimp only
 have hq64:q<18446744073709551616:=by rw[hq];exact ja (by omega)
 have hr64:r<18446744073709551616:=by
  rw[hr]
  have:X.natAbs%D.natAbs<D.natAbs:=cr _ (by omega)
  omega
 have hrD:r<D.natAbs:=by rw[hr];exact cr _ (by omega)
 have hDn:sg=false->D.natAbs<2^(8*n):=fun g=>by
  have h5:=hDb.2.1
  have h6:=hDb.2.2.2 g
  have:((D.natAbs:Nat):Int)<((2^(8*n):Nat):Int):=by rw[nk];omega
  exact ka.1 this
 clear hov hXe hDe hq hr hM hxb hxt hDb hX e1
 have e8:cj .i64 8 (n:Int)=((8*n:Nat):Int):=by rw[dh (a:=8)];omega
 have w8:an .u64 ((8*n:Nat):Int)=((8*n:Nat):Int):=dl
 have e7:bo .i64 ((8*n:Nat):Int) 1=((8*n-1:Nat):Int):=by rw[bN];omega
 have w7:an .u64 ((8*n-1:Nat):Int)=((8*n-1:Nat):Int):=dl
 rw[e8,w8,e7,w7]
 cases sg with
 |false=>
  rw[show bm false=true from rfl,aV,ag (show leI 0 ((8*n:Nat):Int)=true from gY),Ey (by omega)]
  have hok:br (eqI (n:Int) 8) (some true) (some (eqI ((q/2^(8*n):Nat):Int) 0))=some (decide (q<2^(8*n))):=by
   by_cases g:n=8
   ·subst g
    rw[bK (by rfl),aV,aF (by exact hq64)]
   ·rw[aD,ap]
    congr 1
    unfold eqI
    rw[bv,aG,aG]
    have hp:=cE (8*n)
    rw[show(((q/2^(8*n):Nat):Int)=0)↔q/2^(8*n)=0 from by omega,Nat.div_eq_zero_iff_lt hp]
  rw[hok,af]
  unfold Kd
  rw[ae hb,aa rfl]
  dsimp only
  refine Ret.some ⟨_,_,rfl,fun g=>?_⟩
  have gq:=bh g
  have gr:r<2^(8*n):=ov hrD (hDn rfl)
  have hw:∀z:Nat,z<2^(8*n)->an .i64 (z:Int)=nU n (z:Int):=fun z hz=>by
   unfold nU an
   have:(z:Int)%2^(8*n)=(z:Int):=by rw[<-nk,<-dM,cb hz]
   rw[this]
  exact⟨hw q gq,hw r gr⟩
 |true=>
  rw[show bm true=false from rfl,ap,ag (show leI 0 ((8*n-1:Nat):Int)=true from gY)]
  have hlim:eW .u64 1 ((8*n-1:Nat):Int)=((2^(8*n-1):Nat):Int):=by
   have:eW .u64 ((1:Nat):Int) ((8*n-1:Nat):Int)=_:=KG (a:=1) (s:=8*n-1) (by omega)
   rw[show(1:Int)=((1:Nat):Int)from rfl,this,jg,cb]
   have:2^(8*n-1)<2^64:=Nat.pow_lt_pow_right (by decide) (by omega)
   exact this
  rw[hlim]
  obtain⟨t,ht⟩:∃t:Bool,t=EO X D:=⟨_,rfl⟩
  unfold Kd
  rw[ae hb,ae (show ¬true=false by decide),<-ht]
  obtain⟨P,hP⟩:∃P,P=2^(8*n-1):=⟨_,rfl⟩
  have hcond:br (ltI ((2^(8*n-1):Nat):Int) (q:Int)) (some true) (bnd (br (eqI (q:Int) ((2^(8*n-1):Nat):Int)) (some (bm t)) (some false)) (fun x15=>some x15))=some (zy t n q):=by
   unfold zy
   rw[<-hP]
   by_cases g:P<q
   ·rw[kN,aV]
    cases t with
    |true=>rw[aa rfl,aF g]
    |false=>rw[iD,dT]
   ·rw[kJ,ap]
    by_cases g2:q=P
    ·rw[bK,aV,af]
     cases t with
     |true=>rw[aa rfl,aP g];rfl
     |false=>rw[iD,dT];rfl
    ·rw[aD,ap,af]
     cases t with
     |true=>rw[aa rfl,aP g]
     |false=>rw[iD,dF]
  rw[hcond,af]
  by_cases ho:zy t n q=true
  ·rw[ho,aV,aa rfl]
   exact Ret.some ⟨0,0,rfl,fun g=>by cases g⟩
  ·rw[jO.2 ho,ap,iD]
   refine Ret.bnd (Q:=fun y=>y=Sum.inl (((n:Int),decide (X<0),(if t=true then bo .u64 0 (q:Int)else(q:Int)),(r:Int),()),())) ?_ ?_
   ·cases t with
    |true=>rw[aV];exact Ret.some rfl
    |false=>rw[ap];exact Ret.some rfl
   rintro _ rfl
   rw[am]
   dsimp only
   refine Ret.bnd (Q:=fun y=>y=Sum.inl (((n:Int),(if t=true then bo .u64 0 (q:Int)else(q:Int)),(if decide (X<0)=true then bo .u64 0 (r:Int)else(r:Int)),()),())) ?_ ?_
   ·cases decide (X<0)with
    |true=>rw[aV];exact Ret.some rfl
    |false=>rw[ap];exact Ret.some rfl
   rintro _ rfl
   rw[am]
   dsimp only
   rw[cc (jW _) n hn,cc (jW _) n hn,af,af,GG hn _ hq64,GG hn _ hr64]
   exact Ret.some ⟨_,_,rfl,fun _=>⟨rfl,rfl⟩⟩
noncomputable section
theorem u7 (m:List Page)(a p:Int):∀(n:Nat) (k:Int),fo m a p n k=0\/fo m a p n k=13\/fo m a p n k=14
 |0,k=> .inl rfl
 |n+1,k=>by
  have ih:=u7 m a p n (k+1)
  unfold fo
  split
  ·exact .inr (.inl rfl)
  ·split
   ·exact .inr (.inr rfl)
   ·exact ih
def nj (m:List Page)(a:Int)(n:Nat)(v:Int):List Page×Int:=
 match dE (((m,()),a,(n:Int),v,()),())with
 |some x=>(x.2.1,x.1.2.1)
 |none=>(m,0)
theorem yX (m:List Page)(hm:MemT m)(a v:Int)(n:Nat)(hn:di (n:Int)=true)(ha:I64 a):
  dE (((m,()),a,(n:Int),v,()),())=some (((),(nj m a n v).2,()),(nj m a n v).1,())/\
   ((((nj m a n v).2=13\/(nj m a n v).2=14)/\(nj m a n v).1=m/\(nj m a n v).2=fo m a 2 n 0/\fo m a 2 n 0≠0)\/((nj m a n v).2=0/\fo m a 2 n 0=0/\Laid m a (leB v n) n (nj m a n v).1)):=by
 obtain⟨n1,n8⟩:=fw hn
 have hl:=hm.len
 have key:∃x e,dE (((m,()),a,(n:Int),v,()),())=some (((),e,()),x,())/\
   (((e=13\/e=14)/\x=m/\e=fo m a 2 n 0/\fo m a 2 n 0≠0)\/(e=0/\fo m a 2 n 0=0/\Laid m a (leB v n) n x)):=by
  unfold dE
  dsimp only
  rw[mp m hm.r a 2 n (by omega) ha (by decide) n1,af]
  dsimp only
  by_cases hf:fo m a 2 n 0=0
  ·have hok:=pD hm.r n 0 hf
   have hok:∀k,k<(leB v n).length->¬fnd m (a+(k:Nat))<0:=fun k hk=>hok k (iG _) (by rw[cM]at hk;omega)
   obtain⟨x,hx1,hx2⟩:=lay_ex m hm a (leB v n) ha (by rw[cM];omega) hok
   rw[cM]at hx2
   refine⟨x,0,?_,.inr ⟨rfl,hf,hx2⟩⟩
   rw[hf,bK rfl,eu,ap,Gq v n n8,af,hx1,af]
  ·refine⟨m,fo m a 2 n 0,?_,.inl ⟨by rcases u7 m a 2 n 0 with h|h|h;exact ah h hf;exact .inl h;exact .inr h,rfl,rfl,hf⟩⟩
   rw[aD hf,eF,aV,tp m (by omega),af]
 obtain⟨x,e,h1,h2⟩:=key
 unfold nj
 rw[h1]
 exact⟨rfl,h2⟩
theorem JO {m:List Page}(hm:MemT m){a v:Int}{n:Nat}(hn:di (n:Int)=true)(ha:I64 a):MemT (nj m a n v).1:=by
 rcases(yX m hm a v n hn ha).2 with ⟨_,h,_⟩|⟨_,_,h⟩
 ·rw[h];exact hm
 ·exact h.memT hm
theorem Gt (m:List Page)(a:Int)(n:Nat):I64 (vF m a n).1:=by
 unfold vF
 split
 ·exact aB _
 ·unfold I64;dsimp only;omega
structure MS where
 g:List Int
 m:List Page
 code:Int
 l:List Acc
abbrev TM:=(List Int×Int×Int×Int×Int×Unit)×List Page×List Acc×Unit
def MS.t (s:MS)(rip fl nx:Int):TM:=((s.g,rip,fl,nx,s.code,()),s.m,s.l,())
abbrev rg (g:List Int)(i:Int):Int:=bk g i (aJ .i)
def lj (g:List Int):Prop:=∀i,I64 (rg g i)
structure MS.ok (s:MS)(k:Nat):Prop where
 m:MemT s.m
 l:s.l.length<=k
 g:lj s.g
theorem MS.ok.mono {s:MS}{k j:Nat}(h:s.ok k)(hk:k<=j):s.ok j:=⟨h.m,dN h.l hk,h.g⟩
def MS.ld (s:MS)(a:Int)(n:Nat):Int×MS:=
 if s.code≠0 then(0,s)else((vF s.m a n).1,{s with code:=(vF s.m a n).2,l:=s.l++[Acc.mk 1 a n (vF s.m a n).1]})
def MS.st (s:MS)(a:Int)(n:Nat)(v:Int):MS:=
 if s.code≠0 then s else {s with m:=(nj s.m a n v).1,code:=(nj s.m a n v).2,l:=s.l++[Acc.mk 2 a n (cR v n)]}
theorem Iq {α:Type}{xs:List α}{x:α}(h:xs.length<=1000):dO xs [x]=true:=by
 exact j5 (by simp;omega)
theorem Gu {s:MS}{k:Nat}(hs:s.ok k)(hk:k<=1000){a:Int}(ha:I64 a){n:Nat}(hn:di (n:Int)=true)(rip fl nx:Int):
  bf ((a,(n:Int),()),s.t rip fl nx)=some ((s.ld a n).1,(s.ld a n).2.t rip fl nx):=by
 obtain⟨n1,n8⟩:=fw hn
 unfold bf MS.t MS.ld
 dsimp only
 by_cases hc:s.code=0
 ·rw[hc,ae (by simp),bK rfl,eu,ap,zP _ hs.m.r a n n1 n8 ha,af]
  dsimp only
  rw[Iq (dN hs.l hk),aV]
  rfl
 ·rw[aa hc,aD hc,eF,aV]
theorem Cl {s:MS}{k:Nat}(hs:s.ok k)(hk:k<=1000){a v:Int}(ha:I64 a){n:Nat}(hn:di (n:Int)=true)(rip fl nx:Int):
  aQ ((a,(n:Int),v,()),s.t rip fl nx)=some ((),(s.st a n v).t rip fl nx):=by
 unfold aQ MS.t MS.st
 dsimp only
 by_cases hc:s.code=0
 ·rw[hc,ae (by simp),bK rfl,eu,ap,(yX _ hs.m a v n hn ha).1,af,cG v n hn,af]
  dsimp only
  rw[Iq (dN hs.l hk),aV]
  rfl
 ·rw[aa hc,aD hc,eF,aV]
theorem MS.ok.ld {s:MS}{k:Nat}(hs:s.ok k)(a:Int)(n:Nat):(s.ld a n).2.ok (k+1)/\I64 (s.ld a n).1/\(s.ld a n).2.g=s.g/\(s.ld a n).2.m=s.m:=by
 unfold MS.ld
 split
 ·exact⟨hs.mono (kV k),by unfold I64;dsimp only;omega,rfl,rfl⟩
 ·exact⟨⟨hs.m,by simp;exact hs.l,hs.g⟩,Gt ..,rfl,rfl⟩
theorem MS.ok.st {s:MS}{k:Nat}(hs:s.ok k){a:Int}(ha:I64 a){n:Nat}(hn:di (n:Int)=true)(v:Int):(s.st a n v).ok (k+1)/\(s.st a n v).g=s.g:=by
 unfold MS.st
 split
 ·exact⟨hs.mono (kV k),rfl⟩
 ·exact⟨⟨JO hs.m hn ha,by simp;exact hs.l,hs.g⟩,rfl⟩
def setA (g:List Int)(i v:Int):List Int:=eM (gj 16 (aJ .i) g) i v
def nC (g:List Int)(r:Int)(n:Nat):Int:=if 16<=r then cR (dC .i64 (rg g (r-16)) 8) 1 else cR (rg g r) n
def wc (g:List Int)(r:Int)(n:Nat)(v:Int):List Int:=
 if 16<=r then setA g (r-16) (ior .i64 (jy .i64 (rg g (r-16)) 65280) (eW .i64 (cR v 1) 8))
 else if 4<=n then setA g r (cR v n)
 else setA g r (aL .i64 (rg g r) (bo .i64 (cR v n) (cR (rg g r) n)))
theorem lj.setA {g:List Int}(h:lj g){i v:Int}(hv:I64 v):lj (setA g i v):=by
 intro j
 have h0:∀k:Nat,I64 (((gj 16 (aJ .i) g)).getD k (aJ .i)):=fun k=>by
  unfold gj
  rw[ec,oD]
  split
  ·have:=h (k:Int)
   unfold rg bk at this
   rw[bu,ec]at this
   exact this
  ·rw[sQ]
   split
   ·exact(by unfold I64;decide:I64 (0:Int))
   ·exact(by unfold I64;decide:I64 (0:Int))
 unfold rg bk Go.Den.G.setA eM
 rw[ec,oi]
 split
 ·split
  ·exact hv
  ·exact(by unfold I64;decide:I64 (0:Int))
 ·have:=h0 j.toNat
  rw[ec]at this
  exact this
theorem yn {g:List Int}(h:lj g){r:Int}{n:Nat}(hn:di (n:Int)=true):I64 (nC g r n):=by
 unfold nC
 split
 ·exact gE (by
   have:=h (r-16)
   unfold I64 at this|-
   unfold dC
   rw[show(2:Int)^min (Int.toNat 8) IntKind.i64.bits=256 from rfl,i7 _ (by decide)]
   omega) (by rfl)
 ·exact gE (h r) hn
theorem pi {g:List Int}(h:lj g){r v:Int}(hv:I64 v){n:Nat}(hn:di (n:Int)=true):lj (wc g r n v):=by
 unfold wc
 split
 ·exact h.setA (mL ..)
 ·split
  ·exact h.setA (gE hv hn)
  ·exact h.setA (aB _)
theorem pJ (r:Int):aS ((r,()),())=some (decide (16<=r/\r<=19),()):=by
 unfold aS
 dsimp only
 rw[qh,af]
 congr 2
 unfold inB
 rw[bv]
 simp
def qZ (g:List Int)(nx:Int)(o:Opd):Int:=
 let a:=if o.base=16 then aL .i64 o.disp nx else if 0<=o.base then aL .i64 o.disp (rg g o.base)else o.disp
 if 0<=o.index then aL .i64 a (cj .i64 (rg g o.index) o.scale)else a
structure OpV (o:Opd)(z:Int):Prop where
 r:o.kind≠2->(o.kind=1->sE o.reg z)
 b:o.kind=2->o.base<=16/\o.index<=15
 d:I64 o.disp
 i:I64 o.imm
theorem oT {g:List Int}{nx:Int}{o:Opd}{z:Int}(h:OpV o z):I64 (qZ g nx o):=by
 unfold qZ
 dsimp only
 split
 ·exact aB _
 ·split
  ·exact aB _
  ·split
   ·exact aB _
   ·exact h.d
def MS.rd (s:MS)(nx:Int)(o:Opd)(n:Nat):Int×MS:=
 if o.kind=1 then(nC s.g o.reg n,s)else if o.kind=2 then s.ld (qZ s.g nx o) n else(o.imm,s)
def MS.wr (s:MS)(nx:Int)(o:Opd)(n:Nat)(v:Int):MS:=
 if o.kind=2 then s.st (qZ s.g nx o) n v else {s with g:=wc s.g o.reg n v}
theorem KC {s:MS}{k:Nat}(hs:s.ok k)(hk:k<=1000){o:Opd}{n:Nat}(hn:di (n:Int)=true)(hv:OpV o n)(rip fl nx:Int):
  aH ((dw o (),(n:Int),()),s.t rip fl nx)=some ((s.rd nx o n).1,(s.rd nx o n).2.t rip fl nx):=by
 unfold aH
 dsimp only[dw,p5,p6]
 have hI:=oT (g:=s.g) (nx:=nx) hv
 have hl:=Gu hs hk hI hn rip fl nx
 by_cases h1:o.kind=1
 ·have hr:=hv.r (by omega) h1
  unfold MS.rd
  rw[aa h1,bK h1,aV,pJ,af]
  unfold sE at hr
  dsimp only
  unfold nC MS.t
  by_cases h16:16<=o.reg
  ·rw[aF ⟨h16,by omega⟩,aV,aa h16,bN,ag (cQ),show(1:Int)=((1:Nat):Int)from rfl,cG _ 1 rfl,af]
  ·rw[dF,ap,ae h16,ag (cQ),cG _ n hn,af]
 ·rw[aD h1,ap]
  by_cases h2:o.kind=2
  ·have hb:=hv.b h2
   unfold MS.rd
   rw[ae h1,aa h2,bK h2,aV]
   have hg:=(hs.ld (qZ s.g nx o) n).2.2.1
   have hfin:∀a:Int,a=qZ s.g nx o->(bnd (bf ((a,(n:Int),()),s.t rip fl nx)) (fun x5=>some (x5.1,(s.g,rip,fl,nx,x5.2.1.2.2.2.2),x5.2.2)))=some ((s.ld (qZ s.g nx o) n).1,(s.ld (qZ s.g nx o) n).2.t rip fl nx):=by
    rintro _ rfl
    rw[hl,af]
    unfold MS.t
    dsimp only
    rw[hg]
   unfold MS.t at hfin|-
   dsimp only
   by_cases b16:o.base=16
   ·rw[bK b16,aV]
    by_cases hi:0<=o.index
    ·rw[ag (gY hi),ag (cQ hi (by omega))]
     exact hfin _ (by unfold qZ;dsimp only;rw[aa b16,aa hi])
    ·rw[aq (mI hi)]
     exact hfin _ (by unfold qZ;dsimp only;rw[aa b16,ae hi])
   ·rw[aD b16,ap]
    by_cases hb0:0<=o.base
    ·rw[ag (gY hb0),ag (cQ hb0 (by omega))]
     by_cases hi:0<=o.index
     ·rw[ag (gY hi),ag (cQ hi (by omega))]
      exact hfin _ (by unfold qZ;dsimp only;rw[ae b16,aa hb0,aa hi])
     ·rw[aq (mI hi)]
      exact hfin _ (by unfold qZ;dsimp only;rw[ae b16,aa hb0,ae hi])
    ·rw[aq (mI hb0)]
     by_cases hi:0<=o.index
     ·rw[ag (gY hi),ag (cQ hi (by omega))]
      exact hfin _ (by unfold qZ;dsimp only;rw[ae b16,ae hb0,aa hi])
     ·rw[aq (mI hi)]
      exact hfin _ (by unfold qZ;dsimp only;rw[ae b16,ae hb0,ae hi])
  ·unfold MS.rd
   rw[ae h1,ae h2,aD h2,ap]
theorem set_m {g:List Int}{r v:Int}{n:Nat}(hn:di (n:Int)=true)(hr:sE r n){α:Type}(Z:List Int->Option α):
  (bnd (aS ((r,()),())) (fun x8=>br x8.1 (br (inR (bo .i64 r 16) 16) (bnd (aj ((v,1,()),())) (fun x9=>Z (eM (gj 16 (aJ .i) g) (bo .i64 r 16) (ior .i64 (jy .i64 (bk g (bo .i64 r 16) (aJ .i)) 65280) (eW .i64 x9.1 8))))) none) (br (leI 4 (n:Int)) (bnd (aj ((v,(n:Int),()),())) (fun x10=>br (inR r 16) (Z (eM (gj 16 (aJ .i) g) r x10.1)) none)) (br (inR r 16) (br (inR r 16) (bnd (aj ((v,(n:Int),()),())) (fun x11=>bnd (aj (((bk g r (aJ .i)),(n:Int),()),())) (fun x12=>br (inR r 16) (Z (eM (gj 16 (aJ .i) g) r (aL .i64 (bk g r (aJ .i)) (bo .i64 x11.1 x12.1)))) none))) none) none))))=Z (wc g r n v):=by
 unfold sE at hr
 rw[pJ,af]
 dsimp only
 unfold wc Go.Den.G.setA
 by_cases h16:16<=r
 ·rw[aF ⟨h16,by omega⟩,aV,aa h16,bN,ag (cQ),show(1:Int)=((1:Nat):Int)from rfl,cG _ 1 rfl,af]
 ·rw[dF,ap,ae h16]
  have hin:inR r 16=true:=cQ
  by_cases h4:4<=n
  ·rw[ag (gY),cG _ n hn,af,hin,aV,aa h4]
  ·rw[aq (mI),hin,aV,aV,cG _ n hn,cG _ n hn,af,af,aV,ae h4]
theorem write_m {s:MS}{k:Nat}(hs:s.ok k)(hk:k<=1000){o:Opd}{n:Nat}{v:Int}(hn:di (n:Int)=true)(hv:OpV o n)(h0:o.kind=1\/o.kind=2)(rip fl nx:Int):
  aC ((dw o (),(n:Int),v,()),s.t rip fl nx)=some ((),(s.wr nx o n v).t rip fl nx):=by
 unfold aC
 dsimp only[dw,p5,p6]
 have hI:=oT (g:=s.g) (nx:=nx) hv
 have hl:=Cl hs hk (v:=v) hI hn rip fl nx
 by_cases h2:o.kind=2
 ·have hb:=hv.b h2
  unfold MS.wr
  rw[aa h2,bK h2,aV]
  have hg:=(hs.st (v:=v) hI hn).2
  have hfin:∀a:Int,a=qZ s.g nx o->(bnd (aQ ((a,(n:Int),v,()),s.t rip fl nx)) (fun x5=>some ((),(s.g,rip,fl,nx,x5.2.1.2.2.2.2),x5.2.2)))=some ((),(s.st (qZ s.g nx o) n v).t rip fl nx):=by
   rintro _ rfl
   rw[hl,af]
   unfold MS.t
   dsimp only
   rw[hg]
  unfold MS.t at hfin|-
  dsimp only
  by_cases b16:o.base=16
  ·rw[bK b16,aV]
   by_cases hi:0<=o.index
   ·rw[ag (gY hi),ag (cQ hi (by omega))]
    exact hfin _ (by unfold qZ;dsimp only;rw[aa b16,aa hi])
   ·rw[aq (mI hi)]
    exact hfin _ (by unfold qZ;dsimp only;rw[aa b16,ae hi])
  ·rw[aD b16,ap]
   by_cases hb0:0<=o.base
   ·rw[ag (gY hb0),ag (cQ hb0 (by omega))]
    by_cases hi:0<=o.index
    ·rw[ag (gY hi),ag (cQ hi (by omega))]
     exact hfin _ (by unfold qZ;dsimp only;rw[ae b16,aa hb0,aa hi])
    ·rw[aq (mI hi)]
     exact hfin _ (by unfold qZ;dsimp only;rw[ae b16,aa hb0,ae hi])
   ·rw[aq (mI hb0)]
    by_cases hi:0<=o.index
    ·rw[ag (gY hi),ag (cQ hi (by omega))]
     exact hfin _ (by unfold qZ;dsimp only;rw[ae b16,ae hb0,aa hi])
    ·rw[aq (mI hi)]
     exact hfin _ (by unfold qZ;dsimp only;rw[ae b16,ae hb0,ae hi])
 ·have h1:o.kind=1:=by omega
  unfold MS.wr
  rw[ae h2,aD h2,ap]
  exact set_m hn (hv.r h2 h1) (fun g'=>some ((),(g',rip,fl,nx,s.code,()),s.m,s.l,()))
theorem MS.ok.rd {s:MS}{k:Nat}(hs:s.ok k)(nx:Int){o:Opd}{n:Nat}(hn:di (n:Int)=true)(hv:OpV o n):(s.rd nx o n).2.ok (k+1)/\I64 (s.rd nx o n).1/\(s.rd nx o n).2.g=s.g/\(s.rd nx o n).2.m=s.m:=by
 unfold MS.rd
 split
 ·exact⟨hs.mono (kV k),yn hs.g hn,rfl,rfl⟩
 ·split
  ·exact hs.ld ..
  ·exact⟨hs.mono (kV k),hv.i,rfl,rfl⟩
theorem MS.ok.wr {s:MS}{k:Nat}(hs:s.ok k)(nx:Int){o:Opd}{n:Nat}{v:Int}(hI:I64 v)(hn:di (n:Int)=true)(hv:OpV o n):(s.wr nx o n v).ok (k+1):=by
 unfold MS.wr
 split
 ·exact(hs.st (oT hv) hn v).1
 ·exact⟨hs.m,dN hs.l (kV k),pi hs.g hI hn⟩
def MS.pu (s:MS)(v:Int):MS:=({s with g:=setA s.g 4 (bo .i64 (rg s.g 4) 8)}:MS).st (rg (setA s.g 4 (bo .i64 (rg s.g 4) 8)) 4) 8 v
def MS.po (s:MS):Int×MS:=((s.ld (rg s.g 4) 8).1,{(s.ld (rg s.g 4) 8).2 with g:=setA s.g 4 (aL .i64 (rg s.g 4) 8)})
theorem MS.ok.setA {s:MS}{k:Nat}(hs:s.ok k){i v:Int}(hv:I64 v):MS.ok {s with g:=Go.Den.G.setA s.g i v} k:=⟨hs.m,hs.l,hs.g.setA hv⟩
theorem MS.ok.pu {s:MS}{k:Nat}(hs:s.ok k)(v:Int):(s.pu v).ok (k+1):=by
 have h1:=hs.setA (i:=4) (v:=bo .i64 (rg s.g 4) 8) (aB _)
 exact(h1.st (h1.g 4) rfl v).1
theorem MS.ok.po {s:MS}{k:Nat}(hs:s.ok k):s.po.2.ok (k+1)/\I64 s.po.1/\s.po.2.m=s.m:=by
 have h1:=hs.ld (rg s.g 4) 8
 unfold MS.po
 exact⟨⟨h1.1.m,h1.1.l,hs.g.setA (aB _)⟩,h1.2.1,h1.2.2.2⟩
theorem push_m {s:MS}{k:Nat}(hs:s.ok k)(hk:k<=1000)(v rip fl nx:Int):dG ((v,()),s.t rip fl nx)=some ((),(s.pu v).t rip fl nx):=by
 have h1:=hs.setA (i:=4) (v:=bo .i64 (rg s.g 4) 8) (aB _)
 have h2:=Cl h1 hk (a:=rg (setA s.g 4 (bo .i64 (rg s.g 4) 8)) 4) (v:=v) (n:=8) (h1.g 4) rfl rip fl nx
 have h3:=(h1.st (a:=rg (setA s.g 4 (bo .i64 (rg s.g 4) 8)) 4) (n:=8) (h1.g 4) rfl v).2
 unfold dG
 unfold MS.t at h2|-
 dsimp only at h2 h3|-
 have h2':aQ (((bk (eM (gj 16 (aJ .i) s.g) 4 (bo .i64 (bk s.g 4 (aJ .i)) 8)) 4 (aJ .i)),8,v,()),((eM (gj 16 (aJ .i) s.g) 4 (bo .i64 (bk s.g 4 (aJ .i)) 8)),rip,fl,nx,s.code,()),s.m,s.l,())=_:=h2
 rw[h2',af]
 unfold MS.pu
 dsimp only
 rw[h3]
 rfl
theorem pop_m {s:MS}{k:Nat}(hs:s.ok k)(hk:k<=1000)(rip fl nx:Int):dV ((),s.t rip fl nx)=some (s.po.1,s.po.2.t rip fl nx):=by
 have h2:=Gu hs hk (a:=rg s.g 4) (n:=8) (hs.g 4) rfl rip fl nx
 unfold dV
 unfold MS.t at h2|-
 dsimp only at h2|-
 have h2':bf (((bk s.g 4 (aJ .i)),8,()),(s.g,rip,fl,nx,s.code,()),s.m,s.l,())=_:=h2
 rw[h2',af]
 rfl
def MS.go (s:MS)(nx:Int)(x:Ins):Int×MS:=if x.src.kind=3 then(aL .i64 nx x.src.imm,s)else s.rd nx x.src 8
theorem goal_m {s:MS}{k:Nat}(hs:s.ok k)(hk:k<=1000){x:Ins}(hv:OpV x.src 8)(rip fl nx:Int):cu ((x,()),s.t rip fl nx)=some ((s.go nx x).1,(s.go nx x).2.t rip fl nx):=by
 have hr:=KC hs hk (n:=8) rfl hv rip fl nx
 have hg:=(hs.rd nx (n:=8) rfl hv).2.2.1
 unfold cu MS.go
 dsimp only
 by_cases h3:x.src.kind=3
 ·rw[bK h3,aV,aa h3]
  rfl
 ·rw[aD h3,ap,ae h3]
  have hr':aH ((dw x.src (),8,()),s.t rip fl nx)=_:=hr
  rw[hr',af]
  unfold MS.t
  dsimp only
  rw[hg]
theorem MS.ok.go {s:MS}{k:Nat}(hs:s.ok k)(nx:Int){x:Ins}(hv:OpV x.src 8):(s.go nx x).2.ok (k+1)/\I64 (s.go nx x).1:=by
 unfold MS.go
 split
 ·exact⟨hs.mono (kV k),aB _⟩
 ·have:=hs.rd nx (n:=8) rfl hv
  exact⟨this.1,this.2.1⟩
end
set_option synthInstance.maxSize 4000
set_option synthInstance.maxHeartbeats 400000
def kOf (c:UInt8):Int:=if c=114 then 1 else if c=109 then 2 else if c=105 then 3 else 0
def kindT (n:Nat)(kd ks:Int):Bool:=
 decide ((n<=12\/17<=n/\n<=28\/n=30\/n=35\/n=36->kd=1\/kd=2)/\(n=28->ks=1)/\(n=25->kd=1/\ks=2)/\
  (n=9->kd=2->ks≠2)/\(n=26\/n=27\/n=36\/n=17->kd=1/\(ks=1\/ks=2))/\(13<=n/\n<=16->ks=1\/ks=2)/\(n=29\/n=31\/n=32->ks=1\/ks=2\/ks=3)/\(n=33->ks=3)/\
  (20<=n/\n<=24->ks=1\/ks=3)/\(n=11\/n=12\/n=18\/n=19->ks=0)/\(n<=8\/n=10\/n=17->ks=1\/ks=2\/ks=3))
theorem IH:∀n,n<45->1<=n->∀q∈prK n,q.length=2/\q.getD 0 0∈xR/\q.getD 1 0∈xR/\kindT n (kOf (q.getD 0 0)) (kOf (q.getD 1 0))=true:=by decide +kernel
theorem Kp {k:Int}{c:UInt8}(hc:c∈xR)(h:sl k c):k=kOf c:=by
 have hc:c=114\/c=109\/c=105\/c=48:=by simpa[xR]using hc
 unfold sl at h
 rcases hc with rfl|rfl|rfl|rfl<;>revert h<;>unfold kOf<;>intro h<;>simp at h|- <;>omega
theorem IG {n:Nat}(h1:1<=n)(h2:n<45){kd ks:Int}(h:(prK n).any (nS kd ks)=true):kindT n kd ks=true:=by
 rw[List.any_eq_true]at h
 obtain⟨q,hq,hp⟩:=h
 obtain⟨l,a,b,t⟩:=IH n h2 h1 q hq
 match q,l with
 |[c,d],_=>
  simp only[nS,ar,aG]at hp
  rw[Kp (c:=c) a hp.1,Kp (c:=d) b hp.2]
  exact t
def sizeT (n:Nat)(z:Int):Bool:=decide ((n<=28\/n=36\/n=40->di z=true)/\(n=39->z=2\/z=4\/z=8)/\(29<=n/\n<=32->z=8)/\(n=35->z=1)/\(n=33->z=0))
theorem JM:∀n,n<45->1<=n->∀z∈szL (szK n),sizeT n z=true:=by decide +kernel
structure ExV (x:Ins)(n:Nat):Prop where
 op:x.op=n
 n1:1<=n
 n2:n<45
 kt:kindT n x.dst.kind x.src.kind=true
 zt:sizeT n x.size=true
 dv:OpV x.dst x.size
 sv:OpV x.src (sSz x n)
 fr:(n=26\/n=27->di x.frm=true)/\(¬(n=26\/n=27)->x.frm=0)
 c0:0<=x.cond
 c1:x.cond<=15
theorem J6 {o:Opd}{z:Int}(h:ss o z)(hd:I64 o.disp)(hi:I64 o.imm):OpV o z:=by
 unfold ss opB uB at h
 refine⟨fun _ h1=>?_,fun h2=>?_,hd,hi⟩
 ·rcases h with h|h|h|h
  ·exact h.2.2.2.2.2.2
  ·omega
  ·omega
  ·omega
 ·rcases h with h|h|h|h
  ·omega
  ·omega
  ·omega
  ·omega
theorem ExV_of {x:Ins}{n:Nat}(hop:x.op=n)(h1:1<=n)(h2:n<45)(h:wV x n)(hI:I64 x.dst.disp/\I64 x.dst.imm/\I64 x.src.disp/\I64 x.src.imm):ExV x n:=by
 obtain⟨_,_,hs,hf,_,c0,c1,hd,hsr,_⟩:=h
 unfold shB at hs
 simp only[ar,aG]at hs
 obtain⟨hz,hk,hnum⟩:=hs
 refine⟨hop,h1,h2,IG h1 h2 hk,JM n h2 h1 _ hz,J6 hd hI.1 hI.2.1,J6 hsr hI.2.2.1 hI.2.2.2,⟨fun h=>?_,fun h=>?_⟩,c0,c1⟩
 ·unfold yH at hnum
  rcases h with rfl|rfl
  ·have hnum:decide (x.frm=1\/x.frm=2/\2<x.size)=true:=hnum
   rcases bh hnum with h|h
   ·rw[h];rfl
   ·rw[h.1];rfl
  ·have hnum:decide (x.frm=1\/x.frm=2/\2<x.size\/x.frm=4/\x.size=8)=true:=hnum
   rcases bh hnum with h|h|h
   ·rw[h];rfl
   ·rw[h.1];rfl
   ·rw[h.1];rfl
 ·rcases hf with h'|h'
  ·exact ah h' h
  ·exact h'
theorem ExV.kd {x:Ins}{n:Nat}(h:ExV x n):(n<=12\/17<=n/\n<=28\/n=30\/n=35\/n=36->x.dst.kind=1\/x.dst.kind=2)/\(n=28->x.src.kind=1)/\(n=25->x.dst.kind=1/\x.src.kind=2)/\
  (n=9->x.dst.kind=2->x.src.kind≠2)/\(n=26\/n=27\/n=36\/n=17->x.dst.kind=1/\(x.src.kind=1\/x.src.kind=2))/\(13<=n/\n<=16->x.src.kind=1\/x.src.kind=2)/\(n=29\/n=31\/n=32->x.src.kind=1\/x.src.kind=2\/x.src.kind=3)/\(n=33->x.src.kind=3)/\
  (20<=n/\n<=24->x.src.kind=1\/x.src.kind=3)/\(n=11\/n=12\/n=18\/n=19->x.src.kind=0)/\(n<=8\/n=10\/n=17->x.src.kind=1\/x.src.kind=2\/x.src.kind=3):=bh h.kt
theorem ExV.szs {x:Ins}{n:Nat}(h:ExV x n):(n<=28\/n=36\/n=40->di x.size=true)/\(n=39->x.size=2\/x.size=4\/x.size=8)/\(29<=n/\n<=32->x.size=8)/\(n=35->x.size=1)/\(n=33->x.size=0):=bh h.zt
theorem ux {z:Int}(h:di z=true):∃k:Nat,z=(k:Int)/\di (k:Int)=true:=by
 obtain⟨k,hk,_⟩:=ID h
 exact⟨k,hk,by rw[<-hk];exact h⟩
noncomputable section
theorem Er {r:Int×MS}{g:List Int}{m:List Page}(hg:r.2.g=g)(hm:r.2.m=m):∃v c' l',r=(v,MS.mk g m c' l'):=by
 obtain⟨v,g',m',c',l'⟩:=r
 cases hg;cases hm
 exact⟨v,c',l',rfl⟩
theorem vZ {g:List Int}{m:List Page}{c:Int}{l:List Acc}{k:Nat}(hs:(MS.mk g m c l).ok k)(hk:k<=1000){o:Opd}{n:Nat}(hn:di (n:Int)=true)(hv:OpV o n)(nx:Int):
  ∃v c' l',(MS.mk g m c l).rd nx o n=(v,⟨g,m,c',l'⟩)/\(∀rip fl,aH ((dw o (),(n:Int),()),(g,rip,fl,nx,c,()),m,l,())=some (v,(g,rip,fl,nx,c',()),m,l',()))/\(MS.mk g m c' l').ok (k+1)/\I64 v:=by
 obtain⟨h1,h2,h3,h4⟩:=hs.rd nx hn hv
 have h5:=fun rip fl=>KC hs hk hn hv rip fl nx
 obtain⟨v,c',l',e⟩:=Er h3 h4
 rw[e]at h1 h2
 refine⟨v,c',l',e,fun rip fl=>?_,h1,h2⟩
 have:=h5 rip fl
 rw[e]at this
 exact this
theorem wE {g:List Int}{m:List Page}{c:Int}{l:List Acc}{k:Nat}(hs:(MS.mk g m c l).ok k)(hk:k<=1000){o:Opd}{n:Nat}(hn:di (n:Int)=true)(hv:OpV o n)(h0:o.kind=1\/o.kind=2)(nx:Int){v:Int}(hI:I64 v):
  ∃g' m' c' l',(MS.mk g m c l).wr nx o n v=⟨g',m',c',l'⟩/\(∀rip fl,aC ((dw o (),(n:Int),v,()),(g,rip,fl,nx,c,()),m,l,())=some ((),(g',rip,fl,nx,c',()),m',l',()))/\(MS.mk g' m' c' l').ok (k+1):=
 ⟨_,_,_,_,rfl,fun rip fl=>write_m hs hk hn hv h0 rip fl nx,hs.wr nx hI hn hv⟩
theorem pu_ex {g:List Int}{m:List Page}{c:Int}{l:List Acc}{k:Nat}(hs:(MS.mk g m c l).ok k)(hk:k<=1000)(v:Int):
  ∃g' m' c' l',(MS.mk g m c l).pu v=⟨g',m',c',l'⟩/\(∀rip fl nx,dG ((v,()),(g,rip,fl,nx,c,()),m,l,())=some ((),(g',rip,fl,nx,c',()),m',l',()))/\(MS.mk g' m' c' l').ok (k+1):=
 ⟨_,_,_,_,rfl,fun rip fl nx=>push_m hs hk v rip fl nx,hs.pu v⟩
theorem po_ex {g:List Int}{m:List Page}{c:Int}{l:List Acc}{k:Nat}(hs:(MS.mk g m c l).ok k)(hk:k<=1000):
  ∃v g' m' c' l',(MS.mk g m c l).po=(v,⟨g',m',c',l'⟩)/\(∀rip fl nx,dV ((),(g,rip,fl,nx,c,()),m,l,())=some (v,(g',rip,fl,nx,c',()),m',l',()))/\(MS.mk g' m' c' l').ok (k+1)/\I64 v:=
 ⟨_,_,_,_,_,rfl,fun rip fl nx=>pop_m hs hk rip fl nx,hs.po.1,hs.po.2.1⟩
theorem go_ex {g:List Int}{m:List Page}{c:Int}{l:List Acc}{k:Nat}(hs:(MS.mk g m c l).ok k)(hk:k<=1000){x:Ins}(hv:OpV x.src 8)(nx:Int):
  ∃v c' l',(MS.mk g m c l).go nx x=(v,⟨g,m,c',l'⟩)/\(∀rip fl,cu ((x,()),(g,rip,fl,nx,c,()),m,l,())=some (v,(g,rip,fl,nx,c',()),m,l',()))/\(MS.mk g m c' l').ok (k+1)/\I64 v:=by
 obtain⟨h1,h2⟩:=hs.go nx hv
 have h5:=fun rip fl=>goal_m hs hk hv rip fl nx
 have h3:((MS.mk g m c l).go nx x).2.g=g/\((MS.mk g m c l).go nx x).2.m=m:=by
  unfold MS.go
  split
  ·exact⟨rfl,rfl⟩
  ·exact(hs.rd nx (n:=8) rfl hv).2.2
 obtain⟨v,c',l',e⟩:=Er h3.1 h3.2
 rw[e]at h1 h2
 refine⟨v,c',l',e,fun rip fl=>?_,h1,h2⟩
 have:=h5 rip fl
 rw[e]at this
 exact this
theorem ld_ex {g:List Int}{m:List Page}{c:Int}{l:List Acc}{k:Nat}(hs:(MS.mk g m c l).ok k)(hk:k<=1000){a:Int}(ha:I64 a){n:Nat}(hn:di (n:Int)=true):
  ∃v c' l',(MS.mk g m c l).ld a n=(v,⟨g,m,c',l'⟩)/\(∀rip fl nx,bf ((a,(n:Int),()),(g,rip,fl,nx,c,()),m,l,())=some (v,(g,rip,fl,nx,c',()),m,l',()))/\(MS.mk g m c' l').ok (k+1)/\I64 v:=by
 obtain⟨h1,h2,h3,h4⟩:=hs.ld a n
 have h5:=fun rip fl nx=>Gu hs hk ha hn rip fl nx
 obtain⟨v,c',l',e⟩:=Er h3 h4
 rw[e]at h1 h2
 refine⟨v,c',l',e,fun rip fl nx=>?_,h1,h2⟩
 have:=h5 rip fl nx
 rw[e]at this
 exact this
theorem st_ex {g:List Int}{m:List Page}{c:Int}{l:List Acc}{k:Nat}(hs:(MS.mk g m c l).ok k)(hk:k<=1000){a:Int}(ha:I64 a){n:Nat}(hn:di (n:Int)=true)(v:Int):
  ∃m' c' l',(MS.mk g m c l).st a n v=⟨g,m',c',l'⟩/\(∀rip fl nx,aQ ((a,(n:Int),v,()),(g,rip,fl,nx,c,()),m,l,())=some ((),(g,rip,fl,nx,c',()),m',l',()))/\(MS.mk g m' c' l').ok (k+1):=by
 obtain⟨h1,h2⟩:=hs.st ha hn v
 have h5:=fun rip fl nx=>Cl hs hk (v:=v) ha hn rip fl nx
 obtain⟨m',c',l',e⟩:∃m' c' l',(MS.mk g m c l).st a n v=⟨g,m',c',l'⟩:=by
  generalize (MS.mk g m c l).st a n v=r at h2
  obtain⟨g',m',c',l'⟩:=r
  cases h2
  exact⟨m',c',l',rfl⟩
 rw[e]at h1
 refine⟨m',c',l',e,fun rip fl nx=>?_,h1⟩
 have:=h5 rip fl nx
 rw[e]at this
 exact this
def DA (n z:Nat):Nat:=if 20<=n/\n<=24 then 8 else z
def sN (n z:Nat)(a b fl:Int):Int×Int:=
 if n<=8\/n=10 then AZ n z a b fl else if n=11\/n=12\/n=18\/n=19 then BS n z a fl
 else if 20<=n then lP n z a (cR b 1) fl else((vI n z a b fl).1,(vI n z a b fl).2.2)
def MS.rd0 (s:MS)(nx:Int)(o:Opd)(n:Nat):Int×MS:=if o.kind≠0 then s.rd nx o n else(0,s)
def MS.reck (s:MS)(nx fl:Int)(x:Ins)(n z:Nat):MS×Int:=
 let a:=s.rd nx x.dst z
 let b:=a.2.rd0 nx x.src (DA n z)
 let r:=sN n z a.1 b.1 fl
 (if n≠8/\n≠10 then b.2.wr nx x.dst z r.1 else b.2,r.2)
theorem uI {x:Ins}{n z:Nat}(hx:ExV x n)(hn:n<=24)(hz:x.size=z)(hz':di (z:Int)=true):gl ((x,()),())=some ((DA n z:Int),())/\sSz x n=(DA n z:Int):=by
 have hf:=hx.fr.2 (by omega)
 have h0:=(fw hz').1
 unfold gl dz sSz DA
 dsimp only
 rw[hf,bK rfl,eu,ap,qh,af,af,hx.op,hz]
 dsimp only
 by_cases h:20<=n/\n<=24
 ·have hb:inB (n:Int) 20 24=true:=by unfold inB;simp;omega
  rw[hb,aV,af,aV,aa h,aa h]
  exact⟨rfl,rfl⟩
 ·have hb:inB (n:Int) 20 24=false:=by unfold inB;simp;omega
  rw[hb,ap,af,aq (aD),ae h,ae h,iD]
  exact⟨rfl,rfl⟩
theorem Iz (n:Nat):lm (((n:Int),()),())=some (decide (1<=n/\n<=8\/n=10),()):=by
 unfold lm
 dsimp only
 rw[qh,af]
 dsimp only
 have hb:inB (n:Int) 1 8=decide (1<=n/\n<=8):=by unfold inB;rw[bv];simp;omega
 have he:eqI (n:Int) 10=decide (n=10):=by unfold eqI;rw[bv];simp;omega
 rw[hb,he,ue,af]
 congr 2
 rw[bv];simp
theorem IC (n:Nat):lq (((n:Int),()),())=some (decide (n=11\/n=12\/n=18\/n=19),()):=by
 unfold lq
 dsimp only
 have he:∀j:Nat,eqI (n:Int) (j:Int)=decide (n=j):=fun j=>by unfold eqI;rw[bv];simp;omega
 have e1:=he 11
 have e2:=he 12
 have e3:=he 18
 have e4:=he 19
 rw[show((11:Nat):Int)=11 from rfl]at e1
 rw[show((12:Nat):Int)=12 from rfl]at e2
 rw[show((18:Nat):Int)=18 from rfl]at e3
 rw[show((19:Nat):Int)=19 from rfl]at e4
 rw[e1,e2,e3,e4,ue,af,ue,af,ue,af]
 congr 2
 rw[bv];simp[or_assoc]
theorem Bw (n:Nat):dz (((n:Int),()),())=some (decide (20<=n/\n<=24),()):=by
 unfold dz
 dsimp only
 rw[qh,af]
 congr 2
 unfold inB;rw[bv];simp;omega
theorem rckV_ok {n z:Nat}{a b fl:Int}(hz:di (z:Int)=true)(ha:I64 a)(hI:I64 fl)(hf:ct fl=true):I64 (sN n z a b fl).1/\ct (sN n z a b fl).2=true/\I64 (sN n z a b fl).2:=by
 unfold sN
 split
 ·exact Fc hz ha
 split
 ·exact GO hz hI hf
 split
 ·exact AB hz ha hI hf
 ·have:=yF (op:=n) (n:=z) (a:=a) (b:=b) hI hf
  exact⟨this.1,this.2.2.1,this.2.2.2⟩
theorem reck_m {g:List Int}{m:List Page}{c:Int}{l:List Acc}{k:Nat}(hs:(MS.mk g m c l).ok k)(hk:k+3<=1000){x:Ins}{n z:Nat}(hx:ExV x n)(hn:n<=8\/10<=n/\n<=12\/17<=n/\n<=24)(hz:x.size=z)
  {fl:Int} (hI:I64 fl) (hf:ct fl=true) (nx:Int):
  ∃g' m' c' l' fl',(MS.mk g m c l).reck nx fl x n z=(⟨g',m',c',l'⟩,fl')/\(∀rip,dK ((x,()),(g,rip,fl,nx,c,()),m,l,())=some ((),(g',rip,fl',nx,c',()),m',l',()))/\(MS.mk g' m' c' l').ok (k+3)/\I64 fl'/\ct fl'=true:=by
 have hz':di (z:Int)=true:=by rw[<-hz];exact hx.szs.1 (by omega)
 have hkd:=hx.kd.1 (by omega)
 have hdv:=hx.dv
 have hsv:=hx.sv
 obtain⟨hss,hss2⟩:=uI hx (by omega) hz hz'
 rw[hz]at hdv
 rw[hss2]at hsv
 have hzs:di (DA n z:Int)=true:=by unfold DA;split;rfl;exact hz'
 obtain⟨v1,c1,l1,e1,r1,ok1,I1⟩:=vZ hs (by omega) hz' hdv nx
 have hb:∃v2 c2 l2,(MS.mk g m c1 l1).rd0 nx x.src (DA n z)=(v2,⟨g,m,c2,l2⟩)/\(MS.mk g m c2 l2).ok (k+2)/\I64 v2/\(x.src.kind=0->v2=0/\c2=c1/\l2=l1)/\
   (x.src.kind≠0->∀rip fl,aH ((dw x.src (),(DA n z:Int),()),(g,rip,fl,nx,c1,()),m,l1,())=some (v2,(g,rip,fl,nx,c2,()),m,l2,())):=by
  unfold MS.rd0
  by_cases h0:x.src.kind=0
  ·rw[ae (by simpa using h0)]
   exact⟨0,c1,l1,rfl,ok1.mono (by omega),by unfold I64;omega,fun _=>⟨rfl,rfl,rfl⟩,fun h=>ah h0 h⟩
  ·rw[aa h0]
   obtain⟨v2,c2,l2,e2,r2,ok2,I2⟩:=vZ ok1 (by omega) hzs hsv nx
   exact⟨v2,c2,l2,e2,ok2,I2,fun h=>ah h h0,fun _=>r2⟩
 obtain⟨v2,c2,l2,e2,ok2,I2,h20,h21⟩:=hb
 obtain⟨rI,rf,rfI⟩:=rckV_ok (n:=n) (b:=v2) hz' I1 hI hf
 have hw:∃g' m' c' l',(if n≠8/\n≠10 then(MS.mk g m c2 l2).wr nx x.dst z (sN n z v1 v2 fl).1 else(MS.mk g m c2 l2))=⟨g',m',c',l'⟩/\(MS.mk g' m' c' l').ok (k+3)/\
   (n≠8/\n≠10->∀rip fl',aC ((dw x.dst (),(z:Int),(sN n z v1 v2 fl).1,()),(g,rip,fl',nx,c2,()),m,l2,())=some ((),(g',rip,fl',nx,c',()),m',l',()))/\
   (¬(n≠8/\n≠10)->g'=g/\m'=m/\c'=c2/\l'=l2):=by
  by_cases h:n≠8/\n≠10
  ·rw[aa h]
   obtain⟨g',m',c',l',e3,r3,ok3⟩:=wE ok2 (by omega) hz' hdv hkd nx rI
   exact⟨g',m',c',l',e3,ok3,fun _=>r3,fun g=>ah h g⟩
  ·rw[ae h]
   exact⟨g,m,c2,l2,rfl,ok2.mono (by omega),fun g=>ah g h,fun _=>⟨rfl,rfl,rfl,rfl⟩⟩
 obtain⟨g',m',c',l',e3,ok3,w1,w2⟩:=hw
 refine⟨g',m',c',l',(sN n z v1 v2 fl).2,?_,fun rip=>?_,ok3,rfI,rf⟩
 ·unfold MS.reck
  dsimp only
  rw[e1]
  dsimp only
  rw[e2]
  dsimp only
  rw[e3]
 unfold dK
 dsimp only
 rw[hz,r1,af]
 dsimp only
 refine(Ret.bnd (Q:=fun y=>y=Sum.inl ((v1,v2,()),(g,rip,fl,nx,c2,()),m,l2,(ew x ()),())) ?_ ?_).eq
 ·by_cases h0:x.src.kind=0
  ·obtain⟨rfl,rfl,rfl⟩:=h20 h0
   rw[bK h0,eu,ap]
   exact Ret.some rfl
  ·rw[aD h0,eF,aV,hss,af,h21 h0,af]
   exact Ret.some rfl
 rintro _ rfl
 rw[am]
 dsimp only[ew,dw]
 rw[hx.op,hz,Iz,af]
 dsimp only
 refine Ret.bnd (Q:=fun y=>y=Sum.inl (((sN n z v1 v2 fl).1,()),(g,rip,(sN n z v1 v2 fl).2,nx,c2,()),m,l2,(ew x ()),())) ?_ ?_
 ·have ex:(((n:Int),(z:Int),x.cond,x.frm,x.dst.kind,x.dst.reg,x.dst.base,x.dst.index,x.dst.scale,x.dst.disp,x.dst.imm,x.src.kind,x.src.reg,x.src.base,x.src.index,x.src.scale,x.src.disp,x.src.imm,x.len,()):Int×Int×Int×Int×Int×Int×Int×Int×Int×Int×Int×Int×Int×Int×Int×Int×Int×Int×Int×Unit)=ew x ():=by
   rw[<-hx.op,<-hz];rfl
  unfold sN
  by_cases ha:n<=8\/n=10
  ·have h1:=hx.n1
   rw[dT,aV,aa ha,alu_eq hz' I1 I2,af]
   dsimp only
   exact Ret.some (by rw[ex])
  ·rw[dF,ap,ae ha,IC,af]
   dsimp only
   refine Ret.bnd (Q:=fun y=>y=Sum.inl (((sN n z v1 v2 fl).1,()),(g,rip,(sN n z v1 v2 fl).2,nx,c2,()),m,l2,(ew x ()),())) ?_ ?_
   ·unfold sN
    rw[ae ha]
    by_cases h1:n=11\/n=12\/n=18\/n=19
    ·rw[aF h1,aV,aa h1,one_eq hz' I1,af]
     dsimp only
     exact Ret.some (by rw[ex])
    ·rw[aP h1,ap,ae h1,Bw,af]
     dsimp only
     refine Ret.bnd (Q:=fun y=>y=Sum.inl (((sN n z v1 v2 fl).1,()),(g,rip,(sN n z v1 v2 fl).2,nx,c2,()),m,l2,(ew x ()),())) ?_ ?_
     ·unfold sN
      rw[ae ha,ae h1]
      by_cases h2:20<=n
      ·rw[dT,aV,aa h2,show(1:Int)=((1:Nat):Int)from rfl,cG _ 1 rfl,af,JK (by omega) hz' I1 hI hf,af]
       dsimp only
       exact Ret.some (by rw[ex])
      ·rw[dF,ap,ae h2,vJ hz' I1 I2 hI hf,af]
       dsimp only
       exact Ret.some (by rw[ex])
     ·rintro _ rfl
      rw[am]
      exact Ret.some (by unfold sN;rw[ae ha,ae h1])
   ·rintro _ rfl
    rw[am]
    exact Ret.some (by unfold sN;rw[ae ha])
 rintro _ rfl
 rw[am]
 dsimp only[ew,dw,cp7]
 rw[hx.op,hz]
 have hbr:br (bm (eqI (n:Int) 8)) (some (bm (eqI (n:Int) 10))) (some false)=some (decide (n≠8/\n≠10)):=by
  by_cases a8:n=8
  ·rw[bK,eu,ap,dF]
  ·rw[aD,eF,aV]
   by_cases a10:n=10
   ·rw[bK,eu,dF]
   ·rw[aD,eF,dT]
 rw[hbr,af]
 by_cases h:n≠8/\n≠10
 ·rw[aF h,aV]
  have hw:=w1 h rip (sN n z v1 v2 fl).2
  unfold dw at hw
  rw[hw,af]
  exact Ret.some rfl
 ·obtain⟨rfl,rfl,rfl,rfl⟩:=w2 h
  rw[aP h,ap]
  exact Ret.some rfl
end
end Go.Den.G
