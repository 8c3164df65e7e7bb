/- Theory for the proofs of this claim: see its last text. -/
import Derived.Test.YtmpliclmlpjopaaGreatFnExecInstr
import Derived.Test.YtmpliclmlpjopaaGreatDenF
import Derived.KernelRfl
import Derived.Laws.MathBits
import Derived.Test.YtmpliclmlpjopaaGreatPaExecInstr
namespace Go.Den.G
open Go.Den
set_option maxRecDepth 100000
def ro:List UInt8:=[114,109,105,48]
theorem lc:∀c∈ro,∀d∈ro,dB (([c],((d.toNat:Int),())),())=some (decide (c=d),()):=by decide +kernel
def lU (k:Int)(c:UInt8):Prop:=k=1∧c=114∨k=2∧c=109∨k=3∧c=105∨k=0∧c=48
instance (k:Int) (c:UInt8):Decidable (lU k c):=by unfold lU;infer_instance
theorem qO {k r b i s d m:Int}{c:UInt8}(hc:c∈ro):dJ (((k,(r,(b,(i,(s,(d,(m,()))))))),([c],())),())=some (decide (lU k c),()):=by
 unfold dJ
 dsimp only
 have h1:=lc c hc 114 (by decide)
 have h2:=lc c hc 109 (by decide)
 have h3:=lc c hc 105 (by decide)
 have h4:=lc c hc 48 (by decide)
 simp only[show((114:UInt8).toNat:Int)=114 from rfl,show((109:UInt8).toNat:Int)=109 from rfl,show((105:UInt8).toNat:Int)=105 from rfl,show((48:UInt8).toNat:Int)=48 from rfl]at h1 h2 h3 h4
 simp only[h1,h2,h3,h4,aa,gH,iu]
 congr 2
 rw[Bool.eq_iff_iff,decide_eq_true_eq]
 simp only[Bool.or_eq_true,Bool.and_eq_true,dj,decide_eq_true_eq]
 unfold lU
 simp only[or_assoc]
def jd (kd ks:Int)(q:List UInt8):Bool:=match q with
 |[a,b]=>decide (lU kd a)&&decide (lU ks b)
 |_=>false
def zZ (ps:List (List UInt8)):Prop:=∀q∈ps,∃a∈ro,∃b∈ro,q=[a,b]
theorem zv (x:Ins)(ps:List (List UInt8))(hp:zZ ps)(hl:ps.length≤100):aV ((x,(ps,())),())=some (ps.any (jd x.dst.kind x.src.kind),()):=by
 unfold aV
 dsimp only[cz,cB]
 refine(Ret.iter (fun y=>∃i:Nat,i≤ps.length∧(ps.drop i).any (jd x.dst.kind x.src.kind)=ps.any (jd x.dst.kind x.src.kind)∧y=((ps,((i:Int),())),((cz x ()),()))) (fun y=>ps.length-y.1.2.1.toNat) ?_ F _ ⟨0,by omega,rfl,rfl⟩ (by unfold F;simp;omega)).eq
 rintro _ rec ⟨i,hi,ha,rfl⟩ hrec
 dsimp only[cz,cB,cp7,d11]
 by_cases h:i<ps.length
 ·obtain⟨a,hca,b,hcb,e⟩:=hp ps[i] (List.getElem_mem h)
  have hg:aj ps (i:Int) (ag .s)=[a,b]:=by rw[gK h,e]
  rw[ah (gY (by unfold bw;omega)),ah (by simp[inR,bw];omega),hg,ah (show inC 1 (bw [a,b])=true from rfl)]
  rw[show gj [a,b] 1=[a]from rfl,qO hca,aa]
  dsimp only
  rw[List.drop_eq_getElem_cons h,e,List.any_cons]at ha
  have next:(ps.drop (i+1)).any (jd x.dst.kind x.src.kind)=ps.any (jd x.dst.kind x.src.kind)→Ret (rec ((ps,(ax .i64 (i:Int) 1,())),((cz x ()),()))) (fun z=>z=(ps.any (jd x.dst.kind x.src.kind),())):=fun h2=>by
   rw[bS (by omega) (by omega)]
   exact hrec _ ⟨i+1,by omega,h2,rfl⟩ (by simp;omega)
  by_cases h1:lU x.dst.kind a
  ·rw[decide_eq_true h1,ah rfl,ah (by simp[inR,bw];omega),ah (show inC 1 (bw [a,b])=true from rfl)]
   rw[show jH [a,b] 1=[b]from rfl,qO hcb,aa]
   dsimp only
   by_cases h2:lU x.src.kind b
   ·rw[decide_eq_true h2,ah rfl]
    refine Ret.some ?_
    rw[←ha]
    simp[jd,h1,h2]
   ·rw[decide_eq_false h2,aw rfl]
    refine next ?_
    rw[←ha]
    simp[jd,h2]
  ·rw[decide_eq_false h1,aw rfl]
   refine next ?_
   rw[←ha]
   simp[jd,h1]
 ·rw[aw (gA (by unfold bw;omega))]
  refine Ret.some ?_
  rw[←ha,List.drop_of_length_le (by omega)]
  rfl
end Go.Den.G
namespace Go.Den.G
open Go.Den
set_option maxRecDepth 100000
def fz (n:Nat):List Int×List UInt8:=match c8 (((n:Int),()),())with
 |some x=>(x.1.1,x.1.2.1)
 |none=>([],[])
theorem tc:∀n:Nat,n<45→(c8 (((n:Int),()),())).isSome=true:=by decide +kernel
theorem xx {n:Nat}(h:n<45):c8 (((n:Int),()),())=some (((fz n).1,((fz n).2,())),()):=by
 have:=tc n h
 unfold fz
 cases hx:c8 (((n:Int),()),())with
 |none=>rw[hx]at this;cases this
 |some x=>obtain⟨⟨a,b,_⟩,_⟩:=x;rfl
def szK (n:Nat):Nat:=if n≤16∨n=18∨n=19∨(20≤n∧n≤24)∨n=28 then 0 else if n=17∨n=25∨n=26∨n=27∨n=36∨n=39∨n=40 then 1 else if 29≤n∧n≤32 then 2 else if n=35∨n=41∨n=42 then 3 else 4
def szL (k:Nat):List Int:=if k=0 then [1,2,4,8]else if k=1 then [2,4,8]else if k=2 then [8]else if k=3 then [1]else [0]
def prK (n:Nat):List (List UInt8):=
 if n≤9 then [[114,114],[109,114],[114,109],[114,105],[109,105]]
 else if n=10∨(20≤n∧n≤24)then [[114,114],[109,114],[114,105],[109,105]]
 else if n=28 then [[114,114],[109,114]]
 else if n=11∨n=12∨n=18∨n=19∨n=30∨n=35 then [[114,48],[109,48]]
 else if 13≤n∧n≤16 then [[48,114],[48,109]]
 else if n=17∨n=36∨n=26∨n=27 then [[114,114],[114,109]]
 else if n=25 then [[114,109]]
 else if n=29∨n=31∨n=32 then [[48,114],[48,109],[48,105]]
 else if n=33∨n=44 then [[48,105]]
 else [[48,48]]
theorem BA:∀n,n<45→1≤n→(fz n).1=szL (szK n):=by decide +kernel
def zB (k:Nat):UInt8:=if k=1 then 114 else if k=2 then 109 else if k=3 then 105 else 45
theorem Bz:∀n,n<45→1≤n→(fz n).2.length≤20∧∀a,a<4→∀b,b<4→hasS ([32]++(fz n).2++[32]) ([32]++[zB a,zB b]++[32])=(prK n).any (jd (a:Int) (b:Int)):=by decide +kernel
theorem DH:∀n,n<45→zZ (prK n):=by
 intro n _
 unfold prK
 repeat' split
 all_goals
  intro q hq
  simp only[List.mem_cons,List.not_mem_nil,or_false]at hq
  rcases hq with rfl|rfl|rfl|rfl|rfl<;>exact⟨_,by decide,_,by decide,rfl⟩
end Go.Den.G
namespace Go.Den.G
open Go.Den
set_option maxRecDepth 100000
def qc (r z:Int):Prop:=0≤r∧r≤15∨z=1∧16≤r∧r≤19
def opB (k r b i s d m z:Int):Prop:=
 k=1∧b=0∧i=0∧s=0∧d=0∧m=0∧qc r z∨qQ k r b i s d m∨k=3∧r=0∧b=0∧i=0∧s=0∧d=0∨k=0∧r=0∧b=0∧i=0∧s=0∧d=0∧m=0
instance (r z:Int):Decidable (qc r z):=by unfold qc;infer_instance
instance (k r b i s d m z:Int):Decidable (opB k r b i s d m z):=by unfold opB;infer_instance
theorem Cz {k r b i s d m z:Int}:AU k r b i s d m z↔kM z∧opB k r b i s d m z:=by
 unfold AU opB
 constructor
 ·rintro⟨h,g⟩
  exact⟨h,g.imp (fun⟨a1,a2,a3,a4,a5,a6,a7⟩=>⟨a1,a2,a3,a4,a5,a6,(sc h).2 a7⟩) id⟩
 ·rintro⟨h,g⟩
  exact⟨h,g.imp (fun⟨a1,a2,a3,a4,a5,a6,a7⟩=>⟨a1,a2,a3,a4,a5,a6,(sc h).1 a7⟩) id⟩
theorem rP {k r b i s d m z:Int}:cF (((k,(r,(b,(i,(s,(d,(m,()))))))),(z,())),())=some (decide (opB k r b i s d m z),()):=by
 unfold cF
 dsimp only[p5,p6]
 rw[bG,lF]
 by_cases h1:k=1
 ·subst h1
  rw[ah (bn rfl)]
  have hx:(br (eqI z 1) (some (Sum.inl ((19,()),((1,(r,(b,(i,(s,(d,(m,()))))))),())):Sum ((Int×Unit)×((Int×(Int×(Int×(Int×(Int×(Int×(Int×Unit)))))))×Unit)) (Bool×Unit))) (some (Sum.inl ((15,()),((1,(r,(b,(i,(s,(d,(m,()))))))),())))))
    =some (Sum.inl ((if z=1 then 19 else 15,()),((1,(r,(b,(i,(s,(d,(m,()))))))),()))):=by
   by_cases h:z=1
   ·rw[ah (bn h),if_pos h]
   ·rw[aw (aG h),if_neg h]
  rw[hx]
  simp only[aa,ar,aW,gH]
  congr 2
  rw[Bool.eq_iff_iff,decide_eq_true_eq]
  simp only[Bool.and_eq_true,jV,dj,decide_eq_true_eq]
  unfold opB qc qQ
  by_cases h:z=1
  ·rw[if_pos h];simp only[true_and];omega
  ·rw[if_neg h];simp only[true_and];omega
 ·rw[aw (aG h1)]
  by_cases h2:k=2
  ·subst h2
   rw[ah (bn rfl)]
   simp only[aW,lg,iu,gH,aa,eqI,ltI,leI]
   rw[brF]
   congr 2
   have e:opB 2 r b i s d m z↔qQ 2 r b i s d m:=by unfold opB;simp
   rw[Bool.eq_iff_iff,decide_eq_true_eq,e]
   unfold qQ
   simp only[Bool.and_eq_true,Bool.or_eq_true,Bool.not_eq_true',Bool.or_eq_false_iff,decide_eq_true_eq,eJ,kI,decide_eq_false_iff_not]
   clear h1 e
   constructor
   ·rintro⟨⟨⟨⟨⟨⟨⟨g1,g2⟩,g3⟩,g4⟩,g5⟩,g6⟩,g7⟩,g8,g9⟩
    refine⟨trivial,g1,g2,g3.1,g3.2,g4.1,g4.2,g5,?_,?_,g7.1,g7.2⟩
    ·omega
    ·omega
   ·rintro⟨_,g1,g2,g3,g4,g5,g6,g7,g8,g9,g10,g11⟩
    refine⟨⟨⟨⟨⟨⟨⟨g1,g2⟩,⟨g3,g4⟩⟩,⟨g5,g6⟩⟩,g7⟩,?_⟩,⟨g10,g11⟩⟩,?_,?_⟩
    ·omega
    ·omega
    ·omega
  ·rw[aw (aG h2)]
   by_cases h3:k=3
   ·subst h3
    rw[ah (bn rfl)]
    congr 2
    rw[Bool.eq_iff_iff,decide_eq_true_eq]
    simp only[jV,dj]
    unfold opB qQ
    simp
   ·rw[aw (aG h3)]
    congr 2
    rw[Bool.eq_iff_iff,decide_eq_true_eq]
    simp only[jV,dj]
    unfold opB qQ
    simp[h1,h2,h3]
end Go.Den.G
namespace Go.Den.G
open Go.Den
set_option maxRecDepth 100000
set_option maxHeartbeats 4000000
set_option linter.unusedSimpArgs false
theorem aR {α:Type}{x y:α}:br true x y=x:=rfl
def uE (v z:Int):Bool:=fitsB v (iV z 4)
theorem pc {v z:Int}(h:1≤z):bu ((v,(z,())),())=some (uE v z,()):=by
 unfold uE
 by_cases h4:z≤4
 ·rw[imin_l h4];exact nf v z h h4
 ·rw[wn (by omega),←nf v 4 (by decide) (by decide)]
  unfold bu
  dsimp only
  rw[wn (by omega),wn (by decide)]
section
variable (x:Ins)
theorem oQ:mS (cz x ())=x:=rfl
theorem tI1:(cz x ()).1=x.op:=rfl
theorem tI2:(cz x ()).2.1=x.size:=rfl
theorem tI4:(cz x ()).2.2.2.1=x.frm:=rfl
theorem tI11:p11 (cz x ())=x.src.kind:=rfl
theorem tI12:p12 (cz x ())=x.src.reg:=rfl
theorem Bl (a b:Int):eqI a b=decide (a=b):=rfl
theorem BY (a b:Int):leI a b=decide (a≤b):=rfl
theorem Cg (a b:Int):ltI a b=decide (a<b):=rfl
end
def numB (x:Ins)(n:Nat):Bool:=
 if n≤8∨n=10 then uE x.src.imm x.size
 else if n=9 then decide (x.size=8∧x.dst.kind=1)||uE x.src.imm x.size
 else if 20≤n∧n≤24 then decide (¬(x.src.kind=1∧x.src.reg≠1)∧0≤x.src.imm∧x.src.imm≤255)
 else if n=26 then decide (x.frm=1∨x.frm=2∧2<x.size)
 else if n=27 then decide (x.frm=1∨x.frm=2∧2<x.size∨x.frm=4∧x.size=8)
 else if n=29∨n=31∨n=32∨n=33 then uE x.src.imm 4
 else if n=44 then decide (0≤x.src.imm∧x.src.imm≤255)
 else true
def shB (x:Ins)(n:Nat):Bool:=decide (x.size∈szL (szK n))&&((prK n).any (jd x.dst.kind x.src.kind)&&numB x n)
theorem two_eq (x:Ins)(ps:List (List UInt8))(n:Nat)(hn:n<45)(h:prK n=ps)(hl:ps.length≤100):aV ((x,(ps,())),())=some ((prK n).any (jd x.dst.kind x.src.kind),()):=by
 subst h;exact zv x _ (DH n hn) hl
set_option synthInstance.maxSize 40000
set_option synthInstance.maxHeartbeats 4000000
theorem sh_all:∀n:Nat,n<45→1≤n→(n=1∧(n:Int)=1∧szK n=0∧prK n=[[114,114],[109,114],[114,109],[114,105],[109,105]]∨
  n=2∧(n:Int)=2∧szK n=0∧prK n=[[114,114],[109,114],[114,109],[114,105],[109,105]]∨
  n=3∧(n:Int)=3∧szK n=0∧prK n=[[114,114],[109,114],[114,109],[114,105],[109,105]]∨
  n=4∧(n:Int)=4∧szK n=0∧prK n=[[114,114],[109,114],[114,109],[114,105],[109,105]]∨
  n=5∧(n:Int)=5∧szK n=0∧prK n=[[114,114],[109,114],[114,109],[114,105],[109,105]]∨
  n=6∧(n:Int)=6∧szK n=0∧prK n=[[114,114],[109,114],[114,109],[114,105],[109,105]]∨
  n=7∧(n:Int)=7∧szK n=0∧prK n=[[114,114],[109,114],[114,109],[114,105],[109,105]]∨
  n=8∧(n:Int)=8∧szK n=0∧prK n=[[114,114],[109,114],[114,109],[114,105],[109,105]]∨
  n=9∧(n:Int)=9∧szK n=0∧prK n=[[114,114],[109,114],[114,109],[114,105],[109,105]]∨
  n=10∧(n:Int)=10∧szK n=0∧prK n=[[114,114],[109,114],[114,105],[109,105]]∨
  n=11∧(n:Int)=11∧szK n=0∧prK n=[[114,48],[109,48]]∨
  n=12∧(n:Int)=12∧szK n=0∧prK n=[[114,48],[109,48]]∨
  n=13∧(n:Int)=13∧szK n=0∧prK n=[[48,114],[48,109]]∨
  n=14∧(n:Int)=14∧szK n=0∧prK n=[[48,114],[48,109]]∨
  n=15∧(n:Int)=15∧szK n=0∧prK n=[[48,114],[48,109]]∨
  n=16∧(n:Int)=16∧szK n=0∧prK n=[[48,114],[48,109]]∨
  n=17∧(n:Int)=17∧szK n=1∧prK n=[[114,114],[114,109]]∨
  n=18∧(n:Int)=18∧szK n=0∧prK n=[[114,48],[109,48]]∨
  n=19∧(n:Int)=19∧szK n=0∧prK n=[[114,48],[109,48]]∨
  n=20∧(n:Int)=20∧szK n=0∧prK n=[[114,114],[109,114],[114,105],[109,105]]∨
  n=21∧(n:Int)=21∧szK n=0∧prK n=[[114,114],[109,114],[114,105],[109,105]]∨
  n=22∧(n:Int)=22∧szK n=0∧prK n=[[114,114],[109,114],[114,105],[109,105]]∨
  n=23∧(n:Int)=23∧szK n=0∧prK n=[[114,114],[109,114],[114,105],[109,105]]∨
  n=24∧(n:Int)=24∧szK n=0∧prK n=[[114,114],[109,114],[114,105],[109,105]]∨
  n=25∧(n:Int)=25∧szK n=1∧prK n=[[114,109]]∨
  n=26∧(n:Int)=26∧szK n=1∧prK n=[[114,114],[114,109]]∨
  n=27∧(n:Int)=27∧szK n=1∧prK n=[[114,114],[114,109]]∨
  n=28∧(n:Int)=28∧szK n=0∧prK n=[[114,114],[109,114]]∨
  n=29∧(n:Int)=29∧szK n=2∧prK n=[[48,114],[48,109],[48,105]]∨
  n=30∧(n:Int)=30∧szK n=2∧prK n=[[114,48],[109,48]]∨
  n=31∧(n:Int)=31∧szK n=2∧prK n=[[48,114],[48,109],[48,105]]∨
  n=32∧(n:Int)=32∧szK n=2∧prK n=[[48,114],[48,109],[48,105]]∨
  n=33∧(n:Int)=33∧szK n=4∧prK n=[[48,105]]∨
  n=34∧(n:Int)=34∧szK n=4∧prK n=[[48,48]]∨
  n=35∧(n:Int)=35∧szK n=3∧prK n=[[114,48],[109,48]]∨
  n=36∧(n:Int)=36∧szK n=1∧prK n=[[114,114],[114,109]]∨
  n=37∧(n:Int)=37∧szK n=4∧prK n=[[48,48]]∨
  n=38∧(n:Int)=38∧szK n=4∧prK n=[[48,48]]∨
  n=39∧(n:Int)=39∧szK n=1∧prK n=[[48,48]]∨
  n=40∧(n:Int)=40∧szK n=1∧prK n=[[48,48]]∨
  n=41∧(n:Int)=41∧szK n=3∧prK n=[[48,48]]∨
  n=42∧(n:Int)=42∧szK n=3∧prK n=[[48,48]]∨
  n=43∧(n:Int)=43∧szK n=4∧prK n=[[48,48]]∨
  n=44∧(n:Int)=44∧szK n=4∧prK n=[[48,105]]):=by decide +kernel
theorem C4 (x:Ins){n:Nat}(h1:1≤n)(hn:n<45)(h:x.op=n):ec ((x,()),())=some (shB x n,()):=by
 obtain⟨A,hA⟩:∃A,A=(prK n).any (jd x.dst.kind x.src.kind):=⟨_,rfl⟩
 rcases sh_all n hn h1 with ⟨rfl,hc,hk,hp⟩|⟨rfl,hc,hk,hp⟩|⟨rfl,hc,hk,hp⟩|⟨rfl,hc,hk,hp⟩|⟨rfl,hc,hk,hp⟩|⟨rfl,hc,hk,hp⟩|⟨rfl,hc,hk,hp⟩|⟨rfl,hc,hk,hp⟩|⟨rfl,hc,hk,hp⟩|⟨rfl,hc,hk,hp⟩|⟨rfl,hc,hk,hp⟩|⟨rfl,hc,hk,hp⟩|⟨rfl,hc,hk,hp⟩|⟨rfl,hc,hk,hp⟩|⟨rfl,hc,hk,hp⟩|⟨rfl,hc,hk,hp⟩|⟨rfl,hc,hk,hp⟩|⟨rfl,hc,hk,hp⟩|⟨rfl,hc,hk,hp⟩|⟨rfl,hc,hk,hp⟩|⟨rfl,hc,hk,hp⟩|⟨rfl,hc,hk,hp⟩|⟨rfl,hc,hk,hp⟩|⟨rfl,hc,hk,hp⟩|⟨rfl,hc,hk,hp⟩|⟨rfl,hc,hk,hp⟩|⟨rfl,hc,hk,hp⟩|⟨rfl,hc,hk,hp⟩|⟨rfl,hc,hk,hp⟩|⟨rfl,hc,hk,hp⟩|⟨rfl,hc,hk,hp⟩|⟨rfl,hc,hk,hp⟩|⟨rfl,hc,hk,hp⟩|⟨rfl,hc,hk,hp⟩|⟨rfl,hc,hk,hp⟩|⟨rfl,hc,hk,hp⟩|⟨rfl,hc,hk,hp⟩|⟨rfl,hc,hk,hp⟩|⟨rfl,hc,hk,hp⟩|⟨rfl,hc,hk,hp⟩|⟨rfl,hc,hk,hp⟩|⟨rfl,hc,hk,hp⟩|⟨rfl,hc,hk,hp⟩|⟨rfl,hc,hk,hp⟩
 all_goals
  rw[hc]at h
  clear hc h1
  have h2:=two_eq x _ _ hn hp (by decide)
  unfold shB
  rw[hk]
  rw[←hA]at h2⊢
  clear hA hp hk
  unfold ec
  dsimp only
  rw[lF,lg,aa]
  dsimp only
  by_cases hs:x.size=1∨x.size=2∨x.size=4∨x.size=8
  ·have h3:=pc (v:=x.src.imm) (z:=x.size) (by omega)
   have h4:=pc (v:=x.src.imm) (z:=4) (by decide)
   simp only[h,h2,h3,h4,decide_eq_true hs,gH,iu,aa,ap,aR,ar,ra,tI1,tI2,tI4,tI11,tI12,oQ,Int.reduceEq,Int.reduceLE,Int.reduceLT,decide_true,decide_false,and_false,and_true,true_and,false_and,bG,aW,Bl,BY,Cg]
   rcases hs with hs|hs|hs|hs<;>(simp[brF,szL,numB,aX,Bl,BY,Cg,hs,Bool.and_comm,Bool.and_left_comm,Bool.and_assoc,Bool.or_assoc];try rfl)
  ·have h4:=pc (v:=x.src.imm) (z:=4) (by decide)
   simp only[h,h2,h4,decide_eq_false hs,gH,iu,aa,ap,aR,ar,ra,tI1,tI2,tI4,tI11,tI12,oQ,Int.reduceEq,Int.reduceLE,Int.reduceLT,decide_true,decide_false,and_false,and_true,true_and,false_and,bG,aW,Bl,BY,Cg]
   have hz:x.size≠1∧x.size≠2∧x.size≠4∧x.size≠8:=by omega
   (simp[brF,szL,numB,aX,Bl,BY,Cg,hz,Bool.and_comm,Bool.and_left_comm,Bool.and_assoc,Bool.or_assoc];try rfl)
end Go.Den.G
namespace Go.Den.G
open Go.Den
set_option maxRecDepth 100000
def vG (k r b i z:Int):Prop:=k=1∧(8≤r∧r≤15∨z=1∧4≤r∧r≤7)∨k=2∧(8≤b∧b≤15∨8≤i)
instance (k r b i z:Int):Decidable (vG k r b i z):=by unfold vG;infer_instance
def noP (k r:Int):Prop:=k=1∧16≤r
instance (k r:Int):Decidable (noP k r):=by unfold noP;infer_instance
theorem zu {k r b i s d m z:Int}:eF (((k,(r,(b,(i,(s,(d,(m,()))))))),(z,())),())=some ((decide (vG k r b i z),(decide (noP k r),())),()):=by
 unfold eF
 dsimp only
 rw[bG]
 by_cases h1:k=1
 ·subst h1
  have e2:leI 16 r=decide (noP 1 r):=by rw[Bool.eq_iff_iff,decide_eq_true_eq,Dy];unfold noP;omega
  rw[ah (bn rfl),aW,aa,e2]
  dsimp only
  by_cases h:8≤r∧r≤15
  ·rw[decide_eq_true h,ah rfl]
   have:decide (vG 1 r b i z)=true:=decide_eq_true (by unfold vG;omega)
   rw[this]
  ·rw[decide_eq_false h,aw rfl]
   by_cases hz:z=1
   ·rw[ah (bn hz),aW,aa]
    have:decide (4≤r∧r≤7)=decide (vG 1 r b i z):=by rw[Bool.eq_iff_iff,decide_eq_true_eq,decide_eq_true_eq];unfold vG;omega
    rw[this]
   ·rw[aw (aG hz)]
    have:decide (vG 1 r b i z)=false:=decide_eq_false (by unfold vG;omega)
    rw[this]
 ·rw[aw (aG h1)]
  have e2:decide (noP k r)=false:=decide_eq_false (by unfold noP;omega)
  rw[e2]
  by_cases h2:k=2
  ·subst h2
   rw[ah (bn rfl),aW,aa]
   dsimp only
   rw[iu,aa]
   have:(decide (8≤b∧b≤15)||leI 8 i)=decide (vG 2 r b i z):=by
    rw[Bool.eq_iff_iff,decide_eq_true_eq]
    simp only[Bool.or_eq_true,decide_eq_true_eq,Dy]
    unfold vG;omega
   rw[this]
  ·rw[aw (aG h2)]
   have:decide (vG k r b i z)=false:=decide_eq_false (by unfold vG;omega)
   rw[this]
def sSz (x:Ins)(n:Nat):Int:=if 20≤n∧n≤24 then 8 else if 0<x.frm then x.frm else x.size
def nQ (o:Opd)(z:Int):Prop:=opB o.kind o.reg o.base o.index o.scale o.disp o.imm z
def ue (o:Opd)(z:Int):Prop:=vG o.kind o.reg o.base o.index z
def DB (o:Opd):Prop:=noP o.kind o.reg
instance (o:Opd) (z:Int):Decidable (nQ o z):=by unfold nQ;infer_instance
instance (o:Opd) (z:Int):Decidable (ue o z):=by unfold ue;infer_instance
instance (o:Opd):Decidable (DB o):=by unfold DB;infer_instance
def xC (x:Ins)(n:Nat):Prop:=
 0≤x.len∧x.len≤15∧shB x n=true∧((n=26∨n=27)∨x.frm=0)∧((n=33∨n=35∨n=36)∨x.cond=0)∧0≤x.cond∧x.cond≤15∧nQ x.dst x.size∧nQ x.src (sSz x n)∧
 (¬(DB x.dst∨DB x.src)∨¬ue x.dst x.size∧¬ue x.src (sSz x n)∧(x.size≠8∨29≤n∧n≤32))
instance (x:Ins) (n:Nat):Decidable (xC x n):=by unfold xC;infer_instance
theorem vh (x:Ins){n:Nat}(h:x.op=n):ed ((x,()),())=some ((x.size,(sSz x n,())),()):=by
 unfold ed fU sSz
 dsimp only
 rw[bG,h]
 by_cases hf:0<x.frm
 ·rw[ah (gY hf),aa,aW,aa,if_pos hf]
  dsimp only
  by_cases hn:20≤n∧n≤24
  ·rw[decide_eq_true (by omega),ah rfl,aa,if_pos hn,ar]
  ·rw[decide_eq_false (by omega),aw rfl,aa,if_neg hn,ar]
 ·rw[aw (gA hf),aa,aW,aa,if_neg hf]
  dsimp only
  by_cases hn:20≤n∧n≤24
  ·rw[decide_eq_true (by omega),ah rfl,aa,if_pos hn,ar]
  ·rw[decide_eq_false (by omega),aw rfl,aa,if_neg hn,ar]
theorem BW (x:Ins){n:Nat}(h1:1≤n)(h2:n<45)(h:x.op=n):eD ((x,()),())=some (decide (xC x n),()):=by
 unfold eD gx fV
 dsimp only[cB]
 rw[bG,h,aW,aa,aa]
 dsimp only
 rw[decide_eq_true (by omega),cc,aW,C4 x h1 h2 h,vh x h]
 simp only[ap,aa,aW,rP,zu,iu,gH]
 have go:∀ {q:Prop} [Decidable q] {c:Bool} {rest:Option (Bool×Unit)},(c=true→¬q)→(c=false→rest=some (decide q,()))→br c (some (false,())) rest=some (decide q,()):=by
  intro q _ c rest h1 h2
  cases c
  ·exact h2 rfl
  ·rw[decide_eq_false (h1 rfl)];rfl
 refine go (fun hc hq=>?_) fun hc=>?_
 ·unfold xC at hq
  simp only[Bool.or_eq_true,eJ,decide_eq_false_iff_not]at hc
  rcases hc with hc|hc
  ·exact hc ⟨hq.1,hq.2.1⟩
  ·rw[hq.2.2.1]at hc;cases hc
 ·simp only[Bool.or_eq_false_iff,kI,decide_eq_true_eq]at hc
  refine go (fun hd hq=>?_) fun hd=>?_
  ·unfold xC at hq
   simp only[Bool.and_eq_true,eJ,uZ]at hd
   omega
  ·refine go (fun he hq=>?_) fun he=>?_
   ·unfold xC at hq
    simp only[Bool.and_eq_true,Bool.or_eq_true,eJ,uZ,decide_eq_false_iff_not]at he
    omega
   ·refine go (fun hf hq=>?_) fun hf=>?_
    ·unfold xC at hq
     simp only[Bool.or_eq_true,eJ,decide_eq_false_iff_not]at hf
     rcases hf with hf|hf
     ·exact hf hq.2.2.2.2.2.2.2.1
     ·exact hf hq.2.2.2.2.2.2.2.2.1
    ·simp only[Bool.or_eq_false_iff,kI,decide_eq_true_eq]at hf
     congr 2
     rw[Bool.eq_iff_iff,decide_eq_true_eq]
     simp only[Bool.and_eq_false_iff,Bool.or_eq_false_iff,kI,dj,decide_eq_true_eq]at hd he
     unfold xC
     simp only[Bool.and_eq_true,Bool.or_eq_true,eJ,Bool.or_eq_false_iff,decide_eq_false_iff_not,dj,uZ]
     have w:(x.size≠8∨(((n:Int)=29∨(n:Int)=30)∨(n:Int)=31)∨(n:Int)=32)↔(x.size≠8∨29≤n∧n≤32):=by omega
     rw[w]
     constructor
     ·intro g
      exact⟨hc.1.1,hc.1.2,hc.2,by omega,by omega,he.2.1,he.2.2,hf.1,hf.2,g.imp (fun g a=>a.elim g.1 g.2) fun g=>⟨g.1.1,g.1.2,g.2⟩⟩
     ·rintro⟨_,_,_,_,_,_,_,_,_,g⟩
      exact g.imp (fun g=>⟨fun a=>g (.inl a),fun a=>g (.inr a)⟩) fun g=>⟨⟨g.1,g.2.1⟩,g.2.2⟩
end Go.Den.G
namespace Go.Den.G
open Go.Den
set_option maxRecDepth 100000
def kc (k:Int):Nat:=if k=1 then 1 else if k=2 then 2 else if k=3 then 3 else 0
theorem tJ (o:Opd):bP ((cB o (),()),())=some ([zB (kc o.kind)],()):=by
 unfold bP kc
 dsimp only[cB]
 by_cases h1:o.kind=1
 ·rw[ah (bn h1),if_pos h1];rfl
 ·rw[aw (aG h1),if_neg h1]
  by_cases h2:o.kind=2
  ·rw[ah (bn h2),if_pos h2];rfl
  ·rw[aw (aG h2),if_neg h2]
   by_cases h3:o.kind=3
   ·rw[ah (bn h3),if_pos h3];rfl
   ·rw[aw (aG h3),if_neg h3];rfl
theorem kc_lt (k:Int):kc k<4:=by unfold kc;(repeat' split)<;>omega
theorem kc_eq {k:Int}(h:0≤k∧k≤3):(kc k:Int)=k:=by unfold kc;(repeat' split)<;>omega
def m7 (x:Ins)(n:Nat):Prop:=if n=26 then x.frm=1∨x.frm=2∧2<x.size else if n=27 then x.frm=1∨x.frm=2∧2<x.size∨x.frm=4∧x.size=8 else x.frm=0
instance (x:Ins) (n:Nat):Decidable (m7 x n):=by unfold m7;infer_instance
theorem zj (x:Ins){n:Nat}(h:x.op=n):fy ((x,()),())=some (decide (m7 x n),()):=by
 unfold fy
 dsimp only
 rw[h]
 by_cases h1:n=26
 ·rw[ah (bn (by omega))]
  simp only[gH,iu,aa]
  congr 2
  rw[Bool.eq_iff_iff,decide_eq_true_eq]
  simp only[Bool.or_eq_true,Bool.and_eq_true,dj,ww]
  unfold m7
  rw[if_pos h1]
 ·rw[aw (aG (by omega))]
  by_cases h2:n=27
  ·rw[ah (bn (by omega))]
   simp only[gH,iu,aa]
   congr 2
   rw[Bool.eq_iff_iff,decide_eq_true_eq]
   simp only[Bool.or_eq_true,Bool.and_eq_true,dj,ww]
   unfold m7
   rw[if_neg h1,if_pos h2,or_assoc]
  ·rw[aw (aG (by omega))]
   congr 2
   rw[Bool.eq_iff_iff,decide_eq_true_eq,dj]
   unfold m7
   rw[if_neg h1,if_neg h2]
theorem ne (n:Int):be ((n,()),())=some (decide (20≤n∧n≤24),()):=by
 unfold be
 dsimp only
 rw[aW,aa]
def iSz (x:Ins)(n:Nat):Int:=if x.frm≠0 then x.frm else if(20≤n∧n≤24)∨x.size=0 then 8 else x.size
theorem q7 (x:Ins){n:Nat}(h:x.op=n):bU ((x,()),())=some (iSz x n,()):=by
 unfold bU iSz
 dsimp only
 rw[h,ne]
 by_cases hf:x.frm=0
 ·rw[bn hf,cc,aw rfl,aa,if_neg (by simp[hf])]
  dsimp only
  rw[iu,aa]
  by_cases hc:(20≤n∧n≤24)∨x.size=0
  ·rw[if_pos hc,ah (by simp only[Bool.or_eq_true,decide_eq_true_eq,dj];omega)]
  ·rw[if_neg hc,aw (by simp only[Bool.or_eq_false_iff,decide_eq_false_iff_not,uZ];omega)]
 ·rw[aG hf,dp,ah rfl,if_pos hf]
def hiP (o:Opd):Prop:=o.kind=1∧16≤o.reg∧o.reg≤19
instance (o:Opd):Decidable (hiP o):=by unfold hiP;infer_instance
theorem qH (o:Opd):dG ((cB o (),()),())=some (decide (hiP o),()):=by
 unfold dG aB
 dsimp only[cB]
 simp only[aW,aa,gH]
 congr 2
 rw[Bool.eq_iff_iff,decide_eq_true_eq]
 simp only[Bool.and_eq_true,dj,decide_eq_true_eq]
 unfold hiP
 omega
def uL (o:Opd)(z:Int):Prop:=o.kind=1∧(8≤o.reg∧o.reg≤15∨z=1∧4≤o.reg∧o.reg≤7)∨o.kind=2∧(8≤o.base∧o.base≤15∨8≤o.index∧o.index≤15)
instance (o:Opd) (z:Int):Decidable (uL o z):=by unfold uL;infer_instance
theorem qu (o:Opd)(z:Int):dF ((cB o (),(z,())),())=some (decide (uL o z),()):=by
 unfold dF cT eL
 dsimp only[cB]
 by_cases h1:o.kind=1
 ·rw[ah (bn h1)]
  simp only[aW,aa,gH,iu]
  congr 2
  rw[Bool.eq_iff_iff,decide_eq_true_eq]
  simp only[Bool.or_eq_true,Bool.and_eq_true,dj,decide_eq_true_eq]
  unfold uL
  omega
 ·rw[aw (aG h1)]
  by_cases h2:o.kind=2
  ·rw[ah (bn h2)]
   simp only[aW,aa,iu]
   congr 2
   rw[Bool.eq_iff_iff,decide_eq_true_eq]
   simp only[Bool.or_eq_true,decide_eq_true_eq]
   unfold uL
   omega
  ·rw[aw (aG h2)]
   congr 2
   symm
   exact decide_eq_false (by unfold uL;omega)
theorem tb:∀n:Nat,n<45→(dq (((n:Int),()),())).map (fun y=>y.1.2.1)=some (decide ((29≤n∧n≤34)∨n=37∨n=38∨n=43∨n=44)):=by decide +kernel
def By (n:Nat):Prop:=(29≤n∧n≤34)∨n=37∨n=38∨n=43∨n=44
instance (n:Nat):Decidable (By n):=by unfold By;infer_instance
theorem zn (x:Ins){n:Nat}(h2:n<45)(h:x.op=n):fA ((x,()),())=some (decide (x.size=8∧¬By n),()):=by
 unfold fA
 dsimp only
 rw[h]
 have:=tb n h2
 cases hx:dq (((n:Int),()),())with
 |none=>rw[hx]at this;cases this
 |some y=>
  rw[hx]at this
  simp only[Option.map_some,Option.some.injEq]at this
  rw[aa]
  simp only[this,gH,aa]
  congr 2
  rw[Bool.eq_iff_iff,decide_eq_true_eq]
  simp only[Bool.and_eq_true,dj,eJ,decide_eq_false_iff_not]
  exact Iff.rfl
theorem vq (x:Ins){n:Nat}(h2:n<45)(h:x.op=n):dU ((x,()),())=some (decide ((x.size=8∧¬By n)∨uL x.dst x.size∨uL x.src (iSz x n)),()):=by
 unfold dU
 dsimp only
 rw[zn x h2 h,aa]
 dsimp only
 by_cases h1:x.size=8∧¬By n
 ·rw[decide_eq_true h1,ah rfl,decide_eq_true (.inl h1)]
 ·rw[decide_eq_false h1,aw rfl,qu,aa]
  dsimp only
  by_cases h3:uL x.dst x.size
  ·rw[decide_eq_true h3,ah rfl,decide_eq_true (.inr (.inl h3))]
  ·rw[decide_eq_false h3,aw rfl,q7 x h,aa,qu,aa]
   congr 2
   rw[Bool.eq_iff_iff,decide_eq_true_eq,decide_eq_true_eq]
   simp[h1,h3]
end Go.Den.G
namespace Go.Den.G
open Go.Den
set_option maxRecDepth 100000
def numI (x:Ins)(n:Nat):Bool:=
 if(20≤n∧n≤24)∨n=44 then decide (0≤x.src.imm∧x.src.imm≤255)
 else if n=9∧x.size=8∧x.dst.kind=1 then true
 else if x.size=0 then uE x.src.imm 4 else uE x.src.imm x.size
theorem Ds {v z:Int}(h:1≤z):cU ((v,(iV 4 z,())),())=some (uE v z,()):=by
 have e:iV 4 z=iV z 4:=by unfold iV;split<;>split<;>omega
 have hb:1≤iV z 4∧iV z 4≤4:=by unfold iV;split<;>omega
 rw[e,fits_eq v _ hb.1 hb.2,nf v _ hb.1 hb.2]
 rfl
theorem vd (x:Ins){n:Nat}(h:x.op=n)(hs:0≤x.size):dT ((x,()),())=some (numI x n,()):=by
 unfold dT gC numI
 dsimp only
 rw[h,ne,aa]
 dsimp only
 rw[iu,aa]
 by_cases h1:(20≤n∧n≤24)∨n=44
 ·rw[if_pos h1,ah (by simp only[Bool.or_eq_true,decide_eq_true_eq,dj];omega),aW,aa,aa]
 ·rw[if_neg h1,aw (by simp only[Bool.or_eq_false_iff,decide_eq_false_iff_not,uZ];omega),gH,aa,gH,aa]
  by_cases h2:n=9∧x.size=8∧x.dst.kind=1
  ·rw[if_pos h2,ah (by simp only[Bool.and_eq_true,dj];omega)]
  ·rw[if_neg h2,aw (by rw[←Bool.not_eq_true];simp only[Bool.and_eq_true,dj];omega)]
   by_cases h3:x.size=0
   ·rw[if_pos h3,ah (bn h3)]
    have:=Ds (v:=x.src.imm) (z:=4) (by decide)
    rw[wn (by decide)]at this
    rw[this,aa]
   ·rw[if_neg h3,aw (aG h3),Ds (by omega),aa]
theorem xy (n:Int):eQ ((n,()),())=some (decide (n=33∨n=35∨n=36),()):=by
 unfold eQ
 dsimp only
 simp only[iu,aa]
 congr 2
 rw[Bool.eq_iff_iff,decide_eq_true_eq]
 simp only[Bool.or_eq_true,dj,or_assoc]
theorem cpD (x:Ins):cp7 (cz x ()).2.2.2.2 ()=cB x.dst ():=rfl
theorem cpS (x:Ins):cp7 (d11 (cz x ())) ()=cB x.src ():=rfl
theorem ov (o:Opd)(z:Int)(h:I64 o.disp):cx ((cB o (),(z,())),())=some (decide (kM z∧nQ o z),()):=by
 have:=sH (k:=o.kind) (r:=o.reg) (b:=o.base) (i:=o.index) (s:=o.scale) (d:=o.disp) (m:=o.imm) (z:=z) h
 refine this.trans ?_
 congr 2
 rw[Bool.eq_iff_iff,decide_eq_true_eq,decide_eq_true_eq]
 exact Cz
def zf (x:Ins)(n:Nat):Prop:=
 (0≤x.len∧x.len≤15)∧(0≤x.cond∧x.cond≤15)∧(x.cond=0∨n=33∨n=35∨n=36)∧x.size∈szL (szK n)∧m7 x n∧(prK n).any (jd (kc x.dst.kind) (kc x.src.kind))=true∧
 (kM (xz 1 x.size)∧nQ x.dst (xz 1 x.size))∧(kM (iSz x n)∧nQ x.src (iSz x n))∧(x.src.kind=3→numI x n=true)∧(20≤n∧n≤24→x.src.kind=1→x.src.reg=1)∧
 (¬(hiP x.dst∨hiP x.src)∨¬((x.size=8∧¬By n)∨uL x.dst x.size∨uL x.src (iSz x n)))
instance (x:Ins) (n:Nat):Decidable (zf x n):=by unfold zf;infer_instance
theorem guard {q:Prop}[Decidable q]{c:Bool}{rest:Option (Bool×Unit)}(h1:c=true→¬q)(h2:c=false→Ret rest (· =(decide q,()))):Ret (br c (some (false,())) rest) (· =(decide q,())):=by
 cases c
 ·exact h2 rfl
 ·rw[decide_eq_false (h1 rfl)];exact Ret.some rfl
theorem Az {n:Nat}{z:Int}(h:z∈szL (szK n)):z=0∨z=1∨z=2∨z=4∨z=8:=by
 unfold szL at h
 repeat' split at h
 all_goals (simp only[List.mem_cons,List.not_mem_nil,or_false]at h;omega)
theorem yo (x:Ins){n:Nat}(h1:1≤n)(h2:n<45)(h:x.op=n)(hd:I64 x.dst.disp)(hs:I64 x.src.disp):Ret (cJ ((x,()),())) (· =(decide (zf x n),())):=by
 obtain⟨fl,hf⟩:=Bz n h2 h1
 unfold cJ gT
 dsimp only
 rw[h,aW,aa,aa]
 dsimp only
 rw[decide_eq_true (by omega),cc]
 simp only[ap,aW,aa,xy,iu,gH]
 refine guard (fun hc hq=>?_) fun hc=>?_
 ·unfold zf at hq
  simp only[Bool.or_eq_true,Bool.and_eq_true,eJ,decide_eq_false_iff_not,uZ]at hc
  omega
 ·simp only[Bool.or_eq_false_iff,Bool.and_eq_false_iff,kI,decide_eq_true_eq,dj]at hc
  rw[xx h2,aa]
  dsimp only
  rw[BA n h2 h1]
  have hln:(szL (szK n)).length≤4:=by unfold szL;(repeat' split)<;>decide
  refine Ret.iter (fun y=>∃i:Nat,i≤(szL (szK n)).length∧y=(((fz n).2,(decide (x.size∈(szL (szK n)).take i),(szL (szK n),(bw (szL (szK n)),((i:Int),()))))),((cz x ()),()))) (fun y=>(szL (szK n)).length-y.1.2.2.2.2.1.toNat) ?_ F _ ⟨0,by omega,by simp⟩ (by unfold F;simp;omega)
  rintro _ rec ⟨i,hi,rfl⟩ hrec
  dsimp only
  by_cases hlt:i<(szL (szK n)).length
  ·rw[ah (gY (by unfold bw;omega)),ah (by simp[inR,bw];omega),gK hlt,bS (by omega) (by omega)]
   refine hrec _ ⟨i+1,by omega,?_⟩ (by simp;omega)
   have e:(decide (x.size∈(szL (szK n)).take i)||eqI (szL (szK n))[i] (cz x ()).2.1)=decide (x.size∈(szL (szK n)).take (i+1)):=by
    rw[Bool.eq_iff_iff,List.take_succ_eq_append_getElem hlt]
    simp only[Bool.or_eq_true,decide_eq_true_eq,dj,List.mem_append,List.mem_singleton,tI2]
    exact or_congr Iff.rfl eq_comm
   rw[e]
   rfl
  ·have:i=(szL (szK n)).length:=by omega
   subst this
   rw[aw (gA (by unfold bw;omega)),List.take_length]
   rw[cpD,cpS,tJ,tJ,oQ,tI2,tI11,tI12,tI1,h]
   clear hrec rec hi hlt hln
   rw[aa,aa]
   dsimp only
   have hh:hasS (fu (fu [32] (fz n).2) [32]) (fu (fu [32] (fu [zB (kc x.dst.kind)] [zB (kc x.src.kind)])) [32])=(prK n).any (jd (kc x.dst.kind) (kc x.src.kind)):=hf _ (kc_lt _) _ (kc_lt _)
   have f1:eP [zB (kc x.dst.kind)] [zB (kc x.src.kind)]=true:=ut (by simp) (by simp)
   have f2:eP ([32]:List UInt8) (fz n).2=true:=ut (by simp) (by omega)
   have f3:eP (fu [32] (fz n).2) ([32]:List UInt8)=true:=ut (by simp[fu];omega) (by simp)
   have f4:eP ([32]:List UInt8) (fu [zB (kc x.dst.kind)] [zB (kc x.src.kind)])=true:=ut (by simp) (by simp[fu])
   have f5:eP (fu [32] (fu [zB (kc x.dst.kind)] [zB (kc x.src.kind)])) ([32]:List UInt8)=true:=ut (by simp[fu]) (by simp)
   have f6:to (fu (fu [32] (fz n).2) [32])=true:=by unfold to fu;exact decide_eq_true (by simp;omega)
   rw[f1,f2,f3,f4,f5,f6,hh]
   simp only[aR]
   rw[zj x h,aa,iu,aa,iu,aa]
   refine guard (fun hc2 hq=>?_) fun hc2=>?_
   ·unfold zf at hq
    simp only[Bool.or_eq_true,eJ,decide_eq_false_iff_not]at hc2
    rcases hc2 with (g|g)|g
    ·exact g hq.2.2.2.1
    ·exact g hq.2.2.2.2.1
    ·rw[hq.2.2.2.2.2.1]at g;cases g
   ·simp only[Bool.or_eq_false_iff,kI,decide_eq_true_eq]at hc2
    have hsz:=Az hc2.1.1
    rw[ov _ _ hd,aa]
    refine guard (fun g hq=>?_) fun hc3=>?_
    ·unfold zf at hq
     simp only[eJ,decide_eq_false_iff_not]at g
     exact g hq.2.2.2.2.2.2.1
    ·simp only[kI,decide_eq_true_eq]at hc3
     rw[q7 x h,aa,ov _ _ hs,aa]
     refine guard (fun g hq=>?_) fun hc4=>?_
     ·unfold zf at hq
      simp only[eJ,decide_eq_false_iff_not]at g
      exact g hq.2.2.2.2.2.2.2.1
     ·simp only[kI,decide_eq_true_eq]at hc4
      rw[vd x h (by omega),aa,gH,aa]
      refine guard (fun g hq=>?_) fun hc5=>?_
      ·unfold zf at hq
       simp only[Bool.and_eq_true,dj,eJ]at g
       rw[hq.2.2.2.2.2.2.2.2.1 g.1]at g
       cases g.2
      ·have hc5:x.src.kind=3→numI x n=true:=fun hk=>by
        rw[bn hk]at hc5
        cases hv:numI x n with
        |true=>rfl
        |false=>rw[hv]at hc5;cases hc5
       rw[ne,aa]
       refine guard (fun g hq=>?_) fun hc6=>?_
       ·unfold zf at hq
        simp only[Bool.and_eq_true,dj,eJ,decide_eq_true_eq,uZ]at g
        exact g.2 (hq.2.2.2.2.2.2.2.2.2.1 (by omega) g.1.2)
       ·have hc6:20≤n∧n≤24→x.src.kind=1→x.src.reg=1:=fun a b=>by
         apply Classical.byContradiction
         intro hr
         rw[decide_eq_true (by omega),bn b,aG hr]at hc6
         cases hc6
        rw[qH,qH,aa,aa]
        dsimp only
        rw[iu,aa,vq x h2 h,aa,iu,aa]
        refine Ret.some (congrArg (fun b:Bool=>(b,())) ?_)
        rw[Bool.eq_iff_iff,decide_eq_true_eq]
        simp only[Bool.or_eq_true,eJ,Bool.or_eq_false_iff,decide_eq_false_iff_not]
        unfold zf
        constructor
        ·intro g
         exact⟨hc.1.1,hc.1.2,by omega,hc2.1.1,hc2.1.2,hc2.2,hc3,hc4,hc5,hc6,g.imp (fun g a=>a.elim g.1 g.2) id⟩
        ·rintro⟨_,_,_,_,_,_,_,_,_,_,g⟩
         exact g.imp (fun g=>⟨fun a=>g (.inl a),fun a=>g (.inr a)⟩) id
end Go.Den.G
namespace Go.Den.G
open Go.Den
set_option maxRecDepth 100000
theorem opB_z {k r b i s d m z z':Int}(h:k≠1):opB k r b i s d m z↔opB k r b i s d m z':=by
 unfold opB
 constructor<;>(rintro(g|g);exact absurd g.1 h;exact .inr g)
theorem Cv {k r b i s d m z:Int}(h:opB k r b i s d m z):0≤k∧k≤3:=by
 unfold opB qQ at h
 rcases h with h|h|h|h<;>omega
theorem opB_imm {k r b i s d m z:Int}(h:opB k r b i s d m z)(hk:k≠3):m=0:=by
 unfold opB qQ at h
 rcases h with h|h|h|h<;>omega
theorem yY (z:Int):uE 0 z=true:=by unfold uE fitsB sx;simp[eqI]
theorem tS:∀n:Nat,n<45→(!((szL (szK n)).any fun z=>decide (z=0))||decide (n=0)||decide (prK n=[[48,105]])||decide (prK n=[[48,48]]))=true:=by decide +kernel
theorem vv (n:Nat)(h:n<45)(h1:1≤n)(hz:(0:Int)∈szL (szK n)):prK n=[[48,105]]∨prK n=[[48,48]]:=by
 have:=tS n h
 have e:((szL (szK n)).any fun z=>decide (z=0))=true:=List.any_eq_true.2 ⟨0,hz,rfl⟩
 rw[e]at this
 simp only[Bool.not_true,Bool.false_or,Bool.or_eq_true,decide_eq_true_eq]at this
 rcases this with (h|h)|h
 ·omega
 ·exact .inl h
 ·exact .inr h
theorem vf {k:Int}(h:lU k 48):k=0:=by
 unfold lU at h
 rcases h with h|h|h|h
 ·exact absurd h.2 (by decide)
 ·exact absurd h.2 (by decide)
 ·exact absurd h.2 (by decide)
 ·exact h.1
theorem BS {k:Int}(h:lU k 105):k=3:=by
 unfold lU at h
 rcases h with h|h|h|h
 ·exact absurd h.2 (by decide)
 ·exact absurd h.2 (by decide)
 ·exact h.1
 ·exact absurd h.2 (by decide)
theorem re {n:Nat}(h2:n<45)(h1:1≤n){k l:Int}(hs:(0:Int)∈szL (szK n))(ha:(prK n).any (jd k l)=true):k=0∧(l=0∨l=3):=by
 rcases vv n h2 h1 hs with e|e<;>rw[e]at ha<;>simp only[List.any_cons,List.any_nil,Bool.or_false,jd,Bool.and_eq_true,decide_eq_true_eq]at ha
 ·exact⟨vf ha.1,.inr (BS ha.2)⟩
 ·exact⟨vf ha.1,.inl (vf ha.2)⟩
theorem uq:∀n:Nat,n<45→((szL (szK n)).all fun z=>decide (1≤n→(n≤10→z≠0)∧(20≤n∧n≤24→z≠0)∧((n=33∨n=34∨n=37∨n=38∨n=43∨n=44)→z=0)∧(n=26∨n=27→z≠0)∧(29≤n∧n≤32→z=8)))=true:=by decide +kernel
theorem mb (n:Nat)(h:n<45)(h1:1≤n)(z:Int)(hz:z∈szL (szK n)):(n≤10→z≠0)∧(20≤n∧n≤24→z≠0)∧((n=33∨n=34∨n=37∨n=38∨n=43∨n=44)→z=0)∧(n=26∨n=27→z≠0)∧(29≤n∧n≤32→z=8):=
 of_decide_eq_true (List.all_eq_true.1 (uq n h) z hz) h1
theorem no_imm0:∀n:Nat,n<45→(decide (n≤10)||decide (20≤n∧n≤24)||decide (n=29∨n=31∨n=32∨n=33∨n=44)||(prK n).all fun q=> !decide (q.getD 1 0=105))=true:=by decide +kernel
theorem no_imm {n:Nat}(h:n<45)(hn:¬(n≤10∨(20≤n∧n≤24)∨n=29∨n=31∨n=32∨n=33∨n=44)){k l:Int}(ha:(prK n).any (jd k l)=true):l≠3:=by
 have h0:=no_imm0 n h
 simp only[Bool.or_eq_true,decide_eq_true_eq]at h0
 have h1:((prK n).all fun q=> !decide (q.getD 1 0=105))=true:=by
  rcases h0 with ((h|h)|h)|h
  ·exact absurd (.inl h) hn
  ·exact absurd (.inr (.inl h)) hn
  ·exact absurd (.inr (.inr h)) hn
  ·exact h
 obtain⟨q,hq,hp⟩:=List.any_eq_true.1 ha
 have h2:=List.all_eq_true.1 h1 q hq
 obtain⟨a,_,b,_,rfl⟩:=DH n h q hq
 simp only[jd,Bool.and_eq_true,decide_eq_true_eq]at hp
 have hb:b≠105:=by simpa using h2
 have:=hp.2
 unfold lU at this
 rcases this with g|g|g|g
 ·omega
 ·omega
 ·exact absurd g.2 hb
 ·omega
structure Com (x:Ins)(n:Nat):Prop where
 sz:x.size∈szL (szK n)
 any:(prK n).any (jd x.dst.kind x.src.kind)=true
 frm:m7 x n
variable {x:Ins}{n:Nat}
theorem Com.dst (h:Com x n)(h1:1≤n)(h2:n<45):(kM (xz 1 x.size)∧nQ x.dst (xz 1 x.size))↔nQ x.dst x.size:=by
 have hs:=Az h.sz
 by_cases h0:x.size=0
 ·have hk:=re h2 h1 (h0▸h.sz) h.any
  have e:xz 1 x.size=1:=by rw[h0];rfl
  rw[e]
  have:nQ x.dst 1↔nQ x.dst x.size:=opB_z (by omega)
  rw[this]
  exact⟨fun g=>g.2,fun g=>⟨.inl rfl,g⟩⟩
 ·have e:xz 1 x.size=x.size:=imax_r (by omega)
  rw[e]
  exact⟨fun g=>g.2,fun g=>⟨by unfold kM;omega,g⟩⟩
theorem Com.sizes (h:Com x n)(h1:1≤n)(h2:n<45):(iSz x n=sSz x n∧kM (iSz x n))∨(x.size=0∧x.src.kind≠1∧x.src.kind≠2∧kM (iSz x n)):=by
 have hs:=Az h.sz
 obtain⟨_,c2,_,c4,_⟩:=mb n h2 h1 x.size h.sz
 have hf:=h.frm
 unfold m7 at hf
 unfold iSz sSz kM
 by_cases hn:20≤n∧n≤24
 ·rw[if_neg (by omega),if_neg (by omega)]at hf
  left
  rw[if_neg (by omega),if_pos (.inl hn),if_pos hn]
  omega
 ·by_cases hm:n=26∨n=27
  ·have hfr:x.frm=1∨x.frm=2∨x.frm=4:=by
    rcases hm with hm|hm
    ·rw[if_pos hm]at hf;omega
    ·rw[if_neg (by omega),if_pos hm]at hf;omega
   left
   rw[if_pos (by omega),if_neg hn,if_pos (by omega)]
   omega
  ·rw[if_neg (by omega),if_neg (by omega)]at hf
   by_cases h0:x.size=0
   ·right
    have hk:=re h2 h1 (h0▸h.sz) h.any
    rw[if_neg (by omega),if_pos (.inr h0)]
    omega
   ·left
    rw[if_neg (by omega),if_neg (by omega),if_neg hn,if_neg (by omega)]
    omega
theorem Com.src (h:Com x n)(h1:1≤n)(h2:n<45):(kM (iSz x n)∧nQ x.src (iSz x n))↔nQ x.src (sSz x n):=by
 rcases h.sizes h1 h2 with ⟨e,hz⟩|⟨h0,hk,_,hz⟩
 ·rw[e]at hz⊢
  exact⟨fun g=>g.2,fun g=>⟨hz,g⟩⟩
 ·have:nQ x.src (iSz x n)↔nQ x.src (sSz x n):=opB_z hk
  rw[this]
  exact⟨fun g=>g.2,fun g=>⟨hz,g⟩⟩
theorem hi_no {o:Opd}{z:Int}(h:nQ o z):hiP o↔DB o:=by
 unfold nQ opB qc at h
 unfold hiP DB noP
 constructor
 ·intro g;exact⟨g.1,g.2.1⟩
 ·intro g
  rcases h with h|h|h|h
  ·exact⟨g.1,g.2,by omega⟩
  ·unfold qQ at h;omega
  ·omega
  ·omega
theorem yx {o:Opd}{z y:Int}(h:nQ o z)(hy:y=z∨o.kind≠1):uL o y↔ue o z:=by
 unfold nQ opB qc qQ at h
 unfold uL ue vG
 rcases h with h|h|h|h<;>omega
theorem Com.rex (h:Com x n)(h1:1≤n)(h2:n<45)(hd:nQ x.dst x.size)(hs:nQ x.src (sSz x n)):
  (¬(hiP x.dst∨hiP x.src)∨¬((x.size=8∧¬By n)∨uL x.dst x.size∨uL x.src (iSz x n)))↔
  (¬(DB x.dst∨DB x.src)∨¬ue x.dst x.size∧¬ue x.src (sSz x n)∧(x.size≠8∨29≤n∧n≤32)):=by
 obtain⟨_,_,c3,_,_⟩:=mb n h2 h1 x.size h.sz
 have e:iSz x n=sSz x n∨x.src.kind≠1:=(h.sizes h1 h2).imp (·.1) (·.2.1)
 rw[hi_no hd,hi_no hs,yx hd (.inl rfl),yx hs e]
 have w:(x.size=8∧¬By n)↔¬(x.size≠8∨29≤n∧n≤32):=by unfold By;omega
 rw[w]
 refine or_congr Iff.rfl ?_
 constructor
 ·intro g
  exact⟨fun a=>g (.inr (.inl a)),fun a=>g (.inr (.inr a)),Classical.byContradiction fun a=>g (.inl a)⟩
 ·rintro⟨g1,g2,g3⟩ (a|a|a)
  ·exact a g3
  ·exact g1 a
  ·exact g2 a
theorem Com.num (h:Com x n)(h1:1≤n)(h2:n<45)(hs:nQ x.src (sSz x n)):numB x n=true↔(x.src.kind=3→numI x n=true)∧(20≤n∧n≤24→x.src.kind=1→x.src.reg=1):=by
 obtain⟨c1,c2,c3,c4,c5⟩:=mb n h2 h1 x.size h.sz
 have hi:x.src.kind≠3→x.src.imm=0:=opB_imm hs
 have hf:=h.frm
 unfold m7 at hf
 have f8:uE x.src.imm 8=uE x.src.imm 4:=rfl
 have f0:x.src.kind≠3→∀z,uE x.src.imm z=true:=fun hk z=>by rw[hi hk];exact yY z
 unfold numB numI
 by_cases n1:n≤8∨n=10
 ·rw[if_pos n1,if_neg (by omega),if_neg (by omega),if_neg (c1 (by omega))]
  constructor
  ·intro g;exact⟨fun _=>g,fun a=>by omega⟩
  ·intro g
   by_cases hk:x.src.kind=3
   ·exact g.1 hk
   ·exact f0 hk _
 ·rw[if_neg n1]
  by_cases n2:n=9
  ·rw[if_pos n2,if_neg (by omega),if_neg (c1 (by omega)),Bool.or_eq_true,decide_eq_true_eq]
   constructor
   ·intro g
    refine⟨fun _=>?_,fun a=>by omega⟩
    split
    ·rfl
    ·rename_i hn
     exact g.resolve_left fun a=>hn ⟨n2,a⟩
   ·intro g
    by_cases hk:x.src.kind=3
    ·have:=g.1 hk
     split at this
     ·rename_i hn;exact .inl hn.2
     ·exact .inr this
    ·exact .inr (f0 hk _)
  ·rw[if_neg n2]
   by_cases n3:20≤n∧n≤24
   ·rw[if_pos n3,if_pos (.inl n3),decide_eq_true_eq,decide_eq_true_eq]
    constructor
    ·intro g;exact⟨fun _=>g.2,fun _ a=>Classical.byContradiction fun b=>g.1 ⟨a,b⟩⟩
    ·intro g
     refine⟨fun a=>a.2 (g.2 n3 a.1),?_⟩
     by_cases hk:x.src.kind=3
     ·exact g.1 hk
     ·rw[hi hk];decide
   ·rw[if_neg n3]
    have none:(¬(n=29∨n=31∨n=32∨n=33∨n=44))→x.src.kind≠3:=fun hn=>no_imm h2 (by omega) h.any
    by_cases n4:n=26
    ·rw[if_pos n4]at hf
     rw[if_pos n4,decide_eq_true_eq]
     exact⟨fun _=>⟨fun a=>absurd a (none (by omega)),fun a=>absurd a n3⟩,fun _=>hf⟩
    ·rw[if_neg n4]at hf⊢
     by_cases n5:n=27
     ·rw[if_pos n5]at hf
      rw[if_pos n5,decide_eq_true_eq]
      exact⟨fun _=>⟨fun a=>absurd a (none (by omega)),fun a=>absurd a n3⟩,fun _=>hf⟩
     ·rw[if_neg n5]
      by_cases n6:n=29∨n=31∨n=32∨n=33
      ·have e:(if(20≤n∧n≤24)∨n=44 then decide (0≤x.src.imm∧x.src.imm≤255)else if n=9∧x.size=8∧x.dst.kind=1 then true else if x.size=0 then uE x.src.imm 4 else uE x.src.imm x.size)=uE x.src.imm 4:=by
        rw[if_neg (by omega),if_neg (by omega)]
        by_cases h0:x.size=0
        ·rw[if_pos h0]
        ·rw[if_neg h0]
         have:x.size=8:=by
          rcases n6 with m|m|m|m
          ·exact c5 (by omega)
          ·exact c5 (by omega)
          ·exact c5 (by omega)
          ·exact absurd (c3 (.inl m)) h0
         rw[this,f8]
       rw[if_pos n6,e]
       constructor
       ·intro g;exact⟨fun _=>g,fun a=>absurd a n3⟩
       ·intro g
        by_cases hk:x.src.kind=3
        ·exact g.1 hk
        ·exact f0 hk _
      ·rw[if_neg n6]
       by_cases n7:n=44
       ·rw[if_pos n7,if_pos (.inr n7)]
        constructor
        ·intro g;exact⟨fun _=>g,fun a=>absurd a n3⟩
        ·intro g
         by_cases hk:x.src.kind=3
         ·exact g.1 hk
         ·rw[hi hk];decide
       ·rw[if_neg n7]
        exact⟨fun _=>⟨fun a=>absurd a (none (by omega)),fun a=>absurd a n3⟩,fun _=>rfl⟩
theorem ins_iff (h1:1≤n)(h2:n<45):zf x n↔xC x n:=by
 have hkc:∀ {o:Opd} {z:Int},nQ o z→(kc o.kind:Int)=o.kind:=fun g=>kc_eq (Cv g)
 constructor
 ·rintro⟨⟨a1,a2⟩,⟨a3,a4⟩,a5,a6,a7,a8,a9,a10,a11,a12,a13⟩
  rw[hkc a9.2,hkc a10.2]at a8
  have C:Com x n:=⟨a6,a8,a7⟩
  have d:=(C.dst h1 h2).1 a9
  have e:=(C.src h1 h2).1 a10
  have hn:=(C.num h1 h2 e).2 ⟨a11,a12⟩
  refine⟨a1,a2,by unfold shB;rw[decide_eq_true a6,a8,hn];rfl,?_,by omega,a3,a4,d,e,(C.rex h1 h2 d e).1 a13⟩
  unfold m7 at a7
  by_cases m:n=26∨n=27
  ·exact .inl m
  ·rw[if_neg (by omega),if_neg (by omega)]at a7;exact .inr a7
 ·rintro⟨a1,a2,a3,a4,a5,a6,a7,a8,a9,a10⟩
  unfold shB at a3
  simp only[Bool.and_eq_true,decide_eq_true_eq]at a3
  obtain⟨b1,b2,b3⟩:=a3
  have fr:m7 x n:=by
   unfold m7
   unfold numB at b3
   by_cases m:n=26
   ·rw[if_neg (by omega),if_neg (by omega),if_neg (by omega),if_pos m,decide_eq_true_eq]at b3
    rw[if_pos m];exact b3
   ·by_cases m2:n=27
    ·rw[if_neg (by omega),if_neg (by omega),if_neg (by omega),if_neg m,if_pos m2,decide_eq_true_eq]at b3
     rw[if_neg m,if_pos m2];exact b3
    ·rw[if_neg m,if_neg m2]
     exact a4.resolve_left (by omega)
  have C:Com x n:=⟨b1,b2,fr⟩
  have q:=(C.num h1 h2 a9).1 b3
  exact⟨⟨a1,a2⟩,⟨a6,a7⟩,by omega,b1,fr,by rw[hkc a8,hkc a9];exact b2,(C.dst h1 h2).2 a8,(C.src h1 h2).2 a9,q.1,q.2,(C.rex h1 h2 a8 a9).2 a10⟩
theorem xa (x:Ins){n:Nat}(h1:1≤n)(h2:n<45)(h:x.op=n)(hd:I64 x.dst.disp)(hs:I64 x.src.disp):cJ ((x,()),())=some (decide (xC x n),()):=by
 rw[(yo x h1 h2 h hd hs).eq]
 congr 2
 rw[Bool.eq_iff_iff,decide_eq_true_eq,decide_eq_true_eq]
 exact ins_iff h1 h2
theorem xb (x:Ins)(h:¬(1≤x.op∧x.op≤44)):cJ ((x,()),())=some (false,())∧eD ((x,()),())=some (false,()):=by
 constructor
 ·unfold cJ gT
  dsimp only
  rw[aW,aa,aa]
  dsimp only
  rw[decide_eq_false h,dp]
  rfl
 ·unfold eD gx
  dsimp only
  rw[bG,aW,aa,aa]
  dsimp only
  rw[decide_eq_false h,dp]
  rfl
end Go.Den.G
namespace Go.Den.G
open Go.Den
set_option maxRecDepth 100000
variable {x:Ins}{n:Nat}
end Go.Den.G
namespace Go.Den.G
open Go.Den
set_option maxRecDepth 100000
end Go.Den.G
namespace Go.Den.G
open Go.Den
set_option maxRecDepth 100000
section
variable {t:List UInt8}{a c:Int}
end
end Go.Den.G
namespace Go.Den.G
open Go.Den
set_option maxRecDepth 100000
section
variable {t:List UInt8}{a c:Int}
end
end Go.Den.G
namespace Go.Den.G
open Go.Den
set_option maxRecDepth 100000
section
variable {t:List UInt8}{a c x:Int}{w:Bool}
theorem iH (m:Nat)(hm:m≤63)(v:Int):I64 (sx m v):=by
 unfold sx
 have hp:(0:Int)<2^(m+1):=Int.pow_pos (by decide)
 have h1:=Int.emod_nonneg v (Int.ne_of_gt hp)
 have h2:=Int.emod_lt_of_pos v hp
 have hd:(2:Int)^(m+1)=2^m*2:=Int.pow_succ 2 m
 have hm3:(2:Int)^m≤2^63:=by
  have h:=Nat.pow_le_pow_right (show 0<2 by decide) hm
  have e1:((2^m:Nat):Int)=(2:Int)^m:=by simp
  have e2:((2^63:Nat):Int)=(2:Int)^63:=by simp
  rw[←e1,←e2];exact Int.ofNat_le.2 h
 have hb:v%2^64/2^m%2=v%2^(m+1)/2^m:=by
  have h64:(2:Int)^(m+1)*2^(63-m)=2^64:=by rw[←Int.pow_add];congr 1;omega
  have h1:v%2^(m+1)=v%2^64%2^(m+1):=by
   rw[Int.emod_emod_of_dvd]
   exact⟨2^(63-m),h64.symm⟩
  rw[h1,Int.pow_succ 2 m]
  have hu:=bc v
  rw[←hu]
  have:((2:Int)^m)=((2^m:Nat):Int):=by simp
  rw[this]
  have h2:((2^m:Nat):Int)*2=((2^m*2:Nat):Int):=by simp
  rw[h2]
  rw[←Int.natCast_ediv,←Int.natCast_emod,←Int.natCast_ediv,Nat.mod_mul_right_div_self]
  simp
 rw[hb]
 have hpm:(0:Int)<2^m:=Int.pow_pos (by decide)
 generalize v%2^(m+1)=r at*
 unfold I64
 by_cases hs:(2:Int)^m≤r
 ·have hq:r/2^m=1:=by
   rw[Int.ediv_eq_iff_of_pos hpm];omega
  rw[hq,if_pos rfl];omega
 ·have hq:r/2^m=0:=Int.ediv_eq_zero_of_lt h1 (by omega)
  rw[hq,if_neg (by decide)];omega
end
end Go.Den.G
namespace Go.Den.G
open Go.Den
set_option maxRecDepth 100000
def lR (n:Nat)(hi lo:Int):Nat:=bV hi n*2^(8*n)+bV lo n
def mo (sg:Bool)(n:Nat)(hi lo:Int):Int:=if sg=true∧2^(16*n-1)≤lR n hi lo then(lR n hi lo:Int)-2^(16*n)else(lR n hi lo:Int)
theorem jw (n:Nat)(hi lo:Int):lR n hi lo<2^(16*n):=by
 have h1:=fQ hi n
 have h2:=fQ lo n
 unfold lR
 rw[show 16*n=8*n+8*n by omega,Nat.pow_add]
 generalize 2^(8*n)=P at*
 have:(bV hi n+1)*P≤P*P:=Nat.mul_le_mul_right _ h1
 rw[Nat.add_mul]at this
 omega
theorem yL (hi lo:Int):lR 8 hi lo=uns hi*18446744073709551616+uns lo:=by
 unfold lR bV
 rw[show(2:Nat)^(8*8)=18446744073709551616 from rfl,Nat.mod_eq_of_lt (dQ hi),Nat.mod_eq_of_lt (dQ lo)]
theorem join_n {n:Nat}(hn:n=1∨n=2∨n=4){hi lo:Int}(hh:I64 hi)(hl:I64 lo):ior .i64 (cH .i64 (bL hi n) (8*(n:Int))) (bL lo n)=IntKind.wrap .i64 (lR n hi lo):=by
 have hs:bX (n:Int)=true:=by rcases hn with rfl|rfl|rfl<;>rfl
 refine iw (jv ..) (aD _) ?_
 have e8:8*(n:Int)=((8*n:Nat):Int):=by omega
 have hlt:=jw n hi lo
 have h32:2^(16*n)≤2^64:=Nat.pow_le_pow_right (by decide) (by omega)
 have hu:uns (cH .i64 (bL hi n) ((8*n:Nat):Int))=bV hi n*2^(8*n):=by
  unfold cH
  rw[bM,Int.toNat_natCast,show min (8*n) IntKind.i64.bits=8*n by simp[IntKind.bits];omega]
  have:0≤bL hi n:=by
   unfold bL
   rw[if_neg (by omega)]
   exact Int.emod_nonneg _ (Int.ne_of_gt (Int.pow_pos (by decide)))
  have h3:=bc (bL hi n)
  rw[cf hh hs]at h3
  have hI:=dR hh hs
  unfold I64 at hI
  have h4:bL hi n=(bV hi n:Int):=by omega
  rw[h4,←i9,←Int.natCast_mul,ew]
  refine Nat.lt_of_le_of_lt ?_ (Nat.lt_of_lt_of_le hlt h32)
  exact Nat.le_add_right _ _
 rw[kR,e8,hu,cf hl hs,bM,ew (Nat.lt_of_lt_of_le hlt h32)]
 unfold lR
 rw[Nat.mul_comm,Nat.two_pow_add_eq_or_of_lt (fQ lo n)]
theorem bit_top {N m:Nat}(h:N<2^(m+1)):N/2^m%2=1↔2^m≤N:=by
 have hp:=Nat.two_pow_pos m
 rw[Nat.pow_succ]at h
 have h1:N/2^m<2:=Nat.div_lt_of_lt_mul h
 have h2:1≤N/2^m↔2^m≤N:=by rw[Nat.le_div_iff_mul_le hp,Nat.one_mul]
 generalize N/2^m=q at*
 omega
theorem sx_nat {N m:Nat}(hm:m≤63)(h:N<2^(m+1)):sx m (IntKind.wrap .i64 (N:Int))=if 2^m≤N then(N:Int)-2^(m+1)else(N:Int):=by
 have h64:N<2^64:=Nat.lt_of_lt_of_le h (Nat.pow_le_pow_right (by decide) (by omega))
 have hu:IntKind.wrap .i64 (N:Int)%2^64=(N:Int):=by rw[←bc,bM,ew h64]
 have hd:(2:Int)^(m+1)∣2^64:=⟨2^(63-m),by rw[←Int.pow_add];congr 1;omega⟩
 have hl:IntKind.wrap .i64 (N:Int)%2^(m+1)=(N:Int):=by
  rw[←Int.emod_emod_of_dvd _ hd,hu,←i9,←Int.natCast_emod,Nat.mod_eq_of_lt h]
 unfold sx
 rw[hu,hl]
 have e:((N:Int)/2^m%2=1)↔(2^m≤N):=by
  rw[←bit_top h,←i9,←Int.natCast_ediv];omega
 simp only[e]
theorem Ao {v:Int}(hv:I64 v):ci .i64 v 63=if v<0 then -1 else 0:=by
 unfold I64 at hv
 unfold ci
 show Int.fdiv v (2^63)=_
 rw[Int.fdiv_eq_ediv_of_nonneg _ (by decide)]
 split<;>omega
theorem Bh {n:Nat}(hn:n=1∨n=2∨n=4)(hi lo:Int):I64 (mo true n hi lo)∧mo true n hi lo=sx (16*n-1) (IntKind.wrap .i64 (lR n hi lo)):=by
 have e:mo true n hi lo=sx (16*n-1) (IntKind.wrap .i64 (lR n hi lo)):=by
  have hlt:=jw n hi lo
  rw[sx_nat (by omega) (by rw[show 16*n-1+1=16*n by omega];exact hlt)]
  unfold mo
  rw[show 16*n-1+1=16*n by omega]
  simp only[true_and]
 refine⟨?_,e⟩
 rw[e]
 exact iH _ (by omega) _
theorem y8 {n:Nat}{hi lo:Int}(hn:bX (n:Int)=true)(hh:I64 hi)(hl:I64 lo)(sg:Bool):
  ∃h l,fx (((n:Int),hi,lo,sg,()),())=some ((h,l,()),())∧I64 h∧I64 l∧
   ((uns h:Int)*18446744073709551616+uns l=if mo sg n hi lo<0 then mo sg n hi lo+340282366920938463463374607431768211456 else mo sg n hi lo)∧(sg=true→(h<0↔mo sg n hi lo<0)):=by
 unfold fx
 dsimp only
 by_cases h8:n=8
 ·subst h8
  rw[bn (by rfl),aR]
  refine⟨hi,lo,rfl,hh,hl,?_,?_⟩
  ·have hN:=yL hi lo
   have h1:=dQ hi
   have h2:=dQ lo
   unfold mo
   rw[show(2:Nat)^(16*8-1)=170141183460469231731687303715884105728 from rfl,show(2:Int)^(16*8)=340282366920938463463374607431768211456 from rfl]
   have hlt:lR 8 hi lo<340282366920938463463374607431768211456:=jw 8 hi lo
   by_cases hc:sg=true∧170141183460469231731687303715884105728≤lR 8 hi lo
   ·rw[if_pos hc];omega
   ·rw[if_neg hc];omega
  ·rintro rfl
   have hN:=yL hi lo
   have h1:=bc hi
   have h2:=dQ lo
   unfold mo
   rw[show(2:Nat)^(16*8-1)=170141183460469231731687303715884105728 from rfl,show(2:Int)^(16*8)=340282366920938463463374607431768211456 from rfl]
   have hlt:lR 8 hi lo<340282366920938463463374607431768211456:=jw 8 hi lo
   unfold I64 at hh
   simp only[true_and]
   by_cases hc:170141183460469231731687303715884105728≤lR 8 hi lo
   ·rw[if_pos hc];omega
   ·rw[if_neg hc];omega
 ·have h3:n=1∨n=2∨n=4:=by rcases uG hn with h|h|h|h<;>omega
  rw[aG (show(n:Int)≠8 by omega),ap,bB _ n hn,bB _ n hn,aa,aa]
  dsimp only
  rw[eI (a:=8) (by omega) (by omega),ah (fv (by omega)),join_n h3 hh hl]
  cases sg with
  |true=>
   rw[aR,eI (a:=2) (by omega) (by omega),ma _ _ (by omega) (by omega),aa]
   dsimp only
   rw[show(8*(2*(n:Int))-1).toNat=16*n-1 by omega]
   obtain⟨hI,he⟩:=Bh h3 hi lo
   rw[←he]
   generalize mo true n hi lo=X at*
   refine⟨_,_,rfl,by rw[Ao hI];split<;>(unfold I64;omega),hI,?_,?_⟩
   ·rw[Ao hI]
    have hc:=bc X
    unfold I64 at hI
    by_cases hX:X<0
    ·rw[if_pos hX,if_pos hX,show uns (-1)=18446744073709551615 from rfl];omega
    ·rw[if_neg hX,if_neg hX,show uns 0=0 from rfl];omega
   ·intro _
    rw[Ao hI]
    by_cases hX:X<0
    ·rw[if_pos hX];omega
    ·rw[if_neg hX];omega
  |false=>
   rw[ap]
   refine⟨_,_,rfl,by unfold I64;omega,aD _,?_,fun h=>by cases h⟩
   have hlt:=jw n hi lo
   have h64:lR n hi lo<2^64:=Nat.lt_of_lt_of_le hlt (Nat.pow_le_pow_right (by decide) (by omega))
   rw[bM,ew h64]
   have e:mo false n hi lo=(lR n hi lo:Int):=if_neg (fun h=>by cases h.1)
   rw[e,if_neg (by omega),show uns 0=0 from rfl]
   omega
theorem vB {h l:Int}:∃h' l',dV ((h,l,()),())=some ((h',l',()),())∧I64 h'∧I64 l'∧
  (uns h':Int)*18446744073709551616+uns l'=(340282366920938463463374607431768211456-((uns h:Int)*18446744073709551616+uns l))%340282366920938463463374607431768211456:=by
 have hh:=dQ h
 have hl:=dQ l
 have hu:∀v,sr (ak .u64 v)=true:=fun v=>by
  rw[dP]
  have:=dQ v
  exact decide_eq_true (by omega)
 unfold dV
 dsimp only
 rw[hu,hu,show sr 0=true from rfl,show yk 0=true from rfl,aR,aR,aR,aR,aR]
 have hc:yk (kr 0 (ak .u64 l) 0)=true:=by
  unfold kr yk
  split<;>rfl
 rw[hc,aR,dP,dP]
 refine⟨_,_,rfl,aD _,aD _,?_⟩
 unfold ak
 have e:∀z:Int,((uns (z%18446744073709551616):Nat):Int)=z%18446744073709551616:=fun z=>by
  rw[bc,show(2:Int)^64=18446744073709551616 from rfl];omega
 rw[bM,bM]
 unfold lO kr
 rw[e,e]
 generalize uns h=a at*
 generalize uns l=b at*
 split<;>omega
end Go.Den.G
namespace Go.Den.G
open Go.Den
set_option maxRecDepth 100000
theorem rh {h l d:Int}:
  da ((h,l,d,()),())=some (if uns d≤uns h then((0,0,16,()),())else((IntKind.wrap .i64 (((uns h*18446744073709551616+uns l)/uns d:Nat):Int),IntKind.wrap .i64 (((uns h*18446744073709551616+uns l)%uns d:Nat):Int),0,()),())):=by
 unfold da cI
 dsimp only
 rw[aa,dP,dP,dP]
 dsimp only
 by_cases hc:uns d≤uns h
 ·rw[gA (by omega),dp,aR,if_pos hc]
 ·rw[gY (by omega),cc,ap,AY (by omega) (dQ d) (dQ l),aa,if_neg hc]
  rfl
theorem Ay {n:Nat}(hn:bX (n:Int)=true)(d:Int):sx (8*n-1) (bL d n)=sx (8*n-1) d:=by
 have h18:=di hn
 unfold bL
 by_cases h8:n=8
 ·rw[if_pos h8]
 ·rw[if_neg h8]
  have h3:n=1∨n=2∨n=4:=by rcases uG hn with h|h|h|h<;>omega
  unfold sx
  rcases h3 with rfl|rfl|rfl
  ·rw[show(2:Int)^(8*1-1+1)=256 from rfl,show(2:Int)^(8*1-1)=128 from rfl,show(2:Int)^64=18446744073709551616 from rfl]
   split<;>split<;>omega
  ·rw[show(2:Int)^(8*2-1+1)=65536 from rfl,show(2:Int)^(8*2-1)=32768 from rfl,show(2:Int)^64=18446744073709551616 from rfl]
   split<;>split<;>omega
  ·rw[show(2:Int)^(8*4-1+1)=4294967296 from rfl,show(2:Int)^(8*4-1)=2147483648 from rfl,show(2:Int)^64=18446744073709551616 from rfl]
   split<;>split<;>omega
def sY (M B:Nat):Bool:=decide (B*18446744073709551616≤M)
def sZ (t:Bool)(n q:Nat):Bool:=if t=true then decide (2^(8*n-1)<q)else decide (2^(8*n-1)≤q)
def yl (X D:Int):Bool:=decide (X<0) != decide (D<0)
def negI (t:Bool)(q:Nat):Int:=if t=true then -(q:Int)else(q:Int)
def Do (sg:Bool)(n:Nat)(X D:Int)(q r:Nat):Int×Int×Bool:=
 if sY X.natAbs D.natAbs=true then(0,0,false)
 else if sg=false then(jE n (q:Int),jE n (r:Int),decide (q<2^(8*n)))
 else if sZ (yl X D) n q=true then(0,0,false)
 else(jE n (negI (yl X D) q),jE n (negI (decide (X<0)) r),true)
def ru (op:Int)(n:Nat)(hi lo d:Int):Int×Int×Bool:=
 Do (decide (op=16)) n (mo (decide (op=16)) n hi lo) (lA (decide (op=16)) n d) ((mo (decide (op=16)) n hi lo).natAbs/(lA (decide (op=16)) n d).natAbs) ((mo (decide (op=16)) n hi lo).natAbs%(lA (decide (op=16)) n d).natAbs)
theorem n9 {n:Nat}(hn:bX (n:Int)=true)(z:Int):bL (IntKind.wrap .i64 z) n=jE n z:=by
 refine nm hn (aD _) ?_
 rw[bM,bc,Int.emod_emod_of_dvd z (by have:=yO (di hn).2;exact this)]
theorem jT {a b:Int}(h:a%18446744073709551616=b%18446744073709551616):IntKind.wrap .i64 a=IntKind.wrap .i64 b:=by
 simp only[IntKind.wrap,IntKind.bits,show(2:Int)^64=18446744073709551616 from rfl,h]
theorem kU (x:Int):IntKind.wrap .i64 x%18446744073709551616=x%18446744073709551616:=by
 have:=bM x
 have h1:=bc (IntKind.wrap .i64 x)
 have h2:=bc x
 rw[this]at h1
 rw[show(2:Int)^64=18446744073709551616 from rfl]at h1 h2
 omega
theorem wB (z:Int):aM .i64 0 (IntKind.wrap .i64 z)=IntKind.wrap .i64 (-z):=by
 unfold aM
 refine jT ?_
 have:=kU z
 omega
theorem yM {sg:Bool}{n:Nat}(hn:bX (n:Int)=true)(hi lo:Int): -170141183460469231731687303715884105728≤mo sg n hi lo∧mo sg n hi lo<340282366920938463463374607431768211456∧(sg=false→0≤mo sg n hi lo):=by
 have hlt:=jw n hi lo
 unfold mo
 generalize lR n hi lo=N at*
 rcases uG hn with rfl|rfl|rfl|rfl
 ·rw[show(2:Nat)^(16*1)=65536 from rfl]at hlt
  rw[show(2:Nat)^(16*1-1)=32768 from rfl,show(2:Int)^(16*1)=65536 from rfl]
  split
  ·rename_i h;exact⟨by omega,by omega,fun g=>by rw[g]at h;cases h.1⟩
  ·omega
 ·rw[show(2:Nat)^(16*2)=4294967296 from rfl]at hlt
  rw[show(2:Nat)^(16*2-1)=2147483648 from rfl,show(2:Int)^(16*2)=4294967296 from rfl]
  split
  ·rename_i h;exact⟨by omega,by omega,fun g=>by rw[g]at h;cases h.1⟩
  ·omega
 ·rw[show(2:Nat)^(16*4)=18446744073709551616 from rfl]at hlt
  rw[show(2:Nat)^(16*4-1)=9223372036854775808 from rfl,show(2:Int)^(16*4)=18446744073709551616 from rfl]
  split
  ·rename_i h;exact⟨by omega,by omega,fun g=>by rw[g]at h;cases h.1⟩
  ·omega
 ·rw[show(2:Nat)^(16*8)=340282366920938463463374607431768211456 from rfl]at hlt
  rw[show(2:Nat)^(16*8-1)=170141183460469231731687303715884105728 from rfl,show(2:Int)^(16*8)=340282366920938463463374607431768211456 from rfl]
  split
  ·rename_i h;exact⟨by omega,by omega,fun g=>by rw[g]at h;cases h.1⟩
  ·omega
end Go.Den.G
namespace Go.Den.G
open Go.Den
set_option maxRecDepth 100000
theorem zC {n:Nat}(hn:bX (n:Int)=true):uns (cH .i64 1 (8*(n:Int)-1))=2^(8*n-1):=by
 rcases uG hn with rfl|rfl|rfl|rfl<;>decide +kernel
theorem sG (a b:Int):cI ((a,b,()),())=some (decide (uns a<uns b),()):=by
 unfold cI
 dsimp only
 rw[dP,dP]
 unfold ltI
 simp only[Int.ofNat_lt]
theorem Bn {n:Nat}(hn:bX (n:Int)=true){q:Nat}(hq:q<18446744073709551616):eqI (jE n (q:Int)) (IntKind.wrap .i64 (q:Int))=decide (q<2^(8*n)):=by
 unfold eqI
 have h1:=uA n (di hn).2 (q:Int)
 have h2:uns (IntKind.wrap .i64 (q:Int))=q:=by rw[bM,ew hq]
 have h3:((q:Int)%2^(8*n)).toNat=q%2^(8*n):=by
  rw[←i9,←Int.natCast_emod,Int.toNat_natCast]
 rw[h3]at h1
 by_cases h:q<2^(8*n)
 ·rw[decide_eq_true h]
  refine decide_eq_true (iw (iq ..) (aD _) ?_)
  rw[h1,h2,Nat.mod_eq_of_lt h]
 ·rw[decide_eq_false h]
  refine decide_eq_false (fun he=>?_)
  rw[he,h2]at h1
  have:=Nat.mod_lt q (Nat.two_pow_pos (8*n))
  omega
theorem yN {op hi lo d:Int}{n:Nat}(hn:bX (n:Int)=true)(hh:I64 hi)(hl:I64 lo)(hd:I64 d):
  eE ((op,(n:Int),hi,lo,d,()),())=some (((ru op n hi lo d).1,(ru op n hi lo d).2.1,(ru op n hi lo d).2.2,()),()):=by
 obtain⟨h1,h8⟩:=di hn
 unfold eE
 dsimp only
 obtain⟨sg,hsg⟩:∃sg:Bool,sg=decide (op=16):=⟨_,rfl⟩
 have heq:eqI op 16=sg:=by rw[hsg];rfl
 rw[heq]
 obtain⟨h,l,e1,hI,lI,hX,hlt⟩:=y8 hn hh hl sg
 rw[e1,aa,bB _ n hn,aa]
 dsimp only
 have hxb:=yM (sg:=sg) hn hi lo
 unfold ru
 rw[←hsg]
 obtain⟨X,hXe⟩:∃X,X=mo sg n hi lo:=⟨_,rfl⟩
 obtain⟨D,hDe⟩:∃D,D=lA sg n d:=⟨_,rfl⟩
 have hDb:=Dr sg hn d
 rw[←hXe]at hX hlt hxb
 rw[←hDe]at hDb
 rw[←hXe,←hDe]
 obtain⟨q,hq⟩:∃q,q=X.natAbs/D.natAbs:=⟨_,rfl⟩
 obtain⟨r,hr⟩:∃r,r=X.natAbs%D.natAbs:=⟨_,rfl⟩
 rw[←hq,←hr]
 obtain⟨D1,hD1⟩:∃D1,D1=if sg=true then D else bL d n:=⟨_,rfl⟩
 refine(Ret.bnd (Q:=fun y=>y=Sum.inl (((n:Int),h,l,D1,sg,()),())) ?_ ?_).eq
 ·cases sg with
  |true=>
   rw[aR,ma _ _ (by omega) (by omega),aa,show(8*(n:Int)-1).toNat=8*n-1 by omega,Ay hn,hD1,if_pos rfl,hDe]
   exact Ret.some rfl
  |false=>
   rw[ap,hD1,if_neg (by decide)]
   exact Ret.some rfl
 rintro _ rfl
 rw[ar]
 dsimp only
 have hbel:br sg (some (ltI h 0)) (some false)=some (decide (X<0)):=by
  cases sg with
  |true=>rw[aR];unfold ltI;simp only[hlt rfl]
  |false=>rw[ap,decide_eq_false (show ¬X<0 by have:=hxb.2.2 rfl;omega)]
 rw[hbel,aa]
 refine Ret.bnd (Q:=fun y=>∃h' l',I64 h'∧I64 l'∧uns h'*18446744073709551616+uns l'=X.natAbs∧y=Sum.inl (((n:Int),h',l',D1,sg,decide (X<0),false,()),())) ?_ ?_
 ·by_cases hx:X<0
  ·rw[decide_eq_true hx,aR]
   obtain⟨h',l',e2,hI',lI',hO⟩:=vB (h:=h) (l:=l)
   rw[e2,aa]
   refine Ret.some ⟨h',l',hI',lI',?_,rfl⟩
   rw[hX,if_pos hx]at hO
   omega
  ·rw[decide_eq_false hx,ap]
   refine Ret.some ⟨h,l,hI,lI,?_,rfl⟩
   rw[if_neg hx]at hX
   omega
 rintro _ ⟨h',l',hI',lI',hM,rfl⟩
 rw[ar]
 dsimp only
 have htur:br sg (some (ltI D1 0)) (some false)=some (decide (D<0)):=by
  cases sg with
  |true=>rw[aR,hD1,if_pos rfl];rfl
  |false=>rw[ap,decide_eq_false (show ¬D<0 by have:=hDb.2.2.2 rfl;omega)]
 rw[htur,aa]
 refine Ret.bnd (Q:=fun y=>∃d',uns d'=D.natAbs∧y=Sum.inl (((n:Int),h',l',d',sg,decide (X<0),decide (D<0),()),())) ?_ ?_
 ·have hb63:sg=true→ -9223372036854775808≤D∧D<9223372036854775808:=fun g=>by
   have h5:(2:Nat)^(8*n-1)≤2^63:=Nat.pow_le_pow_right (by decide) (by omega)
   have h6:(2:Int)^(8*n-1)≤9223372036854775808:=by
    have:=i9 (8*n-1)
    rw[←this];exact Int.ofNat_le.2 h5
   have:=hDb.1
   have:=hDb.2.2.1 g
   omega
  by_cases hx:D<0
  ·have hs:sg=true:=by
    cases sg with
    |true=>rfl
    |false=>have:=hDb.2.2.2 rfl;omega
   subst hs
   rw[decide_eq_true hx,aR,hD1,if_pos rfl]
   refine Ret.some ⟨aM .i64 0 D,?_,rfl⟩
   have hb:=hb63 rfl
   unfold aM
   rw[bM,show 0-D=((D.natAbs:Nat):Int)by omega,ew (by omega)]
  ·rw[decide_eq_false hx,ap]
   refine Ret.some ⟨D1,?_,rfl⟩
   cases sg with
   |true=>
    rw[hD1,if_pos rfl]
    have hb:=hb63 rfl
    obtain⟨k,hk⟩:∃k:Nat,D=k:=⟨D.natAbs,by omega⟩
    rw[hk,ew (by omega),Int.natAbs_natCast]
   |false=>
    rw[hD1,if_neg (by decide),cf hd hn,hDe]
    unfold lA
    rw[if_neg (by decide),Int.natAbs_natCast]
 rintro _ ⟨d',hd',rfl⟩
 rw[ar]
 dsimp only[p5,p6]
 rw[rh,aa,hM,hd']
 have hl64:=dQ l'
 by_cases hov:D.natAbs≤uns h'
 ·have hb:sY X.natAbs D.natAbs=true:=decide_eq_true (by omega)
  unfold Do
  rw[if_pos hov,if_pos hb]
  exact Ret.some rfl
 have hb:¬sY X.natAbs D.natAbs=true:=fun g=>by
  have:=of_decide_eq_true g
  omega
 rw[if_neg hov]
 dsimp only
 have hq64:q<18446744073709551616:=by rw[hq];exact Nat.div_lt_of_lt_mul (by omega)
 rw[←hq,←hr,show aX (eqI 0 0)=false from rfl,ap]
 clear hov hXe hDe hq hr hM hd' hxb hDb hbel htur hD1
 cases sg with
 |false=>
  rw[show aX false=true from rfl,aR,bB _ n hn,bB _ n hn,aa,aa,aa]
  dsimp only
  rw[n9 hn,n9 hn,Bn hn hq64]
  unfold Do
  rw[if_neg hb,if_pos rfl]
  exact Ret.some rfl
 |true=>
  rw[show aX true=false from rfl,ap]
  rw[eI (a:=8) (by omega) (by omega),eu (by omega) (by omega),ah (fv (by omega)),sG,sG,aa,aa,zC hn,bM,ew hq64]
  have hnB:∀a b:Bool,aX (eqB a b)=(a != b):=fun a b=>by cases a<;>cases b<;>rfl
  rw[hnB,show(decide (X<0) != decide (D<0))=yl X D from rfl]
  dsimp only
  unfold Do
  rw[if_neg hb,if_neg (show ¬true=false by decide)]
  obtain⟨t,ht⟩:∃t:Bool,t=yl X D:=⟨_,rfl⟩
  rw[←ht]
  by_cases hf:sZ t n q=true
  ·rw[if_pos hf]
   refine Ret.bnd (Q:=fun y=>y=Sum.inr ((0,0,false,()),())) ?_ ?_
   ·cases t with
    |true=>
     have hf':2^(8*n-1)<q:=of_decide_eq_true hf
     rw[aR,decide_eq_true hf',aR]
     exact Ret.some rfl
    |false=>
     have hf':2^(8*n-1)≤q:=of_decide_eq_true hf
     rw[ap,decide_eq_false (by omega),show aX false=true from rfl,aR]
     exact Ret.some rfl
   ·rintro _ rfl
    rw[ra]
    exact Ret.some rfl
  ·rw[if_neg hf]
   refine Ret.bnd (Q:=fun y=>y=Sum.inl (((n:Int),decide (X<0),IntKind.wrap .i64 (negI t q),IntKind.wrap .i64 (r:Int),()),())) ?_ ?_
   ·cases t with
    |true=>
     have hf':¬2^(8*n-1)<q:=fun g=>hf (decide_eq_true g)
     rw[aR,decide_eq_false hf',ap,wB]
     exact Ret.some rfl
    |false=>
     have hf':¬2^(8*n-1)≤q:=fun g=>hf (decide_eq_true g)
     rw[ap,decide_eq_true (by omega),show aX true=false from rfl,ap]
     exact Ret.some rfl
   rintro _ rfl
   rw[ar]
   dsimp only
   refine Ret.bnd (Q:=fun y=>y=Sum.inl (((n:Int),IntKind.wrap .i64 (negI t q),IntKind.wrap .i64 (negI (decide (X<0)) r),()),())) ?_ ?_
   ·cases decide (X<0)with
    |true=>
     rw[aR,wB]
     exact Ret.some rfl
    |false=>
     rw[ap]
     exact Ret.some rfl
   rintro _ rfl
   rw[ar]
   dsimp only
   rw[bB _ n hn,bB _ n hn,aa,aa]
   dsimp only
   rw[n9 hn,n9 hn]
   exact Ret.some rfl
theorem wb {op hi lo d:Int}{n:Nat}:I64 (ru op n hi lo d).1∧I64 (ru op n hi lo d).2.1:=by
 have z:I64 0:=by unfold I64;omega
 unfold ru Do
 split
 ·exact⟨z,z⟩
 split
 ·exact⟨iq ..,iq ..⟩
 split
 ·exact⟨z,z⟩
 ·exact⟨iq ..,iq ..⟩
end Go.Den.G
namespace Go.Den.G
open Go.Den
set_option maxRecDepth 100000
structure AddInv (A B c0 i out c:Nat):Prop where
 lo:out<2^i
 hc:c≤1
 e:out+2^i*c=A%2^i+B%2^i+c0
structure SubInv (A B c0 i out c:Nat):Prop where
 lo:out<2^i
 hc:c≤1
 e:out+B%2^i+c0=A%2^i+2^i*c
theorem AddInv.init {A B c0:Nat}(h:c0≤1):AddInv A B c0 0 0 c0:=⟨by decide,h,by omega⟩
theorem SubInv.init {A B c0:Nat}(h:c0≤1):SubInv A B c0 0 0 c0:=⟨by decide,h,by omega⟩
theorem nM (A i:Nat):A/2^i%2=0∨A/2^i%2=1:=by omega
theorem AddInv.step {A B c0 i out c:Nat}(h:AddInv A B c0 i out c):
  AddInv A B c0 (i+1) (out+2^i*((A/2^i%2+B/2^i%2+c)%2)) ((A/2^i%2+B/2^i%2+c)/2):=by
 obtain⟨h1,h2,h3⟩:=h
 have hp:=Nat.two_pow_pos i
 have hx:=nM A i
 have hy:=nM B i
 have hc:c=0∨c=1:=by omega
 refine⟨?_,?_,?_⟩
 ·rw[Nat.pow_succ]
  rcases hx with hx|hx<;>rcases hy with hy|hy<;>rcases hc with hc|hc<;>rw[hx,hy,hc]<;>simp only[Nat.reduceAdd,Nat.reduceMod,Nat.mul_zero,Nat.mul_one]<;>omega
 ·omega
 ·rw[Nat.mod_pow_succ,Nat.mod_pow_succ,Nat.pow_succ]
  generalize A%2^i=a at*
  generalize B%2^i=b at*
  rcases hx with hx|hx<;>rcases hy with hy|hy<;>rcases hc with hc|hc<;>rw[hc]at h3<;>rw[hx,hy,hc]<;>simp only[Nat.reduceAdd,Nat.reduceMod,Nat.reduceDiv,Nat.mul_zero,Nat.mul_one]at* <;>omega
theorem SubInv.step {A B c0 i out c:Nat}(h:SubInv A B c0 i out c):
  SubInv A B c0 (i+1) (out+2^i*((A/2^i%2+2-B/2^i%2-c)%2)) (if A/2^i%2+2-B/2^i%2-c<2 then 1 else 0):=by
 obtain⟨h1,h2,h3⟩:=h
 have hp:=Nat.two_pow_pos i
 have hx:=nM A i
 have hy:=nM B i
 have hc:c=0∨c=1:=by omega
 refine⟨?_,?_,?_⟩
 ·rw[Nat.pow_succ]
  rcases hx with hx|hx<;>rcases hy with hy|hy<;>rcases hc with hc|hc<;>rw[hx,hy,hc]<;>simp only[Nat.reduceAdd,Nat.reduceSub,Nat.reduceMod,Nat.mul_zero,Nat.mul_one]<;>omega
 ·split<;>omega
 ·rw[Nat.mod_pow_succ,Nat.mod_pow_succ,Nat.pow_succ]
  generalize A%2^i=a at*
  generalize B%2^i=b at*
  rcases hx with hx|hx<;>rcases hy with hy|hy<;>rcases hc with hc|hc<;>rw[hc]at h3<;>rw[hx,hy,hc]<;>simp only[Nat.reduceAdd,Nat.reduceSub,Nat.reduceMod,Nat.mul_zero,Nat.mul_one,Nat.reduceLT,if_true,if_false]at* <;>omega
theorem AddInv.fin {A B c0 i out c:Nat}(h:AddInv A B c0 i out c):out=(A%2^i+B%2^i+c0)%2^i∧c=(A%2^i+B%2^i+c0)/2^i:=by
 obtain⟨h1,h2,h3⟩:=h
 rw[←h3]
 constructor
 ·rw[Nat.add_mul_mod_self_left,Nat.mod_eq_of_lt h1]
 ·rw[Nat.add_mul_div_left _ _ (Nat.two_pow_pos i),Nat.div_eq_of_lt h1,Nat.zero_add]
theorem SubInv.fin {A B c0 i out c:Nat}(h:SubInv A B c0 i out c):out%2^i=(A%2^i+2^i-B%2^i-c0)%2^i∧c=(if A%2^i<B%2^i+c0 then 1 else 0):=by
 obtain⟨h1,h2,h3⟩:=h
 have hp:=Nat.two_pow_pos i
 have hA:=Nat.mod_lt A hp
 have hB:=Nat.mod_lt B hp
 generalize A%2^i=a at*
 generalize B%2^i=b at*
 generalize 2^i=P at*
 have hc:c=0∨c=1:=by omega
 rcases hc with rfl|rfl
 ·rw[Nat.mul_zero]at h3
  constructor
  ·rw[show a+P-b-c0=out+P by omega,Nat.add_mod_right]
  ·rw[if_neg (by omega)]
 ·rw[Nat.mul_one]at h3
  constructor
  ·rw[show a+P-b-c0=out by omega]
  ·rw[if_pos (by omega)]
structure WideInv (a b k:Nat)(h l:Int):Prop where
 h0:0≤h
 l0:0≤l
 hl:l<18446744073709551616
 e:h*18446744073709551616+l=((a*(b/2^k):Nat):Int)
theorem WideInv.init {a b:Nat}(hb:b<18446744073709551616):WideInv a b 64 0 0:=⟨by omega,by omega,by omega,by rw[Nat.div_eq_of_lt hb];rfl⟩
theorem tl (b k:Nat):b/2^k=2*(b/2^(k+1))+b/2^k%2:=by
 rw[Nat.pow_succ,←Nat.div_div_eq_div_mul]
 omega
theorem DQ (a b k:Nat):a*(b/2^k)=2*(a*(b/2^(k+1)))+a*(b/2^k%2):=by
 have h4:a*(b/2^k)=a*(2*(b/2^(k+1))+b/2^k%2):=congrArg _ (tl b k)
 rw[h4,Nat.mul_add,Nat.mul_left_comm]
theorem AH {a b:Nat}(k:Nat)(ha:a<18446744073709551616)(hb:b<18446744073709551616):((a*(b/2^k):Nat):Int)<340282366920938463463374607431768211456:=by
 have:a*(b/2^k)<18446744073709551616*18446744073709551616:=Nat.mul_lt_mul'' ha (Nat.lt_of_le_of_lt (Nat.div_le_self _ _) hb)
 exact Int.ofNat_lt.2 this
theorem wide0I {h l p p1:Int}(l0:0≤l)(h0:0≤h)(h2:h*18446744073709551616+l=p1)(e:p=2*p1+0)(h1:l<18446744073709551616)(hq:p<340282366920938463463374607431768211456):
  (h*2+l/9223372036854775808)%18446744073709551616*18446744073709551616+l*2%18446744073709551616=p:=by omega
theorem wide1I {h l a p p1 l' h':Int}(l0:0≤l)(h0:0≤h)(a0:0≤a)(h2:h*18446744073709551616+l=p1)(e:p=2*p1+a)(h1:l<18446744073709551616)(ha:a<18446744073709551616)(hq:p<340282366920938463463374607431768211456)
  (e1:h'=(h*2+l/9223372036854775808)%18446744073709551616) (e2:l'=l*2%18446744073709551616):
  ((l'+a)%18446744073709551616<l'→(h'+1)%18446744073709551616*18446744073709551616+(l'+a)%18446744073709551616=p)∧(¬(l'+a)%18446744073709551616<l'→h'*18446744073709551616+(l'+a)%18446744073709551616=p):=by constructor<;>intro g<;>omega
theorem WideInv.step0 {a b k:Nat}{h l:Int}(ha:a<18446744073709551616)(hb:b<18446744073709551616)(H:WideInv a b (k+1) h l)(h0:b/2^k%2=0):
  WideInv a b k ((h*2+l/9223372036854775808)%18446744073709551616) (l*2%18446744073709551616):=by
 obtain⟨h1,h3,h4,h2⟩:=H
 have hq:=AH k ha hb
 have e:=DQ a b k
 rw[h0,Nat.mul_zero]at e
 exact⟨by omega,by omega,by omega,wide0I h3 h1 h2 (by omega) h4 hq⟩
theorem WideInv.step1 {a b k:Nat}{h l h' l':Int}(ha:a<18446744073709551616)(hb:b<18446744073709551616)(H:WideInv a b (k+1) h l)(h0:b/2^k%2=1)
  (e1:h'=(h*2+l/9223372036854775808)%18446744073709551616) (e2:l'=l*2%18446744073709551616):
  ((l'+a)%18446744073709551616<l'→WideInv a b k ((h'+1)%18446744073709551616) ((l'+a)%18446744073709551616))∧(¬(l'+a)%18446744073709551616<l'→WideInv a b k h' ((l'+a)%18446744073709551616)):=by
 obtain⟨h1,h3,h4,h2⟩:=H
 have hq:=AH k ha hb
 have e:=DQ a b k
 rw[h0,Nat.mul_one]at e
 have:=wide1I (h:=h) (l:=l) (a:=a) h3 h1 (by omega) h2 (by omega) h4 (by omega) hq e1 e2
 exact⟨fun g=>⟨by omega,by omega,by omega,this.1 g⟩,fun g=>⟨by omega,by omega,by omega,this.2 g⟩⟩
theorem WideInv.fin {a b:Nat}{h l:Int}(H:WideInv a b 0 h l):h=((a*b/18446744073709551616:Nat):Int)∧l=((a*b%18446744073709551616:Nat):Int):=by
 obtain⟨h1,h3,h4,h2⟩:=H
 rw[Nat.pow_zero,Nat.div_one]at h2
 rw[Int.natCast_ediv,Int.natCast_emod]
 obtain⟨p,hp⟩:∃p,p=a*b:=⟨_,rfl⟩
 rw[←hp]at h2⊢
 omega
structure QuoInv (hi lo d k q r:Nat):Prop where
 lt:r<d
 e:hi*2^(64-k)+lo/2^k=q*d+r
theorem QuoInv.init {hi lo d:Nat}(h:hi<d)(hl:lo<18446744073709551616):QuoInv hi lo d 64 0 hi:=⟨h,by rw[Nat.div_eq_of_lt hl];simp⟩
theorem QuoInv.step {hi lo d k q r:Nat}(hk:k<64)(H:QuoInv hi lo d (k+1) q r):
  (r*2+lo/2^k%2<d→QuoInv hi lo d k (q*2) (r*2+lo/2^k%2))∧(d≤r*2+lo/2^k%2→QuoInv hi lo d k (q*2+1) (r*2+lo/2^k%2-d)):=by
 obtain⟨h1,h2⟩:=H
 have hs:=tl lo k
 have e1:hi*2^(64-k)=2*(hi*2^(64-(k+1))):=by
  rw[show 64-k=64-(k+1)+1 by omega,Nat.pow_succ]
  generalize 2^(64-(k+1))=P
  rw[←Nat.mul_assoc,Nat.mul_comm]
 have e2:hi*2^(64-k)+lo/2^k=q*2*d+(r*2+lo/2^k%2):=by
  rw[Nat.mul_right_comm,e1]
  generalize hi*2^(64-(k+1))=p at*
  generalize q*d=s at*
  omega
 refine⟨fun h=>⟨h,e2⟩,fun h=>⟨by omega,?_⟩⟩
 rw[e2,Nat.add_mul,Nat.one_mul]
 generalize q*2*d=s at*
 omega
theorem QuoInv.fin {hi lo d q r:Nat}(H:QuoInv hi lo d 0 q r):q=(hi*18446744073709551616+lo)/d∧r=(hi*18446744073709551616+lo)%d:=by
 obtain⟨h1,h2⟩:=H
 have e:hi*18446744073709551616+lo=r+d*q:=by
  rw[Nat.mul_comm d q,Nat.add_comm r,←h2]
  simp
 rw[e]
 constructor
 ·rw[Nat.add_mul_div_left _ _ (by omega),Nat.div_eq_of_lt h1,Nat.zero_add]
 ·rw[Nat.add_mul_mod_self_left,Nat.mod_eq_of_lt h1]
end Go.Den.G
namespace Go.Den.G
open Go.Den
set_option maxRecDepth 100000
theorem yC (v:Int)(k:Nat)(hk:k≤63):aS ((v,((k:Int),())),())=some (((uns v/2^k%2:Nat):Int),()):=by
 rw[pb _ _ (by omega) (by omega),Int.toNat_natCast,←bc]
 simp
theorem AO (v:Int)(k:Nat):eqI ((uns v/2^k%2:Nat):Int) 1=jY v k:=by
 rw[gG,Nat.testBit_eq_decide_div_mod_eq]
 unfold eqI
 rw[Bool.eq_iff_iff,decide_eq_true_eq,decide_eq_true_eq]
 omega
theorem jm (b:Bool)(k:Int):bF ((b,(k,())),())=some (if b=true then k else 0,()):=by
 unfold bF
 cases b<;>rfl
theorem tG (b:Bool):dC ((b,()),())=some (if b=true then 1 else 0,()):=by
 unfold dC
 cases b<;>rfl
def tX (u:Nat):Nat→Nat
 |0=>0
 |k+1=>tX u k+u/2^k%2
theorem Ct (u k:Nat):tX u k≤k:=by
 induction k with
 |zero=>exact Nat.le_refl 0
 |succ k ih=>unfold tX;omega
theorem CT (u:Nat)(h:u<256):parL.getD u false=((u%2+u/2%2+u/4%2+u/8%2+u/16%2+u/32%2+u/64%2+u/128%2)%2==0):=by
 unfold parL
 rw[List.getD_eq_getElem?_getD,List.getElem?_map,List.getElem?_range h]
 rfl
theorem kw (u k:Nat)(hk:k<8):u%256/2^k%2=u/2^k%2:=by
 have h:256=2^k*2^(8-k):=by rw[←Nat.pow_add,show k+(8-k)=8 by omega]
 have h2:2^(8-k)=2*2^(7-k):=by rw[show 8-k=7-k+1 by omega,Nat.pow_succ,Nat.mul_comm]
 rw[h,Nat.mod_mul_right_div_self,h2,Nat.mod_mul_right_mod]
theorem z8 (v:Int):eqI (io ((tX (uns v) 8:Nat):Int) 2) 0=CS v:=by
 unfold CS
 rw[CT _ (Nat.mod_lt _ (by decide)),iG (by omega)]
 generalize uns v=u
 have b0:=kw u 0 (by decide)
 have b1:=kw u 1 (by decide)
 have b2:=kw u 2 (by decide)
 have b3:=kw u 3 (by decide)
 have b4:=kw u 4 (by decide)
 have b5:=kw u 5 (by decide)
 have b6:=kw u 6 (by decide)
 have b7:=kw u 7 (by decide)
 rw[show(2:Nat)^0=1 from rfl,Nat.div_one,Nat.div_one]at b0
 rw[show(2:Nat)^1=2 from rfl]at b1
 rw[show(2:Nat)^2=4 from rfl]at b2
 rw[show(2:Nat)^3=8 from rfl]at b3
 rw[show(2:Nat)^4=16 from rfl]at b4
 rw[show(2:Nat)^5=32 from rfl]at b5
 rw[show(2:Nat)^6=64 from rfl]at b6
 rw[show(2:Nat)^7=128 from rfl]at b7
 rw[b0,b1,b2,b3,b4,b5,b6,b7]
 have e:tX u 8=u%2+u/2%2+u/4%2+u/8%2+u/16%2+u/32%2+u/64%2+u/128%2:=by
  show 0+u/2^0%2+u/2^1%2+u/2^2%2+u/2^3%2+u/2^4%2+u/2^5%2+u/2^6%2+u/2^7%2=_
  rw[Nat.zero_add,show(2:Nat)^0=1 from rfl,Nat.div_one]
 rw[e]
 generalize u%2+u/2%2+u/4%2+u/8%2+u/16%2+u/32%2+u/64%2+u/128%2=t
 unfold eqI
 rw[Bool.eq_iff_iff,decide_eq_true_eq,beq_iff_eq]
 omega
theorem mA {v:Int}{n:Nat}(hn:bX (n:Int)=true)(hv:I64 v):cq (((n:Int),(v,())),())=some (uw n v,()):=by
 obtain⟨h1,h8⟩:=di hn
 unfold cq
 dsimp only
 refine(Ret.iter (fun x=>∃k:Nat,k≤8∧x=(((n:Int),(v,(((tX (uns v) k:Nat):Int),((k:Int),())))),())) (fun x=>8-x.1.2.2.2.1.toNat) ?_ F _ ⟨0,by omega,rfl⟩ (by unfold F;dsimp only;omega)).eq
 rintro _ rec ⟨k,hk,rfl⟩ hrec
 dsimp only at hrec⊢
 by_cases h:k<8
 ·rw[ah (gY (by omega)),yC _ _ (by omega),aa]
  dsimp only
  have:=Ct (uns v) k
  rw[bS (by omega) (by omega),bS (a:=(k:Int)) (by omega) (by omega)]
  exact hrec _ ⟨k+1,by omega,by
   rw[show tX (uns v) (k+1)=tX (uns v) k+uns v/2^k%2 from rfl,Int.natCast_add]
   rfl⟩ (by dsimp only;omega)
 ·obtain rfl:k=8:=by omega
  rw[aw (gA (by omega)),eI (a:=8) (by omega) (by omega),eu (by omega) (by omega),show 8*(n:Int)-1=((8*n-1:Nat):Int)by omega,yC _ _ (by omega),aa]
  dsimp only
  rw[AO,jm,aa,bj hv n hn,aa]
  dsimp only
  rw[jm,aa]
  dsimp only
  rw[z8,jm,aa]
  refine Ret.some ?_
  unfold uw
  simp only[dj]
end Go.Den.G
namespace Go.Den.G
open Go.Den
set_option maxRecDepth 100000
theorem bitOr {out i b:Nat}(h:out<2^i)(hb:b≤1)(hi:i≤63):ior .u64 (out:Int) (cH .u64 (b:Int) (i:Int))=((out+2^i*b:Nat):Int):=by
 have hp:2^(i+1)≤2^64:=Nat.pow_le_pow_right (by decide) (by omega)
 have hl:b*2^i<2^64:=by
  have:b*2^i≤1*2^i:=Nat.mul_le_mul_right _ hb
  rw[Nat.pow_succ]at hp
  have:=Nat.two_pow_pos i
  omega
 have hs:out+2^i*b<2^64:=by
  have:2^i*b≤2^i*1:=Nat.mul_le_mul_left _ hb
  rw[Nat.pow_succ]at hp
  omega
 rw[DL (by omega),Nat.mod_eq_of_lt hl]
 unfold ior
 rw[ez]
 have e1:(BitVec.ofInt IntKind.u64.bits (out:Int)|||BitVec.ofInt IntKind.u64.bits ((b*2^i:Nat):Int)).toNat=out|||b*2^i:=by
  rw[BitVec.toNat_or]
  show(BitVec.ofInt 64 (out:Int)).toNat|||(BitVec.ofInt 64 ((b*2^i:Nat):Int)).toNat=_
  have hh:∀k:Nat,k<2^64→(BitVec.ofInt 64 (k:Int)).toNat=k:=fun k hk=>by
   rw[BitVec.toNat_ofInt]
   have:((k:Int)%((2^64:Nat):Int))=((k%2^64:Nat):Int):=(Int.natCast_emod ..).symm
   rw[this,Int.toNat_natCast,Nat.mod_eq_of_lt hk]
  rw[hh _ (by omega),hh _ hl]
 rw[e1,Nat.or_comm,Nat.mul_comm b,←Nat.two_pow_add_eq_or_of_lt h,Nat.add_comm]
 have:((out+2^i*b:Nat):Int)<((2^64:Nat):Int):=Int.ofNat_lt.2 hs
 exact Int.emod_eq_of_lt (by omega) this
theorem r8 {i n:Nat}(h:i≤8*n)(v:Int):bV v n%2^i=uns v%2^i:=by
 unfold bV
 exact Nat.mod_mod_of_dvd _ (Nat.pow_dvd_pow 2 h)
theorem jL {a b:Int}{n c:Nat}(less:Bool)(hn:bX (n:Int)=true)(hc:c≤1):
  bH (((n:Int),(a,(b,((c:Int),(less,()))))),())=some (((if less=true then q8 n a b c else sE n a b c).1,((if less=true then q8 n a b c else sE n a b c).2,())),()):=by
 obtain⟨h1,h8⟩:=di hn
 unfold bH
 dsimp only
 refine(Ret.iter (fun x=>∃i out c' into:Nat,i≤8*n∧(if less=true then SubInv (uns a) (uns b) c i out c' else AddInv (uns a) (uns b) c i out c')∧
   (∀j,i=j+1→∃out',if less=true then SubInv (uns a) (uns b) c j out' into else AddInv (uns a) (uns b) c j out' into)∧
   x=(((n:Int),(a,(b,(less,((out:Int),((c':Int),((into:Int),((i:Int),())))))))),())) (fun x=>8*n-(p7 x.1).toNat) ?_ F _ ⟨0,0,c,0,by omega,by cases less;exact AddInv.init hc;exact SubInv.init hc,fun j hj=>by omega,rfl⟩ (by unfold F;dsimp only[p7];omega)).eq
 rintro _ rec ⟨i,out,c',into,hi,hv,hin,rfl⟩ hrec
 dsimp only[p5,p6,p7,p8,d7]at hrec⊢
 rw[eI (a:=8) (by omega) (by omega)]
 by_cases h:i<8*n
 ·rw[ah (gY (by omega)),yC _ _ (by omega),yC _ _ (by omega),aa,aa]
  dsimp only
  have hx:=nM (uns a) i
  have hy:=nM (uns b) i
  have hwi:ak .u64 (i:Int)=(i:Int):=cr (by omega) (by omega)
  have next:∀(d k:Nat),d≤1→k≤1→(if less=true then SubInv (uns a) (uns b) c (i+1) (out+2^i*d) k else AddInv (uns a) (uns b) c (i+1) (out+2^i*d) k)→
    Ret (br (leI 0 (ak .u64 (i:Int))) (rec (((n:Int),(a,(b,(less,((ior .u64 (out:Int) (cH .u64 (ak .u64 (d:Int)) (ak .u64 (i:Int)))),((k:Int),((c':Int),((ax .i64 (i:Int) 1),())))))))),())) none) (fun z=>z=(((if less=true then q8 n a b c else sE n a b c).1,((if less=true then q8 n a b c else sE n a b c).2,())),())):=fun d k hd hk hinv=>by
   have hwd:ak .u64 (d:Int)=(d:Int):=cr (by omega) (by omega)
   have hlo:out<2^i:=by cases less;exact hv.lo;exact hv.lo
   rw[hwi,hwd,ah (fv (by omega)),bitOr hlo hd (by omega),bS (by omega) (by omega)]
   exact hrec _ ⟨i+1,_,k,c',by omega,hinv,fun j hj=>by
    obtain rfl:j=i:=by omega
    exact⟨out,hv⟩,rfl⟩ (by dsimp only;omega)
  cases less with
  |true=>
   rw[aR,tG,aa,aa,ar]
   have hv:SubInv (uns a) (uns b) c i out c':=hv
   have hc':=hv.hc
   have st:=hv.step
   obtain⟨x,hx'⟩:∃x,x=uns a/2^i%2:=⟨_,rfl⟩
   obtain⟨y,hy'⟩:∃y,y=uns b/2^i%2:=⟨_,rfl⟩
   rw[←hx']at hx st⊢
   rw[←hy']at hy st⊢
   have e1:ax .i64 (aM .i64 (aM .i64 (x:Int) (y:Int)) (c':Int)) 2=((x+2-y-c':Nat):Int):=by
    rw[eu (a:=(x:Int)) (b:=(y:Int)) (by omega) (by omega),eu (by omega) (by omega),bS (by omega) (by omega)];omega
   rw[e1,iG (by omega)]
   have e2:((x+2-y-c':Nat):Int)%2=(((x+2-y-c')%2:Nat):Int):=by omega
   have e3:(if ltI ((x+2-y-c':Nat):Int) 2=true then(1:Int)else 0)=((if x+2-y-c'<2 then 1 else 0:Nat):Int):=by
    by_cases g:x+2-y-c'<2
    ·rw[gY (by omega),if_pos rfl,if_pos g];rfl
    ·rw[gA (by omega),if_neg (by decide),if_neg g];rfl
   dsimp only
   rw[e2,e3]
   exact next _ _ (by omega) (by split<;>omega) st
  |false=>
   rw[ap,aa,ar]
   have hv:AddInv (uns a) (uns b) c i out c':=hv
   have hc':=hv.hc
   have st:=hv.step
   obtain⟨x,hx'⟩:∃x,x=uns a/2^i%2:=⟨_,rfl⟩
   obtain⟨y,hy'⟩:∃y,y=uns b/2^i%2:=⟨_,rfl⟩
   rw[←hx']at hx st⊢
   rw[←hy']at hy st⊢
   have e1:ax .i64 (ax .i64 (x:Int) (y:Int)) (c':Int)=((x+y+c':Nat):Int):=by
    rw[bS (a:=(x:Int)) (b:=(y:Int)) (by omega) (by omega),bS (by omega) (by omega)];omega
   rw[e1,iG (by omega),mK (by omega) (by decide) (by omega)]
   have e2:((x+y+c':Nat):Int)%2=(((x+y+c')%2:Nat):Int):=by omega
   have e3:((x+y+c':Nat):Int)/2=(((x+y+c')/2:Nat):Int):=by omega
   dsimp only
   rw[e2,e3]
   exact next _ _ (by omega) (by omega) st
 ·obtain rfl:i=8*n:=by omega
  obtain⟨out',hin⟩:=hin (8*n-1) (by omega)
  rw[aw (gA (by omega))]
  have hV:ak .i64 (out:Int)=(if less=true then Da n a b c else sumV n a b c):=by
   cases less with
   |true=>
    have hv:SubInv (uns a) (uns b) c (8*n) out c':=hv
    rw[if_pos rfl]
    unfold Da lB ak
    have:=hv.fin.1
    unfold bV
    rw[←this,Nat.mod_eq_of_lt hv.lo]
   |false=>
    have hv:AddInv (uns a) (uns b) c (8*n) out c':=hv
    rw[if_neg (by decide)]
    unfold sumV lB ak
    have:=hv.fin.1
    unfold bV
    rw[←this]
  have hC:eqI (c':Int) 1=(if less=true then subC n a b c else sumC n a b c):=by
   cases less with
   |true=>
    have hv:SubInv (uns a) (uns b) c (8*n) out c':=hv
    rw[if_pos rfl]
    unfold subC bV eqI
    have:=hv.fin.2
    rw[Bool.eq_iff_iff,decide_eq_true_eq,decide_eq_true_eq]
    by_cases g:uns a%2^(8*n)<uns b%2^(8*n)+c
    ·rw[if_pos g]at this;omega
    ·rw[if_neg g]at this;omega
   |false=>
    have hv:AddInv (uns a) (uns b) c (8*n) out c':=hv
    rw[if_neg (by decide)]
    unfold sumC bV eqI
    rw[←hv.fin.2,Bool.eq_iff_iff,decide_eq_true_eq,decide_eq_true_eq]
    omega
  have hT:eqI (into:Int) 1=(if less=true then Aw n a b c else sumI n a b c)∧into≤1:=by
   cases less with
   |true=>
    have hin:SubInv (uns a) (uns b) c (8*n-1) out' into:=hin
    refine⟨?_,hin.hc⟩
    rw[if_pos rfl]
    unfold Aw eqI
    rw[r8 (by omega),r8 (by omega)]
    have:=hin.fin.2
    rw[Bool.eq_iff_iff,decide_eq_true_eq,decide_eq_true_eq]
    by_cases g:uns a%2^(8*n-1)<uns b%2^(8*n-1)+c
    ·rw[if_pos g]at this;omega
    ·rw[if_neg g]at this;omega
   |false=>
    have hin:AddInv (uns a) (uns b) c (8*n-1) out' into:=hin
    refine⟨?_,hin.hc⟩
    rw[if_neg (by decide)]
    unfold sumI eqI
    rw[r8 (by omega),r8 (by omega),←hin.fin.2,Bool.eq_iff_iff,decide_eq_true_eq,decide_eq_true_eq]
    omega
  have hc':c'≤1:=by cases less;exact hv.hc;exact hv.hc
  have hne:aX (eqI (c':Int) (into:Int))=(eqI (c':Int) 1 != eqI (into:Int) 1):=by
   have:=hT.2
   rw[neI]
   have a1:c'=0∨c'=1:=by omega
   have a2:into=0∨into=1:=by omega
   rcases a1 with rfl|rfl<;>rcases a2 with rfl|rfl<;>rfl
  rw[hV,mA hn (by split<;>exact jk _ _),aa,jm,aa,hne,hC,hT.1,jm,aa]
  dsimp only
  refine Ret.some ?_
  cases less with
  |true=>rfl
  |false=>rfl
end Go.Den.G
namespace Go.Den.G
open Go.Den
set_option maxRecDepth 100000
theorem so {a b:Int}{n c:Nat}(hn:bX (n:Int)=true)(ha:I64 a)(hb:I64 b):sE n (bL a n) (bL b n) c=sE n a b c:=by
 unfold sE sumV sumC sumI
 rw[ll ha hn,ll hb hn]
theorem om {a b:Int}{n c:Nat}(hn:bX (n:Int)=true)(ha:I64 a)(hb:I64 b):q8 n (bL a n) (bL b n) c=q8 n a b c:=by
 unfold q8 Da subC Aw
 rw[ll ha hn,ll hb hn]
theorem tO {v w:Int}{n:Nat}(hn:bX (n:Int)=true)(hv:I64 v)(hw:I64 w)(h:bV v n=bV w n):bL v n=bL w n:=by rw[gM hv hn,gM hw hn,h]
theorem rb {v w:Int}{n:Nat}(hn:bX (n:Int)=true)(hv:I64 v)(hw:I64 w)(h:bV v n=bV w n):uw n v=uw n w:=by
 obtain⟨h1,h8⟩:=di hn
 unfold uw
 rw[iC (n:=n) (by omega),iC (v:=w) (n:=n) (by omega),h,tO hn hv hw h]
 have hp:CS v=CS w:=by
  unfold CS
  have e:∀v:Int,uns v%256=bV v n%256:=fun v=>by
   unfold bV
   rw[Nat.mod_mod_of_dvd _ (show 256∣2^(8*n)from by
    have:=Nat.pow_dvd_pow 2 (show 8≤8*n by omega)
    exact this)]
  rw[e v,e w,h]
 rw[hp]
theorem Db {v:Int}{n:Nat}(hn:bX (n:Int)=true)(hv:I64 v):uw n (bL v n)=uw n v:=rb hn (dR hv hn) hv (ll hv hn)
theorem ly (op a b:Int):I64 (kk op a b):=by
 unfold kk
 split
 ·exact jv ..
 split
 ·exact mf ..
 ·exact aD _
theorem wW {op a b:Int}{n:Nat}(hn:bX (n:Int)=true)(ha:I64 a)(hb:I64 b):bV (kk op (bL a n) (bL b n)) n=bV (kk op a b) n∧bV (kk op a b) n=uns (kk op (bL a n) (bL b n)):=by
 have h8:=(di hn).2
 have hlt:∀v,bV v n%2^(8*n)=bV v n:=fun v=>Nat.mod_eq_of_lt (fQ v n)
 have key:bV (kk op a b) n=uns (kk op (bL a n) (bL b n)):=by
  unfold kk
  split
  ·rw[kR,cf ha hn,cf hb hn]
   unfold bV
   rw[kR,Nat.or_mod_two_pow]
  split
  ·rw[ot,cf ha hn,cf hb hn]
   unfold bV
   rw[ot,Nat.xor_mod_two_pow]
  ·rw[oo,cf ha hn,cf hb hn]
   unfold bV
   rw[oo,Nat.and_mod_two_pow]
 refine⟨?_,key⟩
 show uns (kk op (bL a n) (bL b n))%2^(8*n)=_
 rw[←key,hlt]
theorem uC {op a b:Int}{n:Nat}(hn:bX (n:Int)=true)(ha:I64 a)(hb:I64 b):bL (kk op a b) n=kk op (bL a n) (bL b n):=by
 refine iw (dR (ly ..) hn) (ly ..) ?_
 rw[cf (ly ..) hn,(wW hn ha hb).2]
theorem xI (op a b:Int):fb ((op,(a,(b,()))),())=some (kk op a b,()):=by
 unfold fb kk
 dsimp only
 by_cases h2:op=2
 ·rw[bn h2,aR,if_pos h2]
 ·rw[aG h2,ap,if_neg h2]
  by_cases h7:op=7
  ·rw[bn h7,aR,if_pos h7]
  ·rw[aG h7,ap,if_neg h7]
theorem zw {op a b f:Int}{n:Nat}(hn:bX (n:Int)=true)(ha:I64 a)(hb:I64 b):fH ((op,((n:Int),(a,(b,(f,()))))),())=some (((uK op n a b f).1,((uK op n a b f).2,())),()):=by
 unfold fH uK
 dsimp only
 have hf:dl .i64 f 1=(((f%2).toNat:Nat):Int):=tu f
 have hc:(f%2).toNat≤1:=by omega
 have add0:=jL (a:=a) (b:=b) (c:=0) false hn (by decide)
 have addc:=jL (a:=a) (b:=b) (c:=(f%2).toNat) false hn hc
 have sub0:=jL (a:=a) (b:=b) (c:=0) true hn (by decide)
 have subc:=jL (a:=a) (b:=b) (c:=(f%2).toNat) true hn hc
 rw[if_neg (by decide)]at add0 addc
 rw[if_pos rfl]at sub0 subc
 have z0:((0:Nat):Int)=0:=rfl
 rw[z0]at add0 sub0
 rw[so hn ha hb,so hn ha hb,om hn ha hb,om hn ha hb,hf]
 by_cases h1:op=1
 ·rw[bn h1,aR,if_pos h1,add0,aa]
 rw[aG h1,ap,if_neg h1]
 by_cases h3:op=3
 ·rw[bn h3,aR,if_pos h3,addc,aa]
 rw[aG h3,ap,if_neg h3]
 by_cases h6:op=6
 ·rw[bn h6,aR,if_pos h6,sub0,aa]
 rw[aG h6,ap,if_neg h6]
 by_cases h4:op=4
 ·rw[bn h4,aR,if_pos h4,subc,aa]
 rw[aG h4,ap,if_neg h4]
 by_cases h8:op=8
 ·rw[bn h8,aR,if_pos h8,sub0,aa,bj ha n hn,aa]
 rw[aG h8,ap,if_neg h8]
 by_cases h10:op=10
 ·rw[bn h10,aR,if_pos h10,bj ha n hn,aa,mA (v:=dl .i64 a b) hn (aD _),aa]
  have e:=rb (v:=dl .i64 a b) (w:=dl .i64 (bL a n) (bL b n)) hn (aD _) (aD _) (wW (op:=0) hn ha hb).1.symm
  dsimp only
  rw[e]
 rw[aG h10,ap,if_neg h10,xI,aa]
 dsimp only
 rw[bj (ly ..) n hn,aa,mA hn (ly ..),aa]
 dsimp only
 rw[uC hn ha hb,←Db hn (ly op a b),uC hn ha hb]
theorem not_low {a:Int}{n:Nat}(hn:bX (n:Int)=true)(ha:I64 a):bL (uF .i64 a) n=bL (uF .i64 (bL a n)) n:=by
 have hi:∀v,I64 (uF .i64 v):=fun v=>mf ..
 refine tO hn (hi _) (hi _) ?_
 obtain⟨K,hK⟩:∃K,K=uns (-1):=⟨_,rfl⟩
 have hu:∀v,uns (uF .i64 v)=K ^^^uns v:=fun v=>by
  rw[hK]
  exact ot (-1) v
 unfold bV
 rw[hu,hu,Nat.xor_mod_two_pow,Nat.xor_mod_two_pow,cf ha hn]
 unfold bV
 rw[Nat.mod_mod]
theorem zx {op a f:Int}{n:Nat}(hn:bX (n:Int)=true)(ha:I64 a):fJ ((op,((n:Int),(a,(f,())))),())=some (((vA op n a f).1,((vA op n a f).2,())),()):=by
 unfold fJ vA
 dsimp only
 have neg:=jL (a:=0) (b:=a) (c:=0) true hn (by decide)
 have inc:=fun l=>jL (a:=a) (b:=1) (c:=0) l hn (by decide)
 rw[if_pos rfl,show((0:Nat):Int)=0 from rfl]at neg
 have l1:bL 1 n=1:=(vm hn).1
 have l0:bL 0 n=0:=(zM hn).1
 have i1:I64 1:=by unfold I64;omega
 have i0:I64 0:=by unfold I64;omega
 have e1:=om (c:=0) hn i0 ha
 have e2:=om (c:=0) hn ha i1
 have e3:=so (c:=0) hn ha i1
 rw[l0]at e1
 rw[l1]at e2 e3
 rw[e1,e2,e3]
 by_cases h11:op=11
 ·rw[bn h11,aR,if_pos h11,bj (v:=uF .i64 a) (mf ..) n hn,aa]
  dsimp only
  rw[not_low hn ha]
 rw[aG h11,ap,if_neg h11]
 by_cases h12:op=12
 ·rw[bn h12,aR,if_pos h12,neg,aa]
 rw[aG h12,ap,if_neg h12]
 have hI:bH (((n:Int),(a,(1,(0,(eqI op 19,()))))),())=_:=inc (eqI op 19)
 rw[hI,aa]
 by_cases h19:op=19
 ·rw[bn h19,if_pos h19,if_pos rfl]
  rfl
 ·rw[aG h19,if_neg h19,if_neg (by decide)]
  rfl
end Go.Den.G
namespace Go.Den.G
open Go.Den
set_option maxRecDepth 100000
theorem fZ (x:Int):I64 (ak .i64 x):=aD _
theorem xorB (v w:Int)(k j:Nat):eqI (oX .i64 ((uns v/2^k%2:Nat):Int) ((uns w/2^j%2:Nat):Int)) 1=(jY v k != jY w j):=by
 rw[←AO v k,←AO w j]
 rcases nM (uns v) k with h|h<;>rcases nM (uns w) j with g|g<;>rw[h,g]<;>rfl
theorem topU {a:Int}{n:Nat}(h1:1≤n):bV a n/2^(8*n-1)=uns a/2^(8*n-1)%2:=by
 unfold bV
 have h:2^(8*n)=2^(8*n-1)*2:=by rw[←Nat.pow_succ,show(8*n-1).succ=8*n by omega]
 rw[h,Nat.mod_mul_right_div_self]
theorem lowbit {a:Int}{n:Nat}(h1:1≤n):bV a n%2=uns a/2^0%2:=by
 unfold bV
 rw[Nat.pow_zero,Nat.div_one]
 exact Nat.mod_mod_of_dvd _ (by
  have:=Nat.pow_dvd_pow 2 (show 1≤8*n by omega)
  exact this)
theorem wN {a:Int}{n:Nat}(hn:bX (n:Int)=true):uns (bL (ak .i64 (cH .u64 (ak .u64 a) 1)) n)=(2*bV a n)%2^(8*n):=by
 obtain⟨h1,h8⟩:=di hn
 rw[cf (fZ _) hn,dP]
 unfold bV ak
 rw[bM,show(1:Int)=((1:Nat):Int)from rfl,DL (by decide),ew (Nat.mod_lt _ (by decide))]
 have hd:2^(8*n)∣18446744073709551616:=Nat.pow_dvd_pow 2 (show 8*n≤64 by omega)
 rw[Nat.mod_mod_of_dvd _ hd,Nat.pow_one,Nat.mul_comm (uns a) 2]
 rw[Nat.mul_mod 2 (uns a%2^(8*n)),Nat.mod_mod,←Nat.mul_mod]
theorem wP {a:Int}{n:Nat}(hn:bX (n:Int)=true)(ha:I64 a):ci .u64 (ak .u64 (bL a n)) 1=((bV a n/2:Nat):Int):=by
 rw[dP,cf ha hn,show(1:Int)=((1:Nat):Int)from rfl,yb (by decide),Nat.pow_one]
theorem wl {a:Int}{n:Nat}(h1:1≤n):bV a n/2<2^(8*n-1):=by
 have h:=fQ a n
 rw[show 8*n=8*n-1+1 by omega,Nat.pow_succ]at h
 generalize bV a n=u at*
 omega
theorem mE {op:Int}{n:Nat}(hn:bX (n:Int)=true){a v:Int}(hv:I64 v)(h:uns v=tW op (8*n) (bV a n)):v=il op n a:=by
 refine iw hv (fq ..) ?_
 rw[h,ja _ hn]
theorem xH {op a f:Int}{n:Nat}(hop:20≤op∧op≤24)(hn:bX (n:Int)=true)(ha:I64 a):
  fa ((op,((n:Int),(a,(f,())))),())=some (((pD op n a f).1,((pD op n a f).2,())),()):=by
 obtain⟨h1,h8⟩:=di hn
 unfold fa
 dsimp only
 have e8:aM .i64 (bf .i64 8 (n:Int)) 1=((8*n-1:Nat):Int):=by
  rw[eI (a:=8) (by omega) (by omega),eu (by omega) (by omega)];omega
 have e7:aM .i64 ((8*n-1:Nat):Int) 1=((8*n-2:Nat):Int):=by
  rw[eu (by omega) (by omega)];omega
 have w8:ak .u64 ((8*n-1:Nat):Int)=((8*n-1:Nat):Int):=cr (by omega) (by omega)
 have b0:aS ((a,(0,())),())=some (((uns a/2^0%2:Nat):Int),()):=yC a 0 (by decide)
 rw[e8,yC _ _ (by omega),aa,b0,aa]
 dsimp only
 have hwb:∀x:Nat,x%2=x→ak .u64 (x:Int)=(x:Int):=fun x hx=>cr (by omega) (by omega)
 refine(Ret.bnd (Q:=fun y=>∃c o:Int,y=Sum.inl ((op,((n:Int),(f,(il op n a,(c,(o,())))))),())∧eqI c 1=vw op n a∧eqI o 1=vz op n a) ?_ ?_).eq
 ·by_cases h20:op=20
  ·subst h20
   rw[bn rfl,aR,bj (fZ _) n hn,aa]
   dsimp only
   have hV:ior .i64 (bL (ak .i64 (cH .u64 (ak .u64 a) 1)) n) ((uns a/2^(8*n-1)%2:Nat):Int)=il 20 n a:=by
    refine mE hn (jv ..) ?_
    rw[kR,wN hn,ew (by have:=nM (uns a) (8*n-1);omega)]
    unfold tW
    rw[if_pos rfl,topU h1]
    have hev:(2*bV a n)%2^(8*n)%2=0:=by
     rw[Nat.mod_mod_of_dvd _ (by
      have:=Nat.pow_dvd_pow 2 (show 1≤8*n by omega)
      exact this)]
     omega
    have:=DF hev (decide (uns a/2^(8*n-1)%2=1))
    rcases nM (uns a) (8*n-1)with h|h
    ·rw[h]at this⊢;simp
    ·rw[h]at this⊢;simpa using this
   rw[hV,yC _ _ (by omega),aa]
   exact Ret.some ⟨_,_,rfl,by rw[AO];rfl,by rw[xorB];rfl⟩
  rw[aG h20,ap]
  refine Ret.bnd (Q:=fun y=>∃c o:Int,y=Sum.inl ((op,((n:Int),(f,(il op n a,(c,(o,())))))),())∧eqI c 1=vw op n a∧eqI o 1=vz op n a) ?_ (by rintro _ ⟨c,o,rfl,g⟩;rw[ar];exact Ret.some ⟨c,o,rfl,g⟩)
  by_cases h22:op=22
  ·subst h22
   rw[bn rfl,aR,bj (fZ _) n hn,aa]
   dsimp only
   have hV:bL (ak .i64 (cH .u64 (ak .u64 a) 1)) n=il 22 n a:=by
    refine mE hn (dR (fZ _) hn) ?_
    rw[wN hn]
    rfl
   rw[hV,yC _ _ (by omega),aa]
   exact Ret.some ⟨_,_,rfl,by rw[AO];rfl,by rw[xorB];rfl⟩
  rw[aG h22,ap]
  refine Ret.bnd (Q:=fun y=>∃c o:Int,y=Sum.inl ((op,((n:Int),(f,(il op n a,(c,(o,())))))),())∧eqI c 1=vw op n a∧eqI o 1=vz op n a) ?_ (by rintro _ ⟨c,o,rfl,g⟩;rw[ar];exact Ret.some ⟨c,o,rfl,g⟩)
  have hjoin:∀x:Nat,x≤1→ak .i64 (ior .u64 (ci .u64 (ak .u64 (bL a n)) 1) (cH .u64 (ak .u64 (x:Int)) ((8*n-1:Nat):Int)))=IntKind.wrap .i64 ((bV a n/2+2^(8*n-1)*x:Nat):Int)∧uns (IntKind.wrap .i64 ((bV a n/2+2^(8*n-1)*x:Nat):Int))=bV a n/2+x*2^(8*n-1):=fun x hx=>by
   refine⟨?_,?_⟩
   ·rw[wP hn ha,cr (by omega) (by omega),bitOr (wl h1) hx (by omega)]
    rfl
   ·rw[bM,Nat.mul_comm x,ew]
    have hp:2^(8*n-1+1)≤2^64:=Nat.pow_le_pow_right (by decide) (by omega)
    have:=wl (a:=a) h1
    have:2^(8*n-1)*x≤2^(8*n-1)*1:=Nat.mul_le_mul_left _ hx
    rw[Nat.pow_succ]at hp
    omega
  by_cases h21:op=21
  ·subst h21
   rw[bn rfl,aR,bj ha n hn,aa]
   dsimp only
   obtain⟨j1,j2⟩:=hjoin (uns a/2^0%2) (by omega)
   rw[w8,ah (fv (by omega)),j1]
   have hV:IntKind.wrap .i64 ((bV a n/2+2^(8*n-1)*(uns a/2^0%2):Nat):Int)=il 21 n a:=by
    refine mE hn (aD _) ?_
    rw[j2,←lowbit h1]
    rfl
   rw[hV,yC _ _ (by omega),aa,e7,yC _ _ (by omega),aa]
   exact Ret.some ⟨_,_,rfl,by rw[AO];rfl,by rw[xorB];rfl⟩
  rw[aG h21,ap]
  refine Ret.bnd (Q:=fun y=>∃c o:Int,y=Sum.inl ((op,((n:Int),(f,(il op n a,(c,(o,())))))),())∧eqI c 1=vw op n a∧eqI o 1=vz op n a) ?_ (by rintro _ ⟨c,o,rfl,g⟩;rw[ar];exact Ret.some ⟨c,o,rfl,g⟩)
  by_cases h23:op=23
  ·subst h23
   rw[bn rfl,aR,bj ha n hn,aa]
   dsimp only
   have hV:ak .i64 (ci .u64 (ak .u64 (bL a n)) 1)=il 23 n a:=by
    refine mE hn (aD _) ?_
    rw[wP hn ha]
    unfold ak
    rw[bM,ew]
    ·rfl
    ·have:=dQ a
     have:bV a n≤uns a:=Nat.mod_le _ _
     omega
   rw[hV]
   exact Ret.some ⟨_,_,rfl,by rw[AO];rfl,by rw[AO];rfl⟩
  ·have h24:op=24:=by omega
   subst h24
   rw[aG (by decide),ap,bj ha n hn,aa]
   dsimp only
   obtain⟨j1,j2⟩:=hjoin (uns a/2^(8*n-1)%2) (by omega)
   rw[w8,ah (fv (by omega)),j1]
   have hV:IntKind.wrap .i64 ((bV a n/2+2^(8*n-1)*(uns a/2^(8*n-1)%2):Nat):Int)=il 24 n a:=by
    refine mE hn (aD _) ?_
    rw[j2,←topU h1]
    rfl
   rw[hV]
   exact Ret.some ⟨_,_,rfl,by rw[AO];rfl,rfl⟩
 rintro _ ⟨c,o,rfl,hC,hO⟩
 rw[ar]
 dsimp only[p5]
 have hbr:br (aX (eqI op 20)) (some (aX (eqI op 21))) (some false)=some (decide (¬(op=20∨op=21))):=by
  by_cases a8:op=20
  ·rw[bn a8,cc,ap,decide_eq_false (by omega)]
  ·rw[aG a8,dp,aR]
   by_cases a10:op=21
   ·rw[bn a10,cc,decide_eq_false (by omega)]
   ·rw[aG a10,dp,decide_eq_true (by omega)]
 rw[hbr,aa]
 refine Ret.bnd (Q:=fun y=>y=Sum.inl ((il op n a,(c,(o,(xP op n a f,())))),())) ?_ ?_
 ·unfold xP
  by_cases hk:op=20∨op=21
  ·rw[decide_eq_false (by omega),ap,if_pos hk]
   exact Ret.some rfl
  ·rw[decide_eq_true hk,aR,if_neg hk,mA hn (fq ..),aa]
   exact Ret.some rfl
 rintro _ rfl
 rw[ar]
 dsimp only
 rw[jm,aa,jm,aa,hC,hO]
 exact Ret.some rfl
end Go.Den.G
namespace Go.Den.G
open Go.Den
set_option maxRecDepth 100000
theorem xD (op:Int)(n k:Nat)(x:Int×Int):oW op n (k+1) x=oW op n k (pD op n x.1 x.2):=rfl
theorem vj {op a k f:Int}{n:Nat}(hop:20≤op∧op≤24)(hn:bX (n:Int)=true)(ha:I64 a):
  ee ((op,((n:Int),(a,(k,(f,()))))),())=some (((ip op n a k f).1,((ip op n a k f).2,())),()):=by
 obtain⟨h1,h8⟩:=di hn
 unfold ee ip
 dsimp only
 have hk:=bc k
 have hku:=dQ k
 have hcnt:∀m:Int,m=64∨m=32→ak .i64 (io (ak .u64 k) m)=k%m:=fun m hm=>by
  rw[dP,iG (by omega)]
  have:((uns k:Nat):Int)%m=k%m:=by
   rw[hk,show(2:Int)^64=18446744073709551616 from rfl]
   rcases hm with rfl|rfl<;>omega
  rw[this]
  exact dm (by unfold I64;rcases hm with rfl|rfl<;>omega)
 refine(Ret.bnd (Q:=fun y=>y=Sum.inl ((op,((n:Int),(a,(f,(((vL n k:Nat):Int),()))))),())) ?_ ?_).eq
 ·unfold vL
  by_cases h:n=8
  ·rw[bn (show(n:Int)=8 by omega),aR,hcnt 64 (.inl rfl),if_pos h]
   exact Ret.some (by rw[show k%64=(((k%64).toNat:Nat):Int)by omega];rfl)
  ·rw[aG (show(n:Int)≠8 by omega),ap,hcnt 32 (.inr rfl),if_neg h]
   exact Ret.some (by rw[show k%32=(((k%32).toNat:Nat):Int)by omega];rfl)
 rintro _ rfl
 rw[ar]
 dsimp only
 rw[bj ha n hn,aa]
 have hN:vL n k<64:=by unfold vL;split<;>omega
 obtain⟨N,hNe⟩:∃N,N=vL n k:=⟨_,rfl⟩
 rw[←hNe]at hN⊢
 refine Ret.iter (fun x=>∃(i:Nat) (v g:Int),i≤N∧I64 v∧oW op n (N-i) (v,g)=oW op n N (bL a n,f)∧x=((op,((n:Int),(g,((N:Int),(v,((i:Int),())))))),())) (fun x=>N-(p5 x.1).toNat) ?_ F _ ⟨0,_,f,by omega,dR ha hn,rfl,rfl⟩ (by unfold F;dsimp only[p5];omega)
 rintro _ rec ⟨i,v,g,hi,hv,he,rfl⟩ hrec
 dsimp only[p5]at hrec⊢
 by_cases h:i<N
 ·rw[ah (gY (by omega)),xH hop hn hv,aa]
  dsimp only
  rw[bS (by omega) (by omega)]
  exact hrec _ ⟨i+1,_,_,by omega,fq ..,by
   rw[show N-i=N-(i+1)+1 by omega,xD]at he
   exact he,rfl⟩ (by dsimp only;omega)
 ·obtain rfl:i=N:=by omega
  rw[aw (gA (by omega))]
  rw[Nat.sub_self]at he
  refine Ret.some ?_
  rw[←he]
  rfl
theorem BQ (x:Int):cH .u64 x 1=x*2%18446744073709551616:=wO x 1 (by decide)
theorem zo (x:Int):ci .u64 x 63=x/9223372036854775808:=pT x 63 (by decide)
theorem xF {a b:Nat}(ha:a<18446744073709551616)(hb:b<18446744073709551616):
  c9 (((a:Int),((b:Int),())),())=some ((((a*b/18446744073709551616:Nat):Int),(((a*b%18446744073709551616:Nat):Int),())),()):=by
 unfold c9
 dsimp only
 refine(Ret.iter (fun x=>∃(k:Nat) (h l:Int),k≤64∧WideInv a b k h l∧x=(((a:Int),((b:Int),(h,(l,(((k:Int)-1),()))))),())) (fun x=>(x.1.2.2.2.2.1+1).toNat) ?_ F _ ⟨64,0,0,by omega,WideInv.init hb,rfl⟩ (by unfold F;dsimp only;omega)).eq
 rintro _ rec ⟨k,h,l,hk,hw,rfl⟩ hrec
 dsimp only at hrec⊢
 cases k with
 |zero=>
  rw[aw (jy (by omega))]
  obtain⟨e1,e2⟩:=hw.fin
  exact Ret.some (by rw[e1,e2])
 |succ k=>
  have ek:((k+1:Nat):Int)-1=(k:Int):=by omega
  rw[ek]at hrec⊢
  have hwk:ak .u64 (k:Int)=(k:Int):=cr (by omega) (by omega)
  rw[ah (fv (by omega)),hwk,ah (fv (by omega)),yb (by omega),iG (Int.natCast_nonneg _),BQ,BQ,zo]
  have hbit:((b/2^k:Nat):Int)%2=((b/2^k%2:Nat):Int):=(Int.natCast_emod _ 2).symm
  rw[hbit,yq,yq,yq]
  have hx:(h*2%18446744073709551616+l/9223372036854775808)%18446744073709551616=(h*2+l/9223372036854775808)%18446744073709551616:=by omega
  have hx1:((h*2%18446744073709551616+l/9223372036854775808)%18446744073709551616+1)%18446744073709551616=((h*2+l/9223372036854775808)%18446744073709551616+1)%18446744073709551616:=by omega
  refine Ret.bnd (Q:=fun y=>∃h' l',WideInv a b k h' l'∧y=Sum.inl (((a:Int),((b:Int),(h',(l',((k:Int),()))))),())) ?_ ?_
  ·rcases nM b k with h0|h0
   ·rw[h0,aw (by rfl)]
    exact Ret.some ⟨_,_,hw.step0 ha hb h0,by rw[hx]⟩
   ·rw[h0,ah (by rfl)]
    have hst:=hw.step1 ha hb h0 (h':=(h*2+l/9223372036854775808)%18446744073709551616) (l':=l*2%18446744073709551616) rfl rfl
    refine Ret.bnd (Q:=fun y=>∃h' l',WideInv a b k h' l'∧y=Sum.inl (((a:Int),((b:Int),(h',(l',((k:Int),()))))),())) ?_ (by rintro _ ⟨h',l',g,rfl⟩;rw[ar];exact Ret.some ⟨h',l',g,rfl⟩)
    by_cases hc:(l*2%18446744073709551616+(a:Int))%18446744073709551616<l*2%18446744073709551616
    ·rw[ah (gY hc)]
     exact Ret.some ⟨_,_,hst.1 hc,by rw[hx1]⟩
    ·rw[aw (gA hc)]
     exact Ret.some ⟨_,_,hst.2 hc,by rw[hx]⟩
  rintro _ ⟨h',l',hw',rfl⟩
  rw[ar]
  dsimp only
  rw[eu (by omega) (by omega)]
  exact hrec _ ⟨k,h',l',by omega,hw',rfl⟩ (by dsimp only;omega)
theorem QuoInv.q_lt {hi lo d k q r:Nat}(H:QuoInv hi lo d k q r)(h:hi<d)(hl:lo<18446744073709551616)(hk:k≤64):q<2^(64-k):=by
 have hP:2^k*2^(64-k)=18446744073709551616:=by rw[←Nat.pow_add,show k+(64-k)=64 by omega]
 have h1:lo/2^k<2^(64-k):=Nat.div_lt_of_lt_mul (by rw[hP];exact hl)
 have h2:(hi+1)*2^(64-k)≤d*2^(64-k):=Nat.mul_le_mul_right _ h
 rw[Nat.add_mul,Nat.one_mul]at h2
 have h3:=H.e
 refine Nat.lt_of_mul_lt_mul_right (a:=d) ?_
 rw[Nat.mul_comm (2^(64-k)) d]
 generalize hi*2^(64-k)=A at*
 generalize d*2^(64-k)=B at*
 generalize q*d=C at*
 omega
theorem Af {r b d r2:Int}(r0:0≤r)(hr:r<d)(hd:d<18446744073709551616)(b0:b=0∨b=1)(e:r2=(r*2%18446744073709551616+b)%18446744073709551616):
  (r/9223372036854775808=1→d≤r*2+b)∧(¬r/9223372036854775808=1→(d≤r2↔d≤r*2+b))∧(d≤r*2+b→(r2-d)%18446744073709551616=r*2+b-d)∧(r*2+b<d→r2=r*2+b):=by
 refine⟨?_,?_,?_,?_⟩<;>omega
theorem tE {hi lo d:Nat}(h:hi<d)(hd:d<18446744073709551616)(hlo:lo<18446744073709551616):
  dy (((hi:Int),((lo:Int),((d:Int),()))),())=some (((((hi*18446744073709551616+lo)/d:Nat):Int),((((hi*18446744073709551616+lo)%d:Nat):Int),())),()):=by
 unfold dy
 dsimp only
 refine(Ret.iter (fun x=>∃k q r:Nat,k≤64∧QuoInv hi lo d k q r∧x=(((lo:Int),((d:Int),((q:Int),((r:Int),(((k:Int)-1),()))))),())) (fun x=>(x.1.2.2.2.2.1+1).toNat) ?_ F _ ⟨64,0,hi,by omega,QuoInv.init h hlo,rfl⟩ (by unfold F;dsimp only;omega)).eq
 rintro _ rec ⟨k,q,r,hk,hw,rfl⟩ hrec
 dsimp only at hrec⊢
 cases k with
 |zero=>
  rw[aw (jy (by omega))]
  obtain⟨e1,e2⟩:=hw.fin
  exact Ret.some (by rw[e1,e2])
 |succ k=>
  have ek:((k+1:Nat):Int)-1=(k:Int):=by omega
  rw[ek]at hrec⊢
  have hwk:ak .u64 (k:Int)=(k:Int):=cr (by omega) (by omega)
  obtain⟨st0,st1⟩:=hw.step (by omega)
  have hrd:=hw.lt
  have hbit:((lo/2^k:Nat):Int)%2=((lo/2^k%2:Nat):Int):=(Int.natCast_emod _ 2).symm
  obtain⟨b,hb⟩:∃b,b=lo/2^k%2:=⟨_,rfl⟩
  rw[←hb]at st0 st1 hbit
  have hb01:b=0∨b=1:=by rw[hb];exact nM lo k
  rw[ah (fv (by omega)),hwk,ah (fv (by omega)),yb (by omega),iG (Int.natCast_nonneg _),hbit,zo,BQ,BQ,yq,yq,subU]
  obtain⟨r2,hr2⟩:∃r2:Int,r2=((r:Int)*2%18446744073709551616+(b:Int))%18446744073709551616:=⟨_,rfl⟩
  rw[←hr2]
  obtain⟨a1,a2,a3,a4⟩:=Af (r:=(r:Int)) (b:=(b:Int)) (d:=(d:Int)) (by omega) (by omega) (by omega) (by omega) hr2
  have hcond:br (eqI ((r:Int)/9223372036854775808) 1) (some true) (some (leI (d:Int) r2))=some (decide (d≤r*2+b)):=by
   by_cases g:(r:Int)/9223372036854775808=1
   ·have:=a1 g
    rw[bn g,aR,decide_eq_true (by omega)]
   ·have:=a2 g
    rw[aG g,ap]
    by_cases g2:d≤r*2+b
    ·rw[decide_eq_true g2,fv (this.2 (by omega))]
    ·rw[decide_eq_false g2,jy (fun z=>g2 (by have:=this.1 z;omega))]
  rw[hcond,aa]
  have hp:2^(64-k)≤2^64:=Nat.pow_le_pow_right (by decide) (by omega)
  refine Ret.bnd (Q:=fun y=>∃q' r':Nat,QuoInv hi lo d k q' r'∧y=Sum.inl (((lo:Int),((d:Int),((q':Int),((r':Int),((k:Int),()))))),())) ?_ ?_
  ·by_cases g2:d≤r*2+b
   ·have hq:=(st1 g2).q_lt h hlo (by omega)
    rw[decide_eq_true g2,aR,a3 (by omega)]
    refine Ret.some ⟨q*2+1,r*2+b-d,st1 g2,?_⟩
    rw[show((q:Int)*2%18446744073709551616+1)%18446744073709551616=((q*2+1:Nat):Int)by omega,show(r:Int)*2+(b:Int)-(d:Int)=((r*2+b-d:Nat):Int)by omega]
   ·have hq:=(st0 (by omega)).q_lt h hlo (by omega)
    rw[decide_eq_false g2,ap,a4 (by omega)]
    refine Ret.some ⟨q*2,r*2+b,st0 (by omega),?_⟩
    rw[show((q:Int)*2%18446744073709551616)=((q*2:Nat):Int)by omega,show(r:Int)*2+(b:Int)=((r*2+b:Nat):Int)by omega]
  rintro _ ⟨q',r',hw',rfl⟩
  rw[ar]
  dsimp only
  rw[eu (by omega) (by omega)]
  exact hrec _ ⟨k,q',r',by omega,hw',rfl⟩ (by dsimp only;omega)
end Go.Den.G
namespace Go.Den.G
open Go.Den
set_option maxRecDepth 100000
theorem inotU {h:Int}(h0:0≤h)(h1:h<18446744073709551616):uF .u64 h=18446744073709551615-h:=by
 unfold uF oX
 rw[ez]
 have e:(BitVec.ofInt IntKind.u64.bits (if IntKind.u64.signed=true then -1 else IntKind.u64.max)^^^BitVec.ofInt IntKind.u64.bits h).toNat=(18446744073709551615-h).toNat:=by
  have e1:(BitVec.ofInt IntKind.u64.bits (if IntKind.u64.signed=true then -1 else IntKind.u64.max))=BitVec.allOnes 64:=by rfl
  have e2:(BitVec.ofInt 64 h).toNat=h.toNat:=by rw[BitVec.toNat_ofInt];omega
  rw[e1]
  show(BitVec.allOnes 64 ^^^BitVec.ofInt 64 h).toNat=_
  rw[BitVec.allOnes_xor,BitVec.toNat_not,e2]
  omega
 rw[e];omega
theorem ng {v:Int}(hv:I64 v):cK ((v,()),())=some (((v.natAbs:Nat):Int),())∧v.natAbs<18446744073709551616:=by
 unfold I64 at hv
 refine⟨?_,by omega⟩
 unfold cK
 dsimp only
 have hu:=bc v
 rw[show(2:Int)^64=18446744073709551616 from rfl]at hu
 rw[dP,hu]
 by_cases h:v<0
 ·rw[gY h,aR,subU]
  congr 2;omega
 ·rw[gA h,ap]
  congr 2;omega
theorem neg128 {h l p:Int}(h0:0≤h)(l0:0≤l)(l1:l<18446744073709551616)(h1:h<18446744073709551616)(e:h*18446744073709551616+l=p):
  ((-l)%18446744073709551616=0→(18446744073709551615-h+1)%18446744073709551616*18446744073709551616+(-l)%18446744073709551616=(-p)%340282366920938463463374607431768211456)∧
  (¬(-l)%18446744073709551616=0→(18446744073709551615-h)*18446744073709551616+(-l)%18446744073709551616=(-p)%340282366920938463463374607431768211456):=by
 constructor<;>intro g<;>omega
theorem rQ {X Y:Int}(sg:Bool)(hX:I64 X)(hY:I64 Y):∃h l:Int,dh ((X,(Y,(sg,()))),())=some ((h,(l,())),())∧0≤h∧h<18446744073709551616∧0≤l∧l<18446744073709551616∧
  h*18446744073709551616+l=(if sg=true then X*Y else((uns X:Nat):Int)*((uns Y:Nat):Int))%340282366920938463463374607431768211456:=by
 have hwide:∀a b:Nat,a<18446744073709551616→b<18446744073709551616→∃h l:Int,c9 (((a:Int),((b:Int),())),())=some ((h,(l,())),())∧0≤h∧h<18446744073709551616∧0≤l∧l<18446744073709551616∧h*18446744073709551616+l=(a:Int)*(b:Int):=fun a b ha hb=>by
  refine⟨_,_,xF ha hb,?_⟩
  have hp:a*b<18446744073709551616*18446744073709551616:=Nat.mul_lt_mul'' ha hb
  have e:(a:Int)*(b:Int)=((a*b:Nat):Int):=by simp
  have hp':((a*b:Nat):Int)<340282366920938463463374607431768211456:=Int.ofNat_lt.2 hp
  rw[e,Int.natCast_ediv,Int.natCast_emod]
  have h0:0≤((a*b:Nat):Int):=Int.natCast_nonneg _
  generalize ((a*b:Nat):Int)=p at*
  show 0≤p/18446744073709551616∧p/18446744073709551616<18446744073709551616∧0≤p%18446744073709551616∧p%18446744073709551616<18446744073709551616∧p/18446744073709551616*18446744073709551616+p%18446744073709551616=p
  omega
 have hbig:∀h l p:Int,0≤h→h<18446744073709551616→0≤l→l<18446744073709551616→h*18446744073709551616+l=p→h*18446744073709551616+l=p%340282366920938463463374607431768211456:=fun h l p a b c d e=>by omega
 unfold dh
 dsimp only
 cases sg with
 |false=>
  obtain⟨h,l,e,a1,a2,a3,a4,a5⟩:=hwide _ _ (dQ X) (dQ Y)
  rw[show aX false=true from rfl,aR,dP,dP,e,aa,if_neg (by decide)]
  exact⟨h,l,rfl,a1,a2,a3,a4,hbig _ _ _ a1 a2 a3 a4 a5⟩
 |true=>
  obtain⟨s1,l1⟩:=ng hX
  obtain⟨s2,l2⟩:=ng hY
  obtain⟨h,l,e,a1,a2,a3,a4,a5⟩:=hwide _ _ l1 l2
  rw[show aX true=false from rfl,ap,s1,aa,s2,aa,if_pos rfl]
  dsimp only
  rw[e,aa]
  dsimp only
  have hne:aX (eqB (ltI X 0) (ltI Y 0))=(decide (X<0) != decide (Y<0)):=by
   unfold ltI
   cases decide (X<0)<;>cases decide (Y<0)<;>rfl
  rw[hne]
  have habs:∀Z:Int,(Z.natAbs:Int)=if Z<0 then -Z else Z:=fun Z=>by split<;>omega
  rw[habs X,habs Y]at a5
  by_cases hd:(decide (X<0) != decide (Y<0))=true
  ·rw[hd,aR,subU,inotU a1 a2,yq]
   have hp:h*18446744073709551616+l= -(X*Y):=by
    rw[a5]
    by_cases x0:X<0
    ·by_cases y0:Y<0
     ·rw[decide_eq_true x0,decide_eq_true y0]at hd;cases hd
     ·rw[if_pos x0,if_neg y0,Int.neg_mul]
    ·by_cases y0:Y<0
     ·rw[if_neg x0,if_pos y0,Int.mul_neg]
     ·rw[decide_eq_false x0,decide_eq_false y0]at hd;cases hd
   obtain⟨n1,n2⟩:=neg128 a1 a3 a4 a2 hp
   rw[Int.neg_neg]at n1 n2
   rw[Int.zero_sub]
   by_cases hz:(-l)%18446744073709551616=0
   ·rw[bn hz,aR,aa,ar,aa,ar]
    exact⟨_,_,rfl,by omega,by omega,by omega,by omega,n1 hz⟩
   ·rw[aG hz,ap,aa,ar,aa,ar]
    exact⟨_,_,rfl,by omega,by omega,by omega,by omega,n2 hz⟩
  ·rw[Bool.eq_false_iff.2 hd,ap,aa,ar]
   have hp:h*18446744073709551616+l=X*Y:=by
    rw[a5]
    by_cases x0:X<0
    ·by_cases y0:Y<0
     ·rw[if_pos x0,if_pos y0,Int.neg_mul_neg]
     ·rw[decide_eq_true x0,decide_eq_false y0]at hd;exact absurd rfl hd
    ·by_cases y0:Y<0
     ·rw[decide_eq_false x0,decide_eq_true y0]at hd;exact absurd rfl hd
     ·rw[if_neg x0,if_neg y0]
   exact⟨h,l,rfl,a1,a2,a3,a4,hbig _ _ _ a1 a2 a3 a4 hp⟩
theorem wg {sg:Bool}{n:Nat}(hn:bX (n:Int)=true){a:Int}(ha:I64 a):I64 (qC sg n a):=by
 obtain⟨h1,h8⟩:=di hn
 unfold qC
 split
 ·exact iH _ (by omega) _
 ·exact dR ha hn
theorem Bq {sg:Bool}{n:Nat}(hn:bX (n:Int)=true){a b:Int}(ha:I64 a)(hb:I64 b):
  (if sg=true then qC sg n a*qC sg n b else((uns (qC sg n a):Nat):Int)*((uns (qC sg n b):Nat):Int))=lA sg n a*lA sg n b:=by
 unfold qC lA
 cases sg with
 |true=>simp only[if_true]
 |false=>
  rw[if_neg (by decide),if_neg (by decide),if_neg (by decide),if_neg (by decide),if_neg (by decide),cf ha hn,cf hb hn]
theorem lG {op a b f:Int}{n:Nat}(hn:bX (n:Int)=true)(ha:I64 a)(hb:I64 b):
  bZ ((op,((n:Int),(a,(b,(f,()))))),())=some (((pp op n a b f).1,((pp op n a b f).2.1,((pp op n a b f).2.2,()))),()):=by
 obtain⟨h1,h8⟩:=di hn
 unfold bZ
 dsimp only
 obtain⟨sg,hsg⟩:∃sg:Bool,sg=decide (op≠13):=⟨_,rfl⟩
 have heq:aX (eqI op 13)=sg:=by
  rw[hsg,neI,Bool.eq_iff_iff,bne_iff_ne,decide_eq_true_eq]
 have hsx:∀v,aP ((v,((n:Int),())),())=some (sx (8*n-1) v,()):=fun v=>by
  rw[gX _ _ (by omega) (by omega),show(8*(n:Int)-1).toNat=8*n-1 by omega]
 rw[heq,bj ha n hn,bj hb n hn,aa,aa]
 refine(Ret.bnd (Q:=fun y=>y=Sum.inl (((n:Int),(f,(sg,(qC sg n a,(qC sg n b,()))))),())) ?_ ?_).eq
 ·cases sg with
  |true=>
   rw[aR,hsx,hsx,aa,aa]
   exact Ret.some rfl
  |false=>
   rw[ap]
   exact Ret.some rfl
 rintro _ rfl
 rw[ar]
 dsimp only
 obtain⟨h,l,e,a1,a2,a3,a4,a5⟩:=rQ sg (wg (sg:=sg) hn ha) (wg (sg:=sg) hn hb)
 rw[Bq hn ha hb]at a5
 rw[e,aa]
 dsimp only
 have hul:∀z:Int,0≤z→z<18446744073709551616→((uns (ak .i64 z):Nat):Int)=z:=fun z z0 z1=>by
  unfold ak
  rw[bM,bc,show(2:Int)^64=18446744073709551616 from rfl];omega
 have hlow:bL (ak .i64 l) n=tR sg n a b:=by
  refine nm hn (aD _) ?_
  rw[hul l a3 a4]
  generalize lA sg n a*lA sg n b=p at*
  rcases uG hn with rfl|rfl|rfl|rfl
  ·rw[show(2:Int)^(8*1)=256 from rfl];omega
  ·rw[show(2:Int)^(8*2)=65536 from rfl];omega
  ·rw[show(2:Int)^(8*4)=4294967296 from rfl];omega
  ·rw[show(2:Int)^(8*8)=18446744073709551616 from rfl];omega
 rw[bj (fZ l) n hn,aa,hlow]
 dsimp only
 refine Ret.bnd (Q:=fun y=>y=Sum.inl (((n:Int),(f,(sg,(tR sg n a b,(lX sg n a b,()))))),())) ?_ ?_
 ·by_cases h8':n=8
  ·subst h8'
   rw[gA (by omega),ap]
   have hh:ak .i64 h=lX sg 8 a b:=by
    unfold lX jE ak
    refine jT ?_
    rw[show(2:Int)^(8*8)=18446744073709551616 from rfl]
    generalize lA sg 8 a*lA sg 8 b=p at*
    omega
   rw[hh]
   exact Ret.some rfl
  ·have h3:n=1∨n=2∨n=4:=by rcases uG hn with h|h|h|h<;>omega
   rw[gY (by omega),aR,eI (a:=8) (by omega) (by omega),cr (by omega) (by omega),ah (fv (by omega)),show 8*(n:Int)=((8*n:Nat):Int)by omega,pT _ _ (by omega),bj (fZ _) n hn,aa]
   have hh:bL (ak .i64 (l/2^(8*n))) n=lX sg n a b:=by
    refine nm hn (aD _) ?_
    have hd0:0≤l/2^(8*n):=Int.ediv_nonneg a3 (Int.le_of_lt (Int.pow_pos (by decide)))
    have hd1:l/2^(8*n)<18446744073709551616:=Int.lt_of_le_of_lt (Int.ediv_le_self _ a3) a4
    rw[hul _ hd0 hd1]
    generalize lA sg n a*lA sg n b=p at*
    rcases h3 with rfl|rfl|rfl
    ·rw[show(2:Int)^(8*1)=256 from rfl];omega
    ·rw[show(2:Int)^(8*2)=65536 from rfl];omega
    ·rw[show(2:Int)^(8*4)=4294967296 from rfl];omega
   rw[hh]
   exact Ret.some rfl
 rintro _ rfl
 rw[ar]
 dsimp only
 refine Ret.bnd (Q:=fun y=>y=Sum.inl ((f,(tR sg n a b,(lX sg n a b,(zS sg n a b,())))),())) ?_ ?_
 ·unfold zS
  cases sg with
  |true=>
   rw[aR,hsx,hsx,aa,aa,neI]
   exact Ret.some rfl
  |false=>
   rw[ap,neI]
   exact Ret.some rfl
 rintro _ rfl
 rw[ar]
 dsimp only
 rw[jm,aa]
 refine Ret.some ?_
 unfold pp
 rw[←hsg]
end Go.Den.G
namespace Go.Den.G
open Go.Den
set_option maxRecDepth 100000
theorem orU {a b:Nat}(ha:a<2^64)(hb:b<2^64):ior .u64 (a:Int) (b:Int)=((a|||b:Nat):Int):=by
 unfold ior
 rw[ez]
 have hh:∀k:Nat,k<2^64→(BitVec.ofInt 64 (k:Int)).toNat=k:=fun k hk=>by
  rw[BitVec.toNat_ofInt]
  have:((k:Int)%((2^64:Nat):Int))=((k%2^64:Nat):Int):=(Int.natCast_emod ..).symm
  rw[this,Int.toNat_natCast,Nat.mod_eq_of_lt hk]
 have e1:(BitVec.ofInt IntKind.u64.bits (a:Int)|||BitVec.ofInt IntKind.u64.bits (b:Int)).toNat=a|||b:=by
  rw[BitVec.toNat_or]
  show(BitVec.ofInt 64 (a:Int)).toNat|||(BitVec.ofInt 64 (b:Int)).toNat=_
  rw[hh _ ha,hh _ hb]
 rw[e1]
 have:a|||b<2^64:=Nat.or_lt_two_pow ha hb
 have h2:((a|||b:Nat):Int)<((2^64:Nat):Int):=Int.ofNat_lt.2 this
 exact Int.emod_eq_of_lt (by omega) h2
theorem joinU {n:Nat}(hn:n=1∨n=2∨n=4){hi lo:Int}(hh:I64 hi)(hl:I64 lo):ior .u64 (cH .u64 (ak .u64 (bL hi n)) ((8*n:Nat):Int)) (ak .u64 (bL lo n))=((lR n hi lo:Nat):Int):=by
 have hs:bX (n:Int)=true:=by rcases hn with rfl|rfl|rfl<;>rfl
 have hlt:=jw n hi lo
 have h32:2^(16*n)≤2^64:=Nat.pow_le_pow_right (by decide) (by omega)
 have hN:lR n hi lo<2^64:=Nat.lt_of_lt_of_le hlt h32
 have hH:bV hi n*2^(8*n)<2^64:=Nat.lt_of_le_of_lt (Nat.le_add_right _ _) hN
 have hL:bV lo n<2^64:=Nat.lt_of_le_of_lt (Nat.le_add_left _ _) hN
 rw[dP,dP,cf hh hs,cf hl hs,DL (by omega),Nat.mod_eq_of_lt hH,orU hH hL]
 unfold lR
 rw[Nat.mul_comm,Nat.two_pow_add_eq_or_of_lt (fQ lo n)]
theorem xG {n:Nat}{hi lo:Int}(hn:bX (n:Int)=true)(hh:I64 hi)(hl:I64 lo)(sg:Bool):
  ∃h l:Int,e9 (((n:Int),(hi,(lo,(sg,())))),())=some ((h,(l,())),())∧0≤h∧h<18446744073709551616∧0≤l∧l<18446744073709551616∧
   h*18446744073709551616+l=(if mo sg n hi lo<0 then mo sg n hi lo+340282366920938463463374607431768211456 else mo sg n hi lo):=by
 obtain⟨h1,h8⟩:=di hn
 unfold e9
 dsimp only
 by_cases h8':n=8
 ·subst h8'
  rw[bn (by rfl),aR,dP,dP]
  have g1:=dQ hi
  have g2:=dQ lo
  refine⟨_,_,rfl,by omega,by omega,by omega,by omega,?_⟩
  have hN:=yL hi lo
  unfold mo
  rw[show(2:Nat)^(16*8-1)=170141183460469231731687303715884105728 from rfl,show(2:Int)^(16*8)=340282366920938463463374607431768211456 from rfl]
  have hlt:lR 8 hi lo<340282366920938463463374607431768211456:=jw 8 hi lo
  by_cases hc:sg=true∧170141183460469231731687303715884105728≤lR 8 hi lo
  ·rw[if_pos hc];omega
  ·rw[if_neg hc];omega
 ·have h3:n=1∨n=2∨n=4:=by rcases uG hn with h|h|h|h<;>omega
  have e8:bf .i64 8 (n:Int)=((8*n:Nat):Int):=by rw[eI (a:=8) (by omega) (by omega)];omega
  have e16:bf .i64 16 (n:Int)=((16*n:Nat):Int):=by rw[eI (a:=16) (by omega) (by omega)];omega
  have w8:ak .u64 ((8*n:Nat):Int)=((8*n:Nat):Int):=cr (by omega) (by omega)
  have w16:ak .u64 ((16*n:Nat):Int)=((16*n:Nat):Int):=cr (by omega) (by omega)
  have e7:aM .i64 ((8*n:Nat):Int) 1=((8*n-1:Nat):Int):=by rw[eu (by omega) (by omega)];omega
  have hlt:=jw n hi lo
  have h32:2^(16*n)≤2^64:=Nat.pow_le_pow_right (by decide) (by omega)
  have hN:lR n hi lo<2^64:=Nat.lt_of_lt_of_le hlt h32
  rw[aG (show(n:Int)≠8 by omega),ap,bj hh n hn,aa,e8,w8,ah (fv (by omega)),bj hl n hn,aa]
  dsimp only
  rw[joinU h3 hh hl,e7,yC _ _ (by omega),aa]
  dsimp only
  rw[AO]
  have hc:br sg (some (jY hi (8*n-1))) (some false)=some (decide (sg=true∧2^(16*n-1)≤lR n hi lo)):=by
   cases sg with
   |false=>rfl
   |true=>
    rw[aR,iC (n:=n) (by omega)]
    have e:(bV hi n/2^(8*n-1)%2=1)↔2^(16*n-1)≤lR n hi lo:=by
     have a1:=fQ hi n
     have a2:=fQ lo n
     unfold lR
     rcases h3 with rfl|rfl|rfl
     ·rw[show(2:Nat)^(8*1)=256 from rfl]at*
      rw[show(2:Nat)^(8*1-1)=128 from rfl,show(2:Nat)^(16*1-1)=32768 from rfl];omega
     ·rw[show(2:Nat)^(8*2)=65536 from rfl]at*
      rw[show(2:Nat)^(8*2-1)=32768 from rfl,show(2:Nat)^(16*2-1)=2147483648 from rfl];omega
     ·rw[show(2:Nat)^(8*4)=4294967296 from rfl]at*
      rw[show(2:Nat)^(8*4-1)=2147483648 from rfl,show(2:Nat)^(16*4-1)=9223372036854775808 from rfl];omega
    simp only[e,true_and]
  rw[hc,aa]
  unfold mo
  by_cases hs:sg=true∧2^(16*n-1)≤lR n hi lo
  ·rw[decide_eq_true hs,aR,if_pos hs]
   have hI16:(2:Int)^(16*n)=((2^(16*n):Nat):Int):=(i9 _).symm
   rw[hI16]
   obtain⟨N,hNe⟩:∃N,N=lR n hi lo:=⟨_,rfl⟩
   rw[←hNe]at hlt hN hs⊢
   have hneg:(N:Int)-((2^(16*n):Nat):Int)<0:=by omega
   rw[if_pos hneg]
   refine Exists.elim (p:=fun l:Nat=>(br (ltI (n:Int) 4) (br (leI 0 (ak .u64 (bf .i64 16 (n:Int)))) (some (Sum.inl (((ior .u64 (N:Int) (cH .u64 18446744073709551615 (ak .u64 (bf .i64 16 (n:Int))))),()),()):Sum ((Int×Unit)×Unit) ((Int×Int×Unit)×Unit))) none) (some (Sum.inl (((N:Int),()),()))))=some (Sum.inl (((l:Int),()),()))∧(l:Int)=(N:Int)-((2^(16*n):Nat):Int)+18446744073709551616) ?_ ?_
   ·by_cases h4:n=4
    ·subst h4
     rw[gA (by decide),ap]
     refine⟨N,rfl,?_⟩
     rw[show((2^(16*4):Nat):Int)=18446744073709551616 from rfl];omega
    ·have h12:n=1∨n=2:=by omega
     rw[gY (by omega),aR,e16,w16,ah (fv (by omega))]
     have hm:cH .u64 18446744073709551615 ((16*n:Nat):Int)=((2^64-2^(16*n):Nat):Int):=by
      have:cH .u64 ((18446744073709551615:Nat):Int) ((16*n:Nat):Int)=_:=DL (a:=18446744073709551615) (s:=16*n) (by omega)
      rw[show(18446744073709551615:Int)=((18446744073709551615:Nat):Int)from rfl,this]
      rcases h12 with rfl|rfl<;>decide +kernel
     have hor:N|||(2^64-2^(16*n))=N+(2^64-2^(16*n)):=by
      obtain⟨t,ht⟩:∃t,2^64-2^(16*n)=2^(16*n)*t:=⟨2^(64-16*n)-1,by rw[Nat.mul_sub,←Nat.pow_add,show 16*n+(64-16*n)=64 by omega,Nat.mul_one]⟩
      rw[ht,Nat.or_comm,←Nat.two_pow_add_eq_or_of_lt hlt,Nat.add_comm]
     rw[hm,orU hN (by have:=Nat.two_pow_pos (16*n);omega),hor]
     refine⟨_,rfl,?_⟩
     have h64:(2:Nat)^64=18446744073709551616:=rfl
     rw[h64]at h32⊢
     generalize 2^(16*n)=P at*
     omega
   ·rintro l ⟨el,hl2⟩
    rw[el,aa,ar]
    have hlo0:0≤(l:Int):=by omega
    refine⟨18446744073709551615,(l:Int),rfl,by omega,by omega,by omega,?_,?_⟩
    ·omega
    ·omega
  ·rw[decide_eq_false hs,ap,if_neg hs,if_neg (by omega)]
   refine⟨0,_,rfl,by omega,by omega,by omega,?_,by omega⟩
   have:((lR n hi lo:Nat):Int)<((2^64:Nat):Int):=Int.ofNat_lt.2 hN
   exact this
end Go.Den.G
namespace Go.Den.G
open Go.Den
set_option maxRecDepth 100000
set_option linter.unusedVariables false
theorem negA {h l p:Int}(h0:0≤h)(l0:0≤l)(l1:l<18446744073709551616)(h1:h<18446744073709551616)(e:h*18446744073709551616+l=p+340282366920938463463374607431768211456)(hp: -170141183460469231731687303715884105728≤p)(hp0:p<0):
  ((-l)%18446744073709551616=0→(18446744073709551615-h+1)%18446744073709551616*18446744073709551616+(-l)%18446744073709551616= -p)∧
  (¬(-l)%18446744073709551616=0→(18446744073709551615-h)*18446744073709551616+(-l)%18446744073709551616= -p):=by
 constructor<;>intro g<;>omega
theorem topH {h l X:Int}(h0:0≤h)(h1:h<18446744073709551616)(l0:0≤l)(l1:l<18446744073709551616)(hX: -170141183460469231731687303715884105728≤X)(hX2:X<170141183460469231731687303715884105728)
  (e:h*18446744073709551616+l=(if X<0 then X+340282366920938463463374607431768211456 else X)):h/9223372036854775808=1↔X<0:=by
 split at e<;>omega
theorem Bi {n:Nat}(hn:bX (n:Int)=true)(hi lo:Int):mo true n hi lo<170141183460469231731687303715884105728:=by
 have hlt:=jw n hi lo
 unfold mo
 generalize lR n hi lo=N at*
 rcases uG hn with rfl|rfl|rfl|rfl
 ·rw[show(2:Nat)^(16*1)=65536 from rfl]at hlt
  rw[show(2:Nat)^(16*1-1)=32768 from rfl,show(2:Int)^(16*1)=65536 from rfl]
  split<;>omega
 ·rw[show(2:Nat)^(16*2)=4294967296 from rfl]at hlt
  rw[show(2:Nat)^(16*2-1)=2147483648 from rfl,show(2:Int)^(16*2)=4294967296 from rfl]
  split<;>omega
 ·rw[show(2:Nat)^(16*4)=18446744073709551616 from rfl]at hlt
  rw[show(2:Nat)^(16*4-1)=9223372036854775808 from rfl,show(2:Int)^(16*4)=18446744073709551616 from rfl]
  split<;>omega
 ·rw[show(2:Nat)^(16*8)=340282366920938463463374607431768211456 from rfl]at hlt
  rw[show(2:Nat)^(16*8-1)=170141183460469231731687303715884105728 from rfl,show(2:Int)^(16*8)=340282366920938463463374607431768211456 from rfl]
  split
  ·omega
  ·rename_i g
   have:¬170141183460469231731687303715884105728≤N:=fun z=>g ⟨rfl,z⟩
   omega
theorem zT {n:Nat}(hn:bX (n:Int)=true)(t:Bool){q:Nat}(hq:q<18446744073709551616):bL (ak .i64 (if t=true then aM .u64 0 (q:Int)else(q:Int))) n=jE n (negI t q):=by
 have h8:=(di hn).2
 refine nm hn (fZ _) ?_
 unfold ak negI
 rw[bM,bc,Int.emod_emod_of_dvd _ (by have:=yO h8;exact this)]
 cases t with
 |false=>rw[if_neg (by decide),if_neg (by decide)]
 |true=>
  rw[if_pos rfl,if_pos rfl,subU,Int.emod_emod_of_dvd _ (yO h8),Int.zero_sub]
theorem tH {op hi lo d:Int}{n:Nat}(hn:bX (n:Int)=true)(hh:I64 hi)(hl:I64 lo)(hd:I64 d):
  ∃q r:Int,cV ((op,((n:Int),(hi,(lo,(d,()))))),())=some ((q,(r,((ru op n hi lo d).2.2,()))),())∧((ru op n hi lo d).2.2=true→q=(ru op n hi lo d).1∧r=(ru op n hi lo d).2.1):=by
 obtain⟨h1,h8⟩:=di hn
 obtain⟨sg,hsg⟩:∃sg:Bool,sg=decide (op=16):=⟨_,rfl⟩
 have heq:eqI op 16=sg:=by rw[hsg];rfl
 suffices hsuf:Ret (cV ((op,((n:Int),(hi,(lo,(d,()))))),())) (fun y=>∃q r:Int,y=((q,(r,((ru op n hi lo d).2.2,()))),())∧((ru op n hi lo d).2.2=true→q=(ru op n hi lo d).1∧r=(ru op n hi lo d).2.1))by
  obtain⟨y,e,q,r,rfl,g⟩:=hsuf
  exact⟨q,r,e,g⟩
 unfold cV
 dsimp only
 rw[heq]
 obtain⟨h,l,e1,a1,a2,a3,a4,hX⟩:=xG hn hh hl sg
 have hxb:=yM (sg:=sg) hn hi lo
 have hxt:sg=true→mo sg n hi lo<170141183460469231731687303715884105728:=fun g=>by rw[g];exact Bi hn hi lo
 unfold ru
 rw[←hsg]
 obtain⟨X,hXe⟩:∃X,X=mo sg n hi lo:=⟨_,rfl⟩
 obtain⟨D,hDe⟩:∃D,D=lA sg n d:=⟨_,rfl⟩
 have hDb:=Dr sg hn d
 rw[←hXe]at hX hxb hxt
 rw[←hDe]at hDb
 rw[←hXe,←hDe]
 obtain⟨q,hq⟩:∃q,q=X.natAbs/D.natAbs:=⟨_,rfl⟩
 obtain⟨r,hr⟩:∃r,r=X.natAbs%D.natAbs:=⟨_,rfl⟩
 rw[←hq,←hr,e1,aa,bj hd n hn,aa]
 dsimp only
 have hsx:aP ((d,((n:Int),())),())=some (sx (8*n-1) d,()):=by
  rw[gX _ _ (by omega) (by omega),show(8*(n:Int)-1).toNat=8*n-1 by omega]
 have hsxI:=iH (8*n-1) (by omega) d
 refine Ret.bnd (Q:=fun y=>y=Sum.inl (((n:Int),(sg,(h,(l,(((D.natAbs:Nat):Int),(decide (X<0),(yl X D,()))))))),())∧D.natAbs<18446744073709551616) ?_ ?_
 ·cases sg with
  |true=>
   obtain⟨z1,z2⟩:=ng hsxI
   rw[aR,hsx,aa]
   rw[z1,aa,aa]
   have hD:D=sx (8*n-1) d:=by rw[hDe];exact if_pos rfl
   rw[zo]
   have ht:=topH a1 a2 a3 a4 hxb.1 (hxt rfl) hX
   have e2:eqI (h/9223372036854775808) 1=decide (X<0):=by
    unfold eqI;rw[Bool.eq_iff_iff,decide_eq_true_eq,decide_eq_true_eq];exact ht
   have e3:aX (eqB (decide (X<0)) (ltI (sx (8*n-1) d) 0))=yl X D:=by
    rw[hD]
    unfold yl ltI
    cases decide (X<0)<;>cases decide (sx (8*n-1) d<0)<;>rfl
   dsimp only
   rw[e2,e3]
   exact Ret.some ⟨by rw[hD],by rw[hD];exact z2⟩
  |false=>
   have hD:D=(bV d n:Int):=by rw[hDe];exact if_neg (by decide)
   have hX0:=hxb.2.2 rfl
   have hu:=dQ d
   have hle:bV d n≤uns d:=Nat.mod_le _ _
   rw[ap,dP,cf hd hn]
   have e3:yl X D=false:=by
    unfold yl
    rw[decide_eq_false (by omega),decide_eq_false (by omega)];rfl
   rw[e3,decide_eq_false (by omega),hD,Int.natAbs_natCast]
   exact Ret.some ⟨rfl,by omega⟩
 rintro _ ⟨rfl,hDlt⟩
 rw[ar]
 dsimp only[p5,p6]
 refine Ret.bnd (Q:=fun y=>∃h' l':Nat,h'<18446744073709551616∧l'<18446744073709551616∧h'*18446744073709551616+l'=X.natAbs∧y=Sum.inl (((n:Int),(sg,((h':Int),((l':Int),(((D.natAbs:Nat):Int),(decide (X<0),(yl X D,()))))))),())) ?_ ?_
 ·have fin:∀h' l':Int,0≤h'→h'<18446744073709551616→0≤l'→l'<18446744073709551616→h'*18446744073709551616+l'=((X.natAbs:Nat):Int)→∃a b:Nat,a<18446744073709551616∧b<18446744073709551616∧a*18446744073709551616+b=X.natAbs∧h'=(a:Int)∧l'=(b:Int):=fun h' l' b1 b2 b3 b4 b5=>⟨h'.toNat,l'.toNat,by omega,by omega,by omega,by omega,by omega⟩
  by_cases hx:X<0
  ·rw[decide_eq_true hx,aR,subU,inotU a1 a2,yq,Int.zero_sub]
   rw[if_pos hx]at hX
   obtain⟨n1,n2⟩:=negA a1 a3 a4 a2 hX hxb.1 hx
   refine Ret.bnd (Q:=fun y=>∃h' l':Nat,h'<18446744073709551616∧l'<18446744073709551616∧h'*18446744073709551616+l'=X.natAbs∧y=Sum.inl (((n:Int),(sg,((h':Int),((l':Int),(((D.natAbs:Nat):Int),(true,(yl X D,()))))))),())) ?_ (by rintro _ ⟨h',l',g1,g2,g3,rfl⟩;rw[ar];exact Ret.some ⟨h',l',g1,g2,g3,rfl⟩)
   by_cases hz:(-l)%18446744073709551616=0
   ·obtain⟨a,b,g1,g2,g3,g4,g5⟩:=fin _ _ (by omega) (by omega) (by omega) (by omega) ((n1 hz).trans (by omega))
    rw[bn hz,aR,g4,g5]
    exact Ret.some ⟨a,b,g1,g2,g3,rfl⟩
   ·obtain⟨a,b,g1,g2,g3,g4,g5⟩:=fin _ _ (by omega) (by omega) (by omega) (by omega) ((n2 hz).trans (by omega))
    rw[aG hz,ap,g4,g5]
    exact Ret.some ⟨a,b,g1,g2,g3,rfl⟩
  ·rw[if_neg hx]at hX
   obtain⟨a,b,g1,g2,g3,g4,g5⟩:=fin h l a1 a2 a3 a4 (hX.trans (by omega))
   rw[decide_eq_false hx,ap,g4,g5]
   exact Ret.some ⟨a,b,g1,g2,g3,rfl⟩
 rintro _ ⟨h',l',b1,b2,hM,rfl⟩
 rw[ar]
 dsimp only[p5,p6]
 by_cases hov:D.natAbs≤h'
 ·have hb:sY X.natAbs D.natAbs=true:=decide_eq_true (by omega)
  rw[fv (by omega),aR]
  unfold Do
  rw[if_pos hb]
  exact Ret.some ⟨0,0,rfl,fun g=>by cases g⟩
 have hb:¬sY X.natAbs D.natAbs=true:=fun g=>by
  have:=of_decide_eq_true g
  omega
 rw[jy (by omega),ap,tE (by omega) hDlt b2,aa,hM,←hq,←hr]
 dsimp only
 have hq64:q<18446744073709551616:=by rw[hq];exact Nat.div_lt_of_lt_mul (by omega)
 have hr64:r<18446744073709551616:=by
  rw[hr]
  have:X.natAbs%D.natAbs<D.natAbs:=Nat.mod_lt _ (by omega)
  omega
 have hrD:r<D.natAbs:=by rw[hr];exact Nat.mod_lt _ (by omega)
 have hDn:sg=false→D.natAbs<2^(8*n):=fun g=>by
  have h5:=hDb.2.1
  have h6:=hDb.2.2.2 g
  have:((D.natAbs:Nat):Int)<((2^(8*n):Nat):Int):=by rw[i9];omega
  exact Int.ofNat_lt.1 this
 clear hov hXe hDe hq hr hM hxb hxt hDb hX e1
 have e8:bf .i64 8 (n:Int)=((8*n:Nat):Int):=by rw[eI (a:=8) (by omega) (by omega)];omega
 have w8:ak .u64 ((8*n:Nat):Int)=((8*n:Nat):Int):=cr (by omega) (by omega)
 have e7:aM .i64 ((8*n:Nat):Int) 1=((8*n-1:Nat):Int):=by rw[eu (by omega) (by omega)];omega
 have w7:ak .u64 ((8*n-1:Nat):Int)=((8*n-1:Nat):Int):=cr (by omega) (by omega)
 rw[e8,w8,e7,w7]
 cases sg with
 |false=>
  rw[show aX false=true from rfl,aR,ah (show leI 0 ((8*n:Nat):Int)=true from fv (by omega)),yb (by omega)]
  have hok:br (eqI (n:Int) 8) (some true) (some (eqI ((q/2^(8*n):Nat):Int) 0))=some (decide (q<2^(8*n))):=by
   by_cases g:n=8
   ·subst g
    rw[bn (by rfl),aR,decide_eq_true (by exact hq64)]
   ·rw[aG (by omega),ap]
    congr 1
    unfold eqI
    rw[Bool.eq_iff_iff,decide_eq_true_eq,decide_eq_true_eq]
    have hp:=Nat.two_pow_pos (8*n)
    rw[show(((q/2^(8*n):Nat):Int)=0)↔q/2^(8*n)=0 from by omega,Nat.div_eq_zero_iff_lt hp]
  rw[hok,aa]
  unfold Do
  rw[if_neg hb,if_pos rfl]
  dsimp only
  refine Ret.some ⟨_,_,rfl,fun g=>?_⟩
  have gq:=of_decide_eq_true g
  have gr:r<2^(8*n):=Nat.lt_trans hrD (hDn rfl)
  have hw:∀z:Nat,z<2^(8*n)→ak .i64 (z:Int)=jE n (z:Int):=fun z hz=>by
   unfold jE ak
   have:(z:Int)%2^(8*n)=(z:Int):=by rw[←i9,←Int.natCast_emod,Nat.mod_eq_of_lt hz]
   rw[this]
  exact⟨hw q gq,hw r gr⟩
 |true=>
  rw[show aX true=false from rfl,ap,ah (show leI 0 ((8*n-1:Nat):Int)=true from fv (by omega))]
  have hlim:cH .u64 1 ((8*n-1:Nat):Int)=((2^(8*n-1):Nat):Int):=by
   have:cH .u64 ((1:Nat):Int) ((8*n-1:Nat):Int)=_:=DL (a:=1) (s:=8*n-1) (by omega)
   rw[show(1:Int)=((1:Nat):Int)from rfl,this,Nat.one_mul,Nat.mod_eq_of_lt]
   have:2^(8*n-1)<2^64:=Nat.pow_lt_pow_right (by decide) (by omega)
   exact this
  rw[hlim]
  obtain⟨t,ht⟩:∃t:Bool,t=yl X D:=⟨_,rfl⟩
  unfold Do
  rw[if_neg hb,if_neg (show ¬true=false by decide),←ht]
  obtain⟨P,hP⟩:∃P,P=2^(8*n-1):=⟨_,rfl⟩
  have hcond:br (ltI ((2^(8*n-1):Nat):Int) (q:Int)) (some true) (bnd (br (eqI (q:Int) ((2^(8*n-1):Nat):Int)) (some (aX t)) (some false)) (fun x15=>some x15))=some (sZ t n q):=by
   unfold sZ
   rw[←hP]
   by_cases g:P<q
   ·rw[gY (by omega),aR]
    cases t with
    |true=>rw[if_pos rfl,decide_eq_true g]
    |false=>rw[if_neg (by decide),decide_eq_true (by omega)]
   ·rw[gA (by omega),ap]
    by_cases g2:q=P
    ·rw[bn (by omega),aR,aa]
     cases t with
     |true=>rw[if_pos rfl,decide_eq_false g];rfl
     |false=>rw[if_neg (by decide),decide_eq_true (by omega)];rfl
    ·rw[aG (by omega),ap,aa]
     cases t with
     |true=>rw[if_pos rfl,decide_eq_false g]
     |false=>rw[if_neg (by decide),decide_eq_false (by omega)]
  rw[hcond,aa]
  by_cases ho:sZ t n q=true
  ·rw[ho,aR,if_pos rfl]
   exact Ret.some ⟨0,0,rfl,fun g=>by cases g⟩
  ·rw[Bool.eq_false_iff.2 ho,ap,if_neg (by decide)]
   refine Ret.bnd (Q:=fun y=>y=Sum.inl (((n:Int),(decide (X<0),((if t=true then aM .u64 0 (q:Int)else(q:Int)),((r:Int),())))),())) ?_ ?_
   ·cases t with
    |true=>rw[aR];exact Ret.some rfl
    |false=>rw[ap];exact Ret.some rfl
   rintro _ rfl
   rw[ar]
   dsimp only
   refine Ret.bnd (Q:=fun y=>y=Sum.inl (((n:Int),((if t=true then aM .u64 0 (q:Int)else(q:Int)),((if decide (X<0)=true then aM .u64 0 (r:Int)else(r:Int)),()))),())) ?_ ?_
   ·cases decide (X<0)with
    |true=>rw[aR];exact Ret.some rfl
    |false=>rw[ap];exact Ret.some rfl
   rintro _ rfl
   rw[ar]
   dsimp only
   rw[bj (fZ _) n hn,bj (fZ _) n hn,aa,aa,zT hn _ hq64,zT hn _ hr64]
   exact Ret.some ⟨_,_,rfl,fun _=>⟨rfl,rfl⟩⟩
end Go.Den.G
namespace Go.Den.G
open Go.Den
set_option maxRecDepth 100000
noncomputable section
theorem oH (m:List Page)(a p:Int):∀(n:Nat) (k:Int),dO m a p n k=0∨dO m a p n k=13∨dO m a p n k=14
 |0,k=> .inl rfl
 |n+1,k=>by
  have ih:=oH m a p n (k+1)
  unfold dO
  split
  ·exact .inr (.inl rfl)
  ·split
   ·exact .inr (.inr rfl)
   ·exact ih
def i7 (m:List Page)(a:Int)(n:Nat)(v:Int):List Page×Int:=
 match bO (((m,()),(a,((n:Int),(v,())))),())with
 |some x=>(x.2.1,x.1.2.1)
 |none=>(m,0)
theorem sn (m:List Page)(hm:MemT m)(a v:Int)(n:Nat)(hn:bX (n:Int)=true)(ha:I64 a):
  bO (((m,()),(a,((n:Int),(v,())))),())=some (((),((i7 m a n v).2,())),((i7 m a n v).1,()))∧
   ((((i7 m a n v).2=13∨(i7 m a n v).2=14)∧(i7 m a n v).1=m∧(i7 m a n v).2=dO m a 2 n 0∧dO m a 2 n 0≠0)∨((i7 m a n v).2=0∧dO m a 2 n 0=0∧Laid m a (leB v n) n (i7 m a n v).1)):=by
 obtain⟨n1,n8⟩:=di hn
 have hl:=hm.len
 have key:∃x e,bO (((m,()),(a,((n:Int),(v,())))),())=some (((),(e,())),(x,()))∧
   (((e=13∨e=14)∧x=m∧e=dO m a 2 n 0∧dO m a 2 n 0≠0)∨(e=0∧dO m a 2 n 0=0∧Laid m a (leB v n) n x)):=by
  unfold bO
  dsimp only
  rw[mz m hm.r a 2 n (by omega) ha (by decide) n1,aa]
  dsimp only
  by_cases hf:dO m a 2 n 0=0
  ·have hok:=mr hm.r n 0 hf
   have hok:∀k,k<(leB v n).length→¬fnd m (a+(k:Nat))<0:=fun k hk=>hok k (Nat.zero_le _) (by rw[ni]at hk;omega)
   obtain⟨x,hx1,hx2⟩:=lay_ex m hm a (leB v n) ha (by rw[ni];omega) hok
   rw[ni]at hx2
   refine⟨x,0,?_,.inr ⟨rfl,hf,hx2⟩⟩
   rw[hf,bn rfl,cc,ap,zD v n n8,aa,hx1,aa]
  ·refine⟨m,dO m a 2 n 0,?_,.inl ⟨by rcases oH m a 2 n 0 with h|h|h;exact absurd h hf;exact .inl h;exact .inr h,rfl,rfl,hf⟩⟩
   rw[aG hf,dp,aR,rp m (by omega),aa]
 obtain⟨x,e,h1,h2⟩:=key
 unfold i7
 rw[h1]
 exact⟨rfl,h2⟩
theorem C8 {m:List Page}(hm:MemT m){a v:Int}{n:Nat}(hn:bX (n:Int)=true)(ha:I64 a):MemT (i7 m a n v).1:=by
 rcases(sn m hm a v n hn ha).2 with ⟨_,h,_⟩|⟨_,_,h⟩
 ·rw[h];exact hm
 ·exact h.memT hm
theorem zG (m:List Page)(a:Int)(n:Nat):I64 (pf m a n).1:=by
 unfold pf
 split
 ·exact aD _
 ·unfold I64;dsimp only;omega
structure MS where
 g:List Int
 m:List Page
 code:Int
 l:List Acc
abbrev TM:=(List Int×Int×Int×Int×Int×Unit)×List Page×List Acc×Unit
def MS.t (s:MS)(rip fl nx:Int):TM:=((s.g,rip,fl,nx,s.code,()),s.m,s.l,())
abbrev rg (g:List Int)(i:Int):Int:=aj g i (ag .i)
def je (g:List Int):Prop:=∀i,I64 (rg g i)
structure MS.ok (s:MS)(k:Nat):Prop where
 m:MemT s.m
 l:s.l.length≤k
 g:je s.g
theorem MS.ok.mono {s:MS}{k j:Nat}(h:s.ok k)(hk:k≤j):s.ok j:=⟨h.m,Nat.le_trans h.l hk,h.g⟩
def MS.ld (s:MS)(a:Int)(n:Nat):Int×MS:=
 if s.code≠0 then(0,s)else((pf s.m a n).1,{s with code:=(pf s.m a n).2,l:=s.l++[Acc.mk 1 a n (pf s.m a n).1]})
def MS.st (s:MS)(a:Int)(n:Nat)(v:Int):MS:=
 if s.code≠0 then s else {s with m:=(i7 s.m a n v).1,code:=(i7 s.m a n v).2,l:=s.l++[Acc.mk 2 a n (bL v n)]}
theorem Bv {α:Type}{xs:List α}{x:α}(h:xs.length≤1000):eP xs [x]=true:=by
 exact j6 (by simp;omega)
theorem zH {s:MS}{k:Nat}(hs:s.ok k)(hk:k≤1000){a:Int}(ha:I64 a){n:Nat}(hn:bX (n:Int)=true)(rip fl nx:Int):
  aL ((a,((n:Int),())),s.t rip fl nx)=some ((s.ld a n).1,(s.ld a n).2.t rip fl nx):=by
 obtain⟨n1,n8⟩:=di hn
 unfold aL MS.t MS.ld
 dsimp only
 by_cases hc:s.code=0
 ·rw[hc,if_neg (by simp),bn rfl,cc,ap,tz _ hs.m.r a n n1 n8 ha,aa]
  dsimp only
  rw[Bv (Nat.le_trans hs.l hk),aR]
  rfl
 ·rw[if_pos hc,aG hc,dp,aR]
theorem vP {s:MS}{k:Nat}(hs:s.ok k)(hk:k≤1000){a v:Int}(ha:I64 a){n:Nat}(hn:bX (n:Int)=true)(rip fl nx:Int):
  aE ((a,((n:Int),(v,()))),s.t rip fl nx)=some ((),(s.st a n v).t rip fl nx):=by
 unfold aE MS.t MS.st
 dsimp only
 by_cases hc:s.code=0
 ·rw[hc,if_neg (by simp),bn rfl,cc,ap,(sn _ hs.m a v n hn ha).1,aa,bB v n hn,aa]
  dsimp only
  rw[Bv (Nat.le_trans hs.l hk),aR]
  rfl
 ·rw[if_pos hc,aG hc,dp,aR]
theorem MS.ok.ld {s:MS}{k:Nat}(hs:s.ok k)(a:Int)(n:Nat):(s.ld a n).2.ok (k+1)∧I64 (s.ld a n).1∧(s.ld a n).2.g=s.g∧(s.ld a n).2.m=s.m:=by
 unfold MS.ld
 split
 ·exact⟨hs.mono (Nat.le_succ k),by unfold I64;dsimp only;omega,rfl,rfl⟩
 ·exact⟨⟨hs.m,by simp;exact hs.l,hs.g⟩,zG ..,rfl,rfl⟩
theorem MS.ok.st {s:MS}{k:Nat}(hs:s.ok k){a:Int}(ha:I64 a){n:Nat}(hn:bX (n:Int)=true)(v:Int):(s.st a n v).ok (k+1)∧(s.st a n v).g=s.g:=by
 unfold MS.st
 split
 ·exact⟨hs.mono (Nat.le_succ k),rfl⟩
 ·exact⟨⟨C8 hs.m hn ha,by simp;exact hs.l,hs.g⟩,rfl⟩
def setA (g:List Int)(i v:Int):List Int:=aN (cw 16 (ag .i) g) i v
def ji (g:List Int)(r:Int)(n:Nat):Int:=if 16≤r then bL (ci .i64 (rg g (r-16)) 8) 1 else bL (rg g r) n
def pQ (g:List Int)(r:Int)(n:Nat)(v:Int):List Int:=
 if 16≤r then setA g (r-16) (ior .i64 (fR .i64 (rg g (r-16)) 65280) (cH .i64 (bL v 1) 8))
 else if 4≤n then setA g r (bL v n)
 else setA g r (ax .i64 (rg g r) (aM .i64 (bL v n) (bL (rg g r) n)))
theorem je.setA {g:List Int}(h:je g){i v:Int}(hv:I64 v):je (setA g i v):=by
 intro j
 have h0:∀k:Nat,I64 (((cw 16 (ag .i) g)).getD k (ag .i)):=fun k=>by
  unfold cw
  rw[List.getD_eq_getElem?_getD,List.getElem?_append]
  split
  ·have:=h (k:Int)
   unfold rg aj at this
   rw[Int.toNat_natCast,List.getD_eq_getElem?_getD]at this
   exact this
  ·rw[List.getElem?_replicate]
   split
   ·exact(by unfold I64;decide:I64 (0:Int))
   ·exact(by unfold I64;decide:I64 (0:Int))
 unfold rg aj Go.Den.G.setA aN
 rw[List.getD_eq_getElem?_getD,List.getElem?_set]
 split
 ·split
  ·exact hv
  ·exact(by unfold I64;decide:I64 (0:Int))
 ·have:=h0 j.toNat
  rw[List.getD_eq_getElem?_getD]at this
  exact this
theorem rF {g:List Int}(h:je g){r:Int}{n:Nat}(hn:bX (n:Int)=true):I64 (ji g r n):=by
 unfold ji
 split
 ·exact dR (by
   have:=h (r-16)
   unfold I64 at this⊢
   unfold ci
   rw[show(2:Int)^min (Int.toNat 8) IntKind.i64.bits=256 from rfl,Int.fdiv_eq_ediv_of_nonneg _ (by decide)]
   omega) (by rfl)
 ·exact dR (h r) hn
theorem ki {g:List Int}(h:je g){r v:Int}(hv:I64 v){n:Nat}(hn:bX (n:Int)=true):je (pQ g r n v):=by
 unfold pQ
 split
 ·exact h.setA (jv ..)
 ·split
  ·exact h.setA (dR hv hn)
  ·exact h.setA (aD _)
theorem kC (r:Int):aB ((r,()),())=some (decide (16≤r∧r≤19),()):=by
 unfold aB
 dsimp only
 rw[kT,aa]
 congr 2
 unfold inB
 rw[Bool.eq_iff_iff]
 simp
def lz (g:List Int)(nx:Int)(o:Opd):Int:=
 let a:=if o.base=16 then ax .i64 o.disp nx else if 0≤o.base then ax .i64 o.disp (rg g o.base)else o.disp
 if 0≤o.index then ax .i64 a (bf .i64 (rg g o.index) o.scale)else a
structure OpV (o:Opd)(z:Int):Prop where
 r:o.kind≠2→(o.kind=1→qc o.reg z)
 b:o.kind=2→o.base≤16∧o.index≤15
 d:I64 o.disp
 i:I64 o.imm
theorem jU {g:List Int}{nx:Int}{o:Opd}{z:Int}(h:OpV o z):I64 (lz g nx o):=by
 unfold lz
 dsimp only
 split
 ·exact aD _
 ·split
  ·exact aD _
  ·split
   ·exact aD _
   ·exact h.d
def MS.rd (s:MS)(nx:Int)(o:Opd)(n:Nat):Int×MS:=
 if o.kind=1 then(ji s.g o.reg n,s)else if o.kind=2 then s.ld (lz s.g nx o) n else(o.imm,s)
def MS.wr (s:MS)(nx:Int)(o:Opd)(n:Nat)(v:Int):MS:=
 if o.kind=2 then s.st (lz s.g nx o) n v else {s with g:=pQ s.g o.reg n v}
theorem DI {s:MS}{k:Nat}(hs:s.ok k)(hk:k≤1000){o:Opd}{n:Nat}(hn:bX (n:Int)=true)(hv:OpV o n)(rip fl nx:Int):
  au ((cB o (),((n:Int),())),s.t rip fl nx)=some ((s.rd nx o n).1,(s.rd nx o n).2.t rip fl nx):=by
 unfold au
 dsimp only[cB,p5,p6]
 have hI:=jU (g:=s.g) (nx:=nx) hv
 have hl:=zH hs hk hI hn rip fl nx
 by_cases h1:o.kind=1
 ·have hr:=hv.r (by omega) h1
  unfold MS.rd
  rw[if_pos h1,bn h1,aR,kC,aa]
  unfold qc at hr
  dsimp only
  unfold ji MS.t
  by_cases h16:16≤o.reg
  ·rw[decide_eq_true ⟨h16,by omega⟩,aR,if_pos h16,eu (by omega) (by omega),ah (cu (by omega) (by omega)),show(1:Int)=((1:Nat):Int)from rfl,bB _ 1 rfl,aa]
  ·rw[decide_eq_false (by omega),ap,if_neg h16,ah (cu (by omega) (by omega)),bB _ n hn,aa]
 ·rw[aG h1,ap]
  by_cases h2:o.kind=2
  ·have hb:=hv.b h2
   unfold MS.rd
   rw[if_neg h1,if_pos h2,bn h2,aR]
   have hg:=(hs.ld (lz s.g nx o) n).2.2.1
   have hfin:∀a:Int,a=lz s.g nx o→(bnd (aL ((a,((n:Int),())),s.t rip fl nx)) (fun x5=>some (x5.1,((s.g,(rip,(fl,(nx,x5.2.1.2.2.2.2)))),x5.2.2))))=some ((s.ld (lz s.g nx o) n).1,(s.ld (lz s.g nx o) n).2.t rip fl nx):=by
    rintro _ rfl
    rw[hl,aa]
    unfold MS.t
    dsimp only
    rw[hg]
   unfold MS.t at hfin⊢
   dsimp only
   by_cases b16:o.base=16
   ·rw[bn b16,aR]
    by_cases hi:0≤o.index
    ·rw[ah (fv hi),ah (cu hi (by omega))]
     exact hfin _ (by unfold lz;dsimp only;rw[if_pos b16,if_pos hi])
    ·rw[aw (jy hi)]
     exact hfin _ (by unfold lz;dsimp only;rw[if_pos b16,if_neg hi])
   ·rw[aG b16,ap]
    by_cases hb0:0≤o.base
    ·rw[ah (fv hb0),ah (cu hb0 (by omega))]
     by_cases hi:0≤o.index
     ·rw[ah (fv hi),ah (cu hi (by omega))]
      exact hfin _ (by unfold lz;dsimp only;rw[if_neg b16,if_pos hb0,if_pos hi])
     ·rw[aw (jy hi)]
      exact hfin _ (by unfold lz;dsimp only;rw[if_neg b16,if_pos hb0,if_neg hi])
    ·rw[aw (jy hb0)]
     by_cases hi:0≤o.index
     ·rw[ah (fv hi),ah (cu hi (by omega))]
      exact hfin _ (by unfold lz;dsimp only;rw[if_neg b16,if_neg hb0,if_pos hi])
     ·rw[aw (jy hi)]
      exact hfin _ (by unfold lz;dsimp only;rw[if_neg b16,if_neg hb0,if_neg hi])
  ·unfold MS.rd
   rw[if_neg h1,if_neg h2,aG h2,ap]
theorem set_m {g:List Int}{r v:Int}{n:Nat}(hn:bX (n:Int)=true)(hr:qc r n){α:Type}(Z:List Int→Option α):
  (bnd (aB ((r,()),())) (fun x8=>(br x8.1 (br (inR (aM .i64 r 16) 16) (bnd (af ((v,(1,())),())) (fun x9=>Z (aN (cw 16 (ag .i) g) (aM .i64 r 16) (ior .i64 (fR .i64 (aj g (aM .i64 r 16) (ag .i)) 65280) (cH .i64 x9.1 8))))) none) (br (leI 4 (n:Int)) (bnd (af ((v,((n:Int),())),())) (fun x10=>(br (inR r 16) (Z (aN (cw 16 (ag .i) g) r x10.1)) none))) (br (inR r 16) (br (inR r 16) (bnd (af ((v,((n:Int),())),())) (fun x11=>(bnd (af (((aj g r (ag .i)),((n:Int),())),())) (fun x12=>(br (inR r 16) (Z (aN (cw 16 (ag .i) g) r (ax .i64 (aj g r (ag .i)) (aM .i64 x11.1 x12.1)))) none))))) none) none)))))=Z (pQ g r n v):=by
 unfold qc at hr
 rw[kC,aa]
 dsimp only
 unfold pQ Go.Den.G.setA
 by_cases h16:16≤r
 ·rw[decide_eq_true ⟨h16,by omega⟩,aR,if_pos h16,eu (by omega) (by omega),ah (cu (by omega) (by omega)),show(1:Int)=((1:Nat):Int)from rfl,bB _ 1 rfl,aa]
 ·rw[decide_eq_false (by omega),ap,if_neg h16]
  have hin:inR r 16=true:=cu (by omega) (by omega)
  by_cases h4:4≤n
  ·rw[ah (fv (by omega)),bB _ n hn,aa,hin,aR,if_pos h4]
  ·rw[aw (jy (by omega)),hin,aR,aR,bB _ n hn,bB _ n hn,aa,aa,aR,if_neg h4]
theorem write_m {s:MS}{k:Nat}(hs:s.ok k)(hk:k≤1000){o:Opd}{n:Nat}{v:Int}(hn:bX (n:Int)=true)(hv:OpV o n)(h0:o.kind=1∨o.kind=2)(rip fl nx:Int):
  an ((cB o (),((n:Int),(v,()))),s.t rip fl nx)=some ((),(s.wr nx o n v).t rip fl nx):=by
 unfold an
 dsimp only[cB,p5,p6]
 have hI:=jU (g:=s.g) (nx:=nx) hv
 have hl:=vP hs hk (v:=v) hI hn rip fl nx
 by_cases h2:o.kind=2
 ·have hb:=hv.b h2
  unfold MS.wr
  rw[if_pos h2,bn h2,aR]
  have hg:=(hs.st (v:=v) hI hn).2
  have hfin:∀a:Int,a=lz s.g nx o→(bnd (aE ((a,((n:Int),(v,()))),s.t rip fl nx)) (fun x5=>some ((),((s.g,(rip,(fl,(nx,x5.2.1.2.2.2.2)))),x5.2.2))))=some ((),(s.st (lz s.g nx o) n v).t rip fl nx):=by
   rintro _ rfl
   rw[hl,aa]
   unfold MS.t
   dsimp only
   rw[hg]
  unfold MS.t at hfin⊢
  dsimp only
  by_cases b16:o.base=16
  ·rw[bn b16,aR]
   by_cases hi:0≤o.index
   ·rw[ah (fv hi),ah (cu hi (by omega))]
    exact hfin _ (by unfold lz;dsimp only;rw[if_pos b16,if_pos hi])
   ·rw[aw (jy hi)]
    exact hfin _ (by unfold lz;dsimp only;rw[if_pos b16,if_neg hi])
  ·rw[aG b16,ap]
   by_cases hb0:0≤o.base
   ·rw[ah (fv hb0),ah (cu hb0 (by omega))]
    by_cases hi:0≤o.index
    ·rw[ah (fv hi),ah (cu hi (by omega))]
     exact hfin _ (by unfold lz;dsimp only;rw[if_neg b16,if_pos hb0,if_pos hi])
    ·rw[aw (jy hi)]
     exact hfin _ (by unfold lz;dsimp only;rw[if_neg b16,if_pos hb0,if_neg hi])
   ·rw[aw (jy hb0)]
    by_cases hi:0≤o.index
    ·rw[ah (fv hi),ah (cu hi (by omega))]
     exact hfin _ (by unfold lz;dsimp only;rw[if_neg b16,if_neg hb0,if_pos hi])
    ·rw[aw (jy hi)]
     exact hfin _ (by unfold lz;dsimp only;rw[if_neg b16,if_neg hb0,if_neg hi])
 ·have h1:o.kind=1:=by omega
  unfold MS.wr
  rw[if_neg h2,aG h2,ap]
  exact set_m hn (hv.r h2 h1) (fun g'=>some ((),((g',(rip,(fl,(nx,(s.code,()))))),(s.m,(s.l,())))))
theorem MS.ok.rd {s:MS}{k:Nat}(hs:s.ok k)(nx:Int){o:Opd}{n:Nat}(hn:bX (n:Int)=true)(hv:OpV o n):(s.rd nx o n).2.ok (k+1)∧I64 (s.rd nx o n).1∧(s.rd nx o n).2.g=s.g∧(s.rd nx o n).2.m=s.m:=by
 unfold MS.rd
 split
 ·exact⟨hs.mono (Nat.le_succ k),rF hs.g hn,rfl,rfl⟩
 ·split
  ·exact hs.ld ..
  ·exact⟨hs.mono (Nat.le_succ k),hv.i,rfl,rfl⟩
theorem MS.ok.wr {s:MS}{k:Nat}(hs:s.ok k)(nx:Int){o:Opd}{n:Nat}{v:Int}(hI:I64 v)(hn:bX (n:Int)=true)(hv:OpV o n):(s.wr nx o n v).ok (k+1):=by
 unfold MS.wr
 split
 ·exact(hs.st (jU hv) hn v).1
 ·exact⟨hs.m,Nat.le_trans hs.l (Nat.le_succ k),ki hs.g hI hn⟩
def MS.pu (s:MS)(v:Int):MS:=({s with g:=setA s.g 4 (aM .i64 (rg s.g 4) 8)}:MS).st (rg (setA s.g 4 (aM .i64 (rg s.g 4) 8)) 4) 8 v
def MS.po (s:MS):Int×MS:=((s.ld (rg s.g 4) 8).1,{(s.ld (rg s.g 4) 8).2 with g:=setA s.g 4 (ax .i64 (rg s.g 4) 8)})
theorem MS.ok.setA {s:MS}{k:Nat}(hs:s.ok k){i v:Int}(hv:I64 v):MS.ok {s with g:=Go.Den.G.setA s.g i v} k:=⟨hs.m,hs.l,hs.g.setA hv⟩
theorem MS.ok.pu {s:MS}{k:Nat}(hs:s.ok k)(v:Int):(s.pu v).ok (k+1):=by
 have h1:=hs.setA (i:=4) (v:=aM .i64 (rg s.g 4) 8) (aD _)
 exact(h1.st (h1.g 4) rfl v).1
theorem MS.ok.po {s:MS}{k:Nat}(hs:s.ok k):s.po.2.ok (k+1)∧I64 s.po.1∧s.po.2.m=s.m:=by
 have h1:=hs.ld (rg s.g 4) 8
 unfold MS.po
 exact⟨⟨h1.1.m,h1.1.l,hs.g.setA (aD _)⟩,h1.2.1,h1.2.2.2⟩
theorem push_m {s:MS}{k:Nat}(hs:s.ok k)(hk:k≤1000)(v rip fl nx:Int):bQ ((v,()),s.t rip fl nx)=some ((),(s.pu v).t rip fl nx):=by
 have h1:=hs.setA (i:=4) (v:=aM .i64 (rg s.g 4) 8) (aD _)
 have h2:=vP h1 hk (a:=rg (setA s.g 4 (aM .i64 (rg s.g 4) 8)) 4) (v:=v) (n:=8) (h1.g 4) rfl rip fl nx
 have h3:=(h1.st (a:=rg (setA s.g 4 (aM .i64 (rg s.g 4) 8)) 4) (n:=8) (h1.g 4) rfl v).2
 unfold bQ
 unfold MS.t at h2⊢
 dsimp only at h2 h3⊢
 have h2':aE (((aj (aN (cw 16 (ag .i) s.g) 4 (aM .i64 (aj s.g 4 (ag .i)) 8)) 4 (ag .i)),(8,(v,()))),(((aN (cw 16 (ag .i) s.g) 4 (aM .i64 (aj s.g 4 (ag .i)) 8)),(rip,(fl,(nx,(s.code,()))))),(s.m,(s.l,()))))=_:=h2
 rw[h2',aa]
 unfold MS.pu
 dsimp only
 rw[h3]
 rfl
theorem pop_m {s:MS}{k:Nat}(hs:s.ok k)(hk:k≤1000)(rip fl nx:Int):bY ((),s.t rip fl nx)=some (s.po.1,s.po.2.t rip fl nx):=by
 have h2:=zH hs hk (a:=rg s.g 4) (n:=8) (hs.g 4) rfl rip fl nx
 unfold bY
 unfold MS.t at h2⊢
 dsimp only at h2⊢
 have h2':aL (((aj s.g 4 (ag .i)),(8,())),((s.g,(rip,(fl,(nx,(s.code,()))))),(s.m,(s.l,()))))=_:=h2
 rw[h2',aa]
 rfl
def MS.go (s:MS)(nx:Int)(x:Ins):Int×MS:=if x.src.kind=3 then(ax .i64 nx x.src.imm,s)else s.rd nx x.src 8
theorem goal_m {s:MS}{k:Nat}(hs:s.ok k)(hk:k≤1000){x:Ins}(hv:OpV x.src 8)(rip fl nx:Int):bg ((x,()),s.t rip fl nx)=some ((s.go nx x).1,(s.go nx x).2.t rip fl nx):=by
 have hr:=DI hs hk (n:=8) rfl hv rip fl nx
 have hg:=(hs.rd nx (n:=8) rfl hv).2.2.1
 unfold bg MS.go
 dsimp only
 by_cases h3:x.src.kind=3
 ·rw[bn h3,aR,if_pos h3]
  rfl
 ·rw[aG h3,ap,if_neg h3]
  have hr':au ((cB x.src (),(8,())),s.t rip fl nx)=_:=hr
  rw[hr',aa]
  unfold MS.t
  dsimp only
  rw[hg]
theorem MS.ok.go {s:MS}{k:Nat}(hs:s.ok k)(nx:Int){x:Ins}(hv:OpV x.src 8):(s.go nx x).2.ok (k+1)∧I64 (s.go nx x).1:=by
 unfold MS.go
 split
 ·exact⟨hs.mono (Nat.le_succ k),aD _⟩
 ·have:=hs.rd nx (n:=8) rfl hv
  exact⟨this.1,this.2.1⟩
end
end Go.Den.G
namespace Go.Den.G
open Go.Den
set_option maxRecDepth 100000
set_option synthInstance.maxSize 4000
set_option synthInstance.maxHeartbeats 400000
def kOf (c:UInt8):Int:=if c=114 then 1 else if c=109 then 2 else if c=105 then 3 else 0
def kindT (n:Nat)(kd ks:Int):Bool:=
 decide ((n≤12∨17≤n∧n≤28∨n=30∨n=35∨n=36→kd=1∨kd=2)∧(n=28→ks=1)∧(n=25→kd=1∧ks=2)∧
  (n=9→kd=2→ks≠2)∧(n=26∨n=27∨n=36∨n=17→kd=1∧(ks=1∨ks=2))∧(13≤n∧n≤16→ks=1∨ks=2)∧(n=29∨n=31∨n=32→ks=1∨ks=2∨ks=3)∧(n=33→ks=3)∧
  (20≤n∧n≤24→ks=1∨ks=3)∧(n=11∨n=12∨n=18∨n=19→ks=0)∧(n≤8∨n=10∨n=17→ks=1∨ks=2∨ks=3))
theorem BV:∀n,n<45→1≤n→∀q∈prK n,q.length=2∧q.getD 0 0∈ro∧q.getD 1 0∈ro∧kindT n (kOf (q.getD 0 0)) (kOf (q.getD 1 0))=true:=by decide +kernel
theorem Dx {k:Int}{c:UInt8}(hc:c∈ro)(h:lU k c):k=kOf c:=by
 have hc:c=114∨c=109∨c=105∨c=48:=by simpa[ro]using hc
 unfold lU at h
 rcases hc with rfl|rfl|rfl|rfl<;>revert h<;>unfold kOf<;>intro h<;>simp at h⊢ <;>omega
theorem BU {n:Nat}(h1:1≤n)(h2:n<45){kd ks:Int}(h:(prK n).any (jd kd ks)=true):kindT n kd ks=true:=by
 rw[List.any_eq_true]at h
 obtain⟨q,hq,hp⟩:=h
 obtain⟨l,a,b,t⟩:=BV n h2 h1 q hq
 match q,l with
 |[c,d],_=>
  simp only[jd,Bool.and_eq_true,decide_eq_true_eq]at hp
  rw[Dx (c:=c) a hp.1,Dx (c:=d) b hp.2]
  exact t
def sizeT (n:Nat)(z:Int):Bool:=decide ((n≤28∨n=36∨n=40→bX z=true)∧(n=39→z=2∨z=4∨z=8)∧(29≤n∧n≤32→z=8)∧(n=35→z=1)∧(n=33→z=0))
theorem C6:∀n,n<45→1≤n→∀z∈szL (szK n),sizeT n z=true:=by decide +kernel
structure ExV (x:Ins)(n:Nat):Prop where
 op:x.op=n
 n1:1≤n
 n2:n<45
 kt:kindT n x.dst.kind x.src.kind=true
 zt:sizeT n x.size=true
 dv:OpV x.dst x.size
 sv:OpV x.src (sSz x n)
 fr:(n=26∨n=27→bX x.frm=true)∧(¬(n=26∨n=27)→x.frm=0)
 c0:0≤x.cond
 c1:x.cond≤15
theorem Dl {o:Opd}{z:Int}(h:nQ o z)(hd:I64 o.disp)(hi:I64 o.imm):OpV o z:=by
 unfold nQ opB qQ at h
 refine⟨fun _ h1=>?_,fun h2=>?_,hd,hi⟩
 ·rcases h with h|h|h|h
  ·exact h.2.2.2.2.2.2
  ·omega
  ·omega
  ·omega
 ·rcases h with h|h|h|h
  ·omega
  ·omega
  ·omega
  ·omega
theorem ExV_of {x:Ins}{n:Nat}(hop:x.op=n)(h1:1≤n)(h2:n<45)(h:xC x n)(hI:I64 x.dst.disp∧I64 x.dst.imm∧I64 x.src.disp∧I64 x.src.imm):ExV x n:=by
 obtain⟨_,_,hs,hf,_,c0,c1,hd,hsr,_⟩:=h
 unfold shB at hs
 simp only[Bool.and_eq_true,decide_eq_true_eq]at hs
 obtain⟨hz,hk,hnum⟩:=hs
 refine⟨hop,h1,h2,BU h1 h2 hk,C6 n h2 h1 _ hz,Dl hd hI.1 hI.2.1,Dl hsr hI.2.2.1 hI.2.2.2,⟨fun h=>?_,fun h=>?_⟩,c0,c1⟩
 ·unfold numB at hnum
  rcases h with rfl|rfl
  ·have hnum:decide (x.frm=1∨x.frm=2∧2<x.size)=true:=hnum
   rcases of_decide_eq_true hnum with h|h
   ·rw[h];rfl
   ·rw[h.1];rfl
  ·have hnum:decide (x.frm=1∨x.frm=2∧2<x.size∨x.frm=4∧x.size=8)=true:=hnum
   rcases of_decide_eq_true hnum with h|h|h
   ·rw[h];rfl
   ·rw[h.1];rfl
   ·rw[h.1];rfl
 ·rcases hf with h'|h'
  ·exact absurd h' h
  ·exact h'
theorem ExV.kd {x:Ins}{n:Nat}(h:ExV x n):(n≤12∨17≤n∧n≤28∨n=30∨n=35∨n=36→x.dst.kind=1∨x.dst.kind=2)∧(n=28→x.src.kind=1)∧(n=25→x.dst.kind=1∧x.src.kind=2)∧
  (n=9→x.dst.kind=2→x.src.kind≠2)∧(n=26∨n=27∨n=36∨n=17→x.dst.kind=1∧(x.src.kind=1∨x.src.kind=2))∧(13≤n∧n≤16→x.src.kind=1∨x.src.kind=2)∧(n=29∨n=31∨n=32→x.src.kind=1∨x.src.kind=2∨x.src.kind=3)∧(n=33→x.src.kind=3)∧
  (20≤n∧n≤24→x.src.kind=1∨x.src.kind=3)∧(n=11∨n=12∨n=18∨n=19→x.src.kind=0)∧(n≤8∨n=10∨n=17→x.src.kind=1∨x.src.kind=2∨x.src.kind=3):=of_decide_eq_true h.kt
theorem ExV.szs {x:Ins}{n:Nat}(h:ExV x n):(n≤28∨n=36∨n=40→bX x.size=true)∧(n=39→x.size=2∨x.size=4∨x.size=8)∧(29≤n∧n≤32→x.size=8)∧(n=35→x.size=1)∧(n=33→x.size=0):=of_decide_eq_true h.zt
theorem nY {z:Int}(h:bX z=true):∃k:Nat,z=(k:Int)∧bX (k:Int)=true:=by
 obtain⟨k,hk,_⟩:=BP h
 exact⟨k,hk,by rw[←hk];exact h⟩
end Go.Den.G
