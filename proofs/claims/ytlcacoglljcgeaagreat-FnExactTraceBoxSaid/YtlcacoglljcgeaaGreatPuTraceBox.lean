/- Theory for the proofs of this claim: see its last text. -/
import Derived.Test.YtlcacoglljcgeaaGreatFnTraceBox
import Derived.Test.YtlcacoglljcgeaaGreatDenF
import Derived.KernelRfl
import Derived.Laws.MathBits
import Derived.Test.YtlcacoglljcgeaaGreatPbTraceBox
namespace Go.Den.G
open Go.Den
set_option maxRecDepth 100000
noncomputable section
theorem szN_all:∀n,n<45->1<=n->∀z∈szL (szK n),(0:Int)<=z:=by decide +kernel
theorem m5.plain {g:List Int}{m:List Page}{c:Int}{l:List Acc}{k:Nat}(hs:(MS.mk g m c l).ok k)(hk:k+4<=1000){x:Ins}{n:Nat}{rip fl nx:Int}{e:MS×Int×Int}(hx:ExV x n)(hn:29<=n)(h:m5 g m c l x rip fl nx e):fQ g m c l x rip fl nx e:=by
 obtain⟨S,fl',nx',hr,hR⟩:=h
 exact Bz hs hk hx hn hr hR
theorem plain_r {g:List Int}{rip fl:Int}{m:List Page}{x:Ins}{n z:Nat}(hm:MemT m)(hg:iH g)(hI:I64 fl)(hf:bS fl=true)(hx:ExV x n)(hz:x.size=z):
  fQ g m 0 [] x rip fl (aB .i64 rip x.len) (exM g rip fl m x n z):=by
 have hs:(MS.mk g m 0 []).ok 0:=⟨hm,Nat.le_refl 0,hg⟩
 have hk:0+4<=1000:=by decide
 have h1:=hx.n1
 have h2:=hx.n2
 have hnx:I64 (aB .i64 rip x.len):=au _
 unfold exM
 dsimp only
 by_cases hmv:mvB n=true
 ·rw[if_pos hmv]
  have hn:=of_decide_eq_true hmv
  rcases hn with rfl|rfl|rfl|rfl|rfl|rfl|rfl|rfl|rfl
  ·exact plain_9 hs hk hx hz
  ·exact Hb hs hk hx hz
  ·exact G8 hs hk hx hz
  ·exact G9 hs hk hx hz
  ·exact Ha hs hk hx hz
  ·exact(GU hs hk hx).plain hs hk hx (by decide)
  ·exact(GV hs hk hx hz).plain hs hk hx (by decide)
  ·exact(GY hs hk hx hz).plain hs hk hx (by decide)
  ·exact(GZ hs hk hx hz).plain hs hk hx (by decide)
 ·rw[if_neg hmv]
  by_cases hwd:wdB n=true
  ·rw[if_pos hwd]
   have hn:=of_decide_eq_true hwd
   exact BA hs hk hx hz hI hf (by omega)
  ·rw[if_neg hwd]
   by_cases hfw:fwB n=true
   ·rw[if_pos hfw]
    have hn:=of_decide_eq_true hfw
    rcases hn with rfl|rfl|rfl|rfl|rfl|rfl|rfl|rfl|rfl|rfl|rfl|rfl
    ·exact(GO hs hk hx).plain hs hk hx (by decide)
    ·exact(GP hs hk hx).plain hs hk hx (by decide)
    ·exact(GQ hs hk hx hnx).plain hs hk hx (by decide)
    ·exact(GT hs hk hx).plain hs hk hx (by decide)
    ·exact(GR hs hk hx).plain hs hk hx (by decide)
    ·exact(GS hs hk hx).plain hs hk hx (by decide)
    ·exact(G0 hs hk hx).plain hs hk hx (by decide)
    ·exact(G1 hs hk hx).plain hs hk hx (by decide)
    ·exact(GX hs hk hx).plain hs hk hx (by decide)
    ·exact(G2 hs hk hx).plain hs hk hx (by decide)
    ·exact(G3 hs hk hx).plain hs hk hx (by decide)
    ·exact(GW hs hk hx).plain hs hk hx (by decide)
   ·rw[if_neg hfw]
    have n1:=of_decide_eq_false (Bool.eq_false_iff.2 hmv)
    have n2:=of_decide_eq_false (Bool.eq_false_iff.2 hwd)
    have n3:=of_decide_eq_false (Bool.eq_false_iff.2 hfw)
    by_cases ha:n<=8\/n=10
    ·exact Eb hs hk hx hz ha
    by_cases hb:n=11\/n=12\/n=18\/n=19
    ·exact Ec hs hk hx hz hI hf hb
    by_cases hc:20<=n/\n<=24
    ·exact y6 hs hk hx hz hI hf hc
    have:n=17:=by omega
    subst this
    exact By hs hk hx hz hI hf
def exS (g:List Int)(rip fl:Int)(m:List Page)(r:MS×Int×Int):((List Int×Int×Int×Unit)×(List Page×Unit)×List Acc×Int×Unit)×Unit:=
 if r.1.code≠0 then(((g,rip,fl,()),(m,()),r.1.l,r.1.code,()),())else(((r.1.g,r.2.1,r.2.2,()),(r.1.m,()),r.1.l,0,()),())
theorem exec_r {g:List Int}{rip fl:Int}{m:List Page}{x:Ins}{n z:Nat}(hm:MemT m)(hg:iH g)(hI:I64 fl)(hf:bS fl=true)(hx:ExV x n)(hz:x.size=z):
  im (((g,rip,fl,()),(m,()),x,()),())=some (exS g rip fl m (exM g rip fl m x n z)):=by
 obtain⟨S,fl',nx',hr,h1,h2,h3⟩:=plain_r (rip:=rip) hm hg hI hf hx hz
 generalize exM g rip fl m x n z=e at h1 h2 h3
 unfold im
 dsimp only
 rw[ec,aa]
 dsimp only
 rw[hr,aa]
 unfold MS.r exS
 dsimp only[p5,d5]
 rw[h1,h2]
 by_cases hc:e.1.code=0
 ·obtain⟨hS,rfl,rfl⟩:=h3 hc
  rw[hc,be rfl,bE,ak,iD,hS]
 ·rw[aq hc,bU,aE,if_pos hc]
end
set_option maxRecDepth 100000
abbrev Shz:=Int×Int×Int×Bool×Int×Unit
def shz (sec:Bool)(n:Nat):Shz:=match cP ((sec,(n:Int),()),())with
 |some x=>x.1
 |none=>(0,0,0,false,0,())
theorem Ew:∀n:Nat,n<256->(cP ((false,(n:Int),()),())).isSome=true/\(cP ((true,(n:Int),()),())).isSome=true:=by decide +kernel
theorem yG (sec:Bool){n:Nat}(h:n<256):cP ((sec,(n:Int),()),())=some (shz sec n,()):=by
 have h2:(cP ((sec,(n:Int),()),())).isSome=true:=by cases sec;exact(Ew n h).1;exact(Ew n h).2
 unfold shz
 cases hx:cP ((sec,(n:Int),()),())with
 |none=>rw[hx]at h2;cases h2
 |some x=>rfl
def shR (z:Shz):(Shz×Int×Unit)×Unit:=((if z.2.1=0 then(0,0,0,false,0,())else z,if z.2.1=0 then 11 else 0,()),())
instance decShz:DecidableEq (Int×Int×Int×Bool×Int×Unit):=inferInstance
instance decShz2:DecidableEq ((Int×Int×Int×Bool×Int×Unit)×Int×Unit):=inferInstance
def okSh (sec:Bool)(n:Nat):Bool:=decide (gV ((sec,(n:Int),()),())=some (shR (shz sec n)))
theorem Hk:∀n:Nat,n<256->okSh false n=true:=by decide +kernel
theorem Hl:∀n:Nat,n<256->okSh true n=true:=by decide +kernel
theorem AM (sec:Bool){n:Nat}(h:n<256):gV ((sec,(n:Int),()),())=some (shR (shz sec n)):=by
 cases sec
 ·exact of_decide_eq_true (Hk n h)
 ·exact of_decide_eq_true (Hl n h)
def oF (f:Int):Bool:=decide (f=1\/f=2\/f=4\/f=5\/f=6\/f=11\/f=12\/f=13\/f=17)
theorem Dk:∀n:Nat,n<18->fW (((n:Int),()),())=some (oF n,()):=by decide +kernel
theorem Dl:∀n:Nat,n<18->dr (((n:Int),()),())=some (oF n,()):=by decide +kernel
def shP (z:Shz):Bool:=decide (0<=z.1/\z.1<=44/\0<=z.2.1/\z.2.1<18/\0<=z.2.2.1/\z.2.2.1<=7/\(z.2.2.2.2.1=0\/z.2.1=17/\(z.2.2.2.2.1=1\/z.2.2.2.2.1=2\/z.2.2.2.2.1=4))/\(z.2.1=17->z.2.2.2.2.1≠0)/\(0<z.2.2.1->oF z.2.1=true/\z.2.1≠17/\z.1=0)/\(z.1=25->z.2.1=2)/\(z.2.1≠0->z.2.2.1=0->1<=z.1))
theorem Hh:∀n:Nat,n<256->shP (shz false n)=true:=by decide +kernel
theorem Hi:∀n:Nat,n<256->shP (shz true n)=true:=by decide +kernel
theorem Hj (sec:Bool){n:Nat}(h:n<256):shP (shz sec n)=true:=by
 cases sec
 ·exact Hh n h
 ·exact Hi n h
def grp (g d:Nat):Int:=match gl (((g:Int),(d:Int),()),())with
 |some x=>x.1
 |none=>0
theorem yF:∀g:Nat,g<8->1<=g->∀d:Nat,d<8->gl (((g:Int),(d:Int),()),())=some (grp g d,()):=by decide +kernel
def gpR (o:Int):(Int×Int×Unit)×Unit:=((o,if o=0 then 11 else 0,()),())
def okGp (g d:Nat):Bool:=decide (gU (((g:Int),(d:Int),()),())=some (gpR (grp g d)))
theorem gp_impl:∀g:Nat,g<8->1<=g->∀d:Nat,d<8->okGp g d=true:=by decide +kernel
theorem AK {g d:Nat}(h:g<8)(h1:1<=g)(k:d<8):gU (((g:Int),(d:Int),()),())=some (gpR (grp g d)):=of_decide_eq_true (gp_impl g h h1 d k)
theorem Dh:∀g:Nat,g<8->∀d:Nat,d<8->0<=grp g d/\grp g d<=44:=by decide +kernel
def cR (op:Int):Bool:=decide (op=29\/op=30\/op=31\/op=32)
def eK (op:Int):Bool:=decide (op=33\/op=34\/op=37\/op=38\/op=43\/op=44)
theorem Ba:∀n:Nat,n<45->fB (((n:Int),()),())=some ((if cR n=true then(8,true,())else if eK n=true then(0,true,())else(0,false,())),()):=by decide +kernel
def szM (by':Bool)(op:Int)(w:Bool)(x:Int):Int:=if cR op=true then 8 else if eK op=true then 0 else if by'=true then 1 else if x/8%2=1 then 8 else if w=true then 2 else 4
def qG:List Int:=[38,46,54,62,100,101,102,103,240,242,243]
theorem G7:∀n:Nat,n<256->fH (((n:Int),()),())=some (decide ((n:Int)∈qG/\n≠102),()):=by decide +kernel
section
variable {t:List UInt8}{a c:Int}
theorem CG {x:Int}(nw hr:Bool)(r:_):aP ((0,()),(t,a,c,nw,x%16,hr,r),())=some (jL x 0,(t,a,c,nw,x%16,hr,r),()):=ug 0 (by decide) nw hr r
theorem dbit1 {x:Int}(nw hr:Bool)(r:_):aP ((1,()),(t,a,c,nw,x%16,hr,r),())=some (jL x 1,(t,a,c,nw,x%16,hr,r),()):=ug 1 (by decide) nw hr r
theorem dbit2 {x:Int}(nw hr:Bool)(r:_):aP ((2,()),(t,a,c,nw,x%16,hr,r),())=some (jL x 2,(t,a,c,nw,x%16,hr,r),()):=ug 2 (by decide) nw hr r
theorem dbit3 {x:Int}(nw hr:Bool)(r:_):aP ((3,()),(t,a,c,nw,x%16,hr,r),())=some (jL x 3,(t,a,c,nw,x%16,hr,r),()):=ug 3 (by decide) nw hr r
theorem lh {x:Int}{k:Nat}(hk:k<4):0<=jL x k/\jL x k<=8/\(x=0->jL x k=0):=by
 rcases qY (x:=x) hk with h|h<;>omega
theorem xw {b:Int}(h0:0<=b)(h1:b<256):dD .i64 1 (b/64)=2^(b/64).toNat:=by
 have:b/64=0\/b/64=1\/b/64=2\/b/64=3:=by omega
 rcases this with h|h|h|h<;>rw[h]<;>decide
theorem lM {α:Type}{o:Option α}{f:Int->Int->α}{p:Int->Int->Prop}(h:Ret o fun y=>∃a c,y=f a c/\p a c):∃a c,o=some (f a c)/\p a c:=by
 obtain⟨y,e,a,c,rfl,h⟩:=h
 exact⟨a,c,e,h⟩
theorem jf {x m z:Int}(hm0:0<=m)(hm:m<256)(nw:Bool)(op z0 z1 z2:Int)(z3:Bool)(z4 rg:Int)(r:_)
  (hl:(t.length:Int)<=1099511627776) (hp:(aI a c).In t):
  ∃a' c',bb ((z,()),(t,a,c,nw,x%16,decide (x≠0),op,z0,z1,z2,z3,z4,m/64,rg,m%8,r),())=
   some (c9 (plM t x m z (aI a c)).1 (),(t,a',c',nw,x%16,decide (x≠0),op,z0,z1,z2,z3,z4,m/64,rg,m%8,r),())/\aI a' c'=(plM t x m z (aI a c)).2:=by
 have hmd:0<=m/64/\m/64<=3:=by omega
 have hrm:0<=m%8/\m%8<=7:=by omega
 unfold bb plM
 dsimp only[p12,p14]
 generalize m/64=md at hmd|-
 generalize m%8=rm at hrm|-
 obtain⟨e0,e8,ez⟩:=lh (x:=x) (k:=0) (by decide)
 have⟨f0,f8,_⟩:=lh (x:=x) (k:=1) (by decide)
 by_cases h3:md=3
 ·rw[ae (be h3),if_pos h3,CG,aa]
  dsimp only
  rw[aH,ye (by omega) (by omega) (by omega),aa]
  exact⟨a,c,rfl,rfl⟩
 ·rw[ag (aq h3),if_neg h3,CG,aa]
  dsimp only
  unfold Ch
  by_cases h4:rm=4
  ·rw[ae (be h4),if_pos h4]
   obtain⟨a1,c1,hn,hq⟩:=kx 1 (nw,x%16,decide (x≠0),op,z0,z1,z2,z3,z4,md,rg,rm,r) (by decide) (by decide) hl hp
   rw[hn,aa]
   dsimp only
   rw[CG,aa,dbit1,aa]
   dsimp only
   rw[<-hq]
   have hb:=dK t (aI a c) hp
   generalize rdU t 1 (aI a c)=b at hb|-
   obtain⟨b6,b3,b0,_⟩:=bI hb.1 hb.2
   rw[b6,b3,b0,aH,aH,xw hb.1 hb.2]
   refine lM (Ret.bnd (Q:=fun y=>y=Sum.inl ((decide (md=2\/md=0/\b%8=5),()),(t,a1,c1,nw,x%16,decide (x≠0),op,z0,z1,z2,z3,z4,md,rg,rm,r),(0,0,0,0,0,0,0,()),
    (2,0,(if md=0/\b%8=5 then -1 else b%8+jL x 0),(if b/8%8+jL x 1=4 then -1 else b/8%8+jL x 1),(if b/8%8+jL x 1=4 then 1 else 2^(b/64).toNat),0,0,()),())) ?_ ?_)
   ·have hle:leI 0 (b/64)=true:=fu
    by_cases hA:b/8%8+jL x 1=4<;>by_cases hB:md=0<;>by_cases hC:b%8=5<;>
     simp[b0,hle,hA,hB,hC,eqI,aQ,br,bnd,aU,Ret]
   ·rintro _ rfl
    rw[ah]
    dsimp only[p12,d6]
    have hin:(aI a1 c1).In t:=by rw[hq];exact hp.adv (by decide)
    by_cases hW:md=2\/md=0/\b%8=5
    ·rw[ae (decide_eq_true hW)]
     obtain⟨a2,c2,hn2,hq2⟩:=fN 4 (nw,x%16,decide (x≠0),op,z0,z1,z2,z3,z4,md,rg,rm,r) (by decide) (by decide) hl hin
     have hd:lD md rm b=4:=by unfold lD;repeat' split
                              all_goals omega
     rw[hn2,aa,hd]
     exact Ret.some ⟨a2,c2,rfl,hq2⟩
    ·rw[ag (decide_eq_false hW)]
     by_cases h1:md=1
     ·rw[ae (be h1)]
      obtain⟨a2,c2,hn2,hq2⟩:=fN 1 (nw,x%16,decide (x≠0),op,z0,z1,z2,z3,z4,md,rg,rm,r) (by decide) (by decide) hl hin
      have hd:lD md rm b=1:=by unfold lD;repeat' split
                               all_goals omega
      rw[hn2,aa,hd]
      exact Ret.some ⟨a2,c2,rfl,hq2⟩
     ·rw[ag (aq h1)]
      have hd:lD md rm b=0:=by unfold lD;repeat' split
                               all_goals omega
      rw[hd]
      exact Ret.some ⟨a1,c1,rfl,rfl⟩
  ·rw[ag (aq h4),if_neg h4]
   refine lM (Ret.bnd (Q:=fun y=>y=Sum.inl ((decide (md=2\/md=0/\rm=5),()),(t,a,c,nw,x%16,decide (x≠0),op,z0,z1,z2,z3,z4,md,rg,rm,r),(0,0,0,0,0,0,0,()),
    (2,0,(if md=0/\rm=5 then 16 else rm+jL x 0),-1,1,0,0,()),())) ?_ ?_)
   ·rw[aH]
    by_cases hB:md=0<;>by_cases hC:rm=5<;>
     simp[hB,hC,eqI,br,bnd,aU,Ret]
   ·rintro _ rfl
    rw[ah]
    dsimp only[p12,d6]
    by_cases hR:rm=5/\md=0
    ·rw[ae (decide_eq_true (.inr ⟨hR.2,hR.1⟩)),if_pos ⟨hR.2,hR.1⟩,if_pos hR]
     obtain⟨a2,c2,hn2,hq2⟩:=fN 4 (nw,x%16,decide (x≠0),op,z0,z1,z2,z3,z4,md,rg,rm,r) (by decide) (by decide) hl hp
     rw[hn2,aa]
     exact Ret.some ⟨a2,c2,rfl,hq2⟩
    ·rw[if_neg (fun g=>hR ⟨g.2,g.1⟩),if_neg hR]
     by_cases hW:md=2
     ·rw[ae (decide_eq_true (.inl hW))]
      obtain⟨a2,c2,hn2,hq2⟩:=fN 4 (nw,x%16,decide (x≠0),op,z0,z1,z2,z3,z4,md,rg,rm,r) (by decide) (by decide) hl hp
      have hd:lD md rm 0=4:=by unfold lD;rw[if_pos hW]
      rw[hn2,aa,hd]
      exact Ret.some ⟨a2,c2,rfl,hq2⟩
     ·rw[ag (decide_eq_false (fun g=>g.elim hW fun g=>hR ⟨g.2,g.1⟩))]
      by_cases h1:md=1
      ·rw[ae (be h1)]
       obtain⟨a2,c2,hn2,hq2⟩:=fN 1 (nw,x%16,decide (x≠0),op,z0,z1,z2,z3,z4,md,rg,rm,r) (by decide) (by decide) hl hp
       have hd:lD md rm 0=1:=by unfold lD;rw[if_neg hW,if_pos h1]
       rw[hn2,aa,hd]
       exact Ret.some ⟨a2,c2,rfl,hq2⟩
      ·rw[ag (aq h1)]
       have hd:lD md rm 0=0:=by unfold lD;repeat' split
                                all_goals omega
       rw[hd]
       exact Ret.some ⟨a,c,rfl,rfl⟩
end
def noD:Opd:=⟨0,0,0,0,0,0,0⟩
def BP (op:Int):Bool:=decide (op=13\/op=14\/op=15\/op=16\/op=31\/op=32\/op=29)
def nD (t:List UInt8)(op z:Int)(q:Opd×Pos):Opd×Opd×Pos:=
 if BP op=true then(noD,q.1,q.2)else if op=10 then(q.1,wq (rdS t (gI 4 z) q.2),adv t (gI 4 z) q.2)else(q.1,noD,q.2)
def oN (t:List UInt8)(f frm op z x b m:Int)(p:Pos):Opd×Opd×Pos:=
 if f=1 then((plM t x m z p).1,qp (k7 x (m/8%8+jL x 2) z),(plM t x m z p).2)
 else if f=2 then(qp (k7 x (m/8%8+jL x 2) z),(plM t x m z p).1,(plM t x m z p).2)
 else if f=17 then(qp (k7 x (m/8%8+jL x 2) z),(plM t x m frm p).1,(plM t x m frm p).2)
 else if f=3 then(qp 0,wq (rdS t (gI 4 z) p),adv t (gI 4 z) p)
 else if f=4 then((plM t x m z p).1,wq (rdS t 1 (plM t x m z p).2),adv t 1 (plM t x m z p).2)
 else if f=5 then((plM t x m z p).1,wq (rdS t (gI 4 z) (plM t x m z p).2),adv t (gI 4 z) (plM t x m z p).2)
 else if f=6 then nD t op z (plM t x m z p)
 else if f=7 then(if op=29 then(noD,qp (b%8+jL x 0),p)else(qp (b%8+jL x 0),noD,p))
 else if f=8 then(qp (k7 x (b%8+jL x 0) z),wq (rdS t z p),adv t z p)
 else if f=9 then(noD,wq (rdS t 1 p),adv t 1 p)
 else if f=15 then(noD,wq (if op=44 then rdU t 1 p else rdS t 1 p),adv t 1 p)
 else if f=10\/f=16 then(noD,wq (rdS t 4 p),adv t 4 p)
 else if f=11 then((plM t x m z p).1,wq (rdU t 1 (plM t x m z p).2),adv t 1 (plM t x m z p).2)
 else if f=12 then((plM t x m z p).1,wq 1,(plM t x m z p).2)
 else if f=13 then((plM t x m z p).1,qp 1,(plM t x m z p).2)
 else(noD,noD,p)
section
variable {t:List UInt8}{a c:Int}
theorem yg {w:Int}{p:Pos}(h:p.In t)(hw:0<=w):(CO t w p).In t:=by
 unfold CO;split
 ·exact h
 ·exact h.adv hw
theorem zL (mod rm b:Int):0<=lD mod rm b:=by unfold lD;(repeat' split)<;>decide
theorem jR {x m z:Int}{p:Pos}(h:p.In t):(plM t x m z p).2.In t:=by
 unfold plM Ch
 split
 ·exact h
 ·split
  ·exact yg (h.adv (by decide)) (zL ..)
  ·split
   ·exact yg h (show(0:Int)<=4 by decide)
   ·exact yg h (zL ..)
theorem n6 {z:Int}(h:fq z):1<=gI 4 z/\gI 4 z<=8:=by
 unfold fq at h
 rcases h with rfl|rfl|rfl|rfl<;>decide
theorem yd {nw:Bool}{rx:Int}{hr:Bool}{q6 q7 q8 q9:Int}{q10:Bool}{q11 q12 q13 q14 q15:Int}{z:Int}(r:_)(hz:fq z)(hl:(t.length:Int)<=1099511627776)(hp:(aI a c).In t):
  ∃a' c',bC ((),(t,a,c,nw,rx,hr,q6,q7,q8,q9,q10,q11,q12,q13,q14,q15,z,r),())=
   some (c9 (wq (rdS t (gI 4 z) (aI a c))) (),(t,a',c',nw,rx,hr,q6,q7,q8,q9,q10,q11,q12,q13,q14,q15,z,r),())/\aI a' c'=adv t (gI 4 z) (aI a c):=by
 obtain⟨a',c',e,h⟩:=fN (gI 4 z) (nw,rx,hr,q6,q7,q8,q9,q10,q11,q12,q13,q14,q15,z,r) (n6 hz).1 (n6 hz).2 hl hp
 unfold bC cV
 dsimp only[p16]
 rw[e,aa,aa]
 exact⟨a',c',rfl,h⟩
theorem sw1 {α β:Type}{a b:Bool}{r:α}:br a (some (Sum.inl ((a,()),r):Sum ((Bool×Unit)×α) β)) (some (Sum.inl ((b,()),r)))=some (Sum.inl ((a||b,()),r)):=by cases a<;>rfl
theorem sw2 {α β γ:Type}{a b:Bool}{r:α}{y:γ}:br a (some (Sum.inl ((y,a,()),r):Sum ((γ×Bool×Unit)×α) β)) (some (Sum.inl ((y,b,()),r)))=some (Sum.inl ((y,a||b,()),r)):=by cases a<;>rfl
theorem EF (op:Int):(eqI op 13||(eqI op 14||(eqI op 15||(eqI op 16||(eqI op 31||(eqI op 32||eqI op 29))))))=BP op:=by
 rw[Bool.eq_iff_iff];simp[BP,eqI]
theorem done_eq {x m z:Int}(hm0:0<=m)(hm:m<256)(nw:Bool)(q6 q7 q8 q9:Int)(q10:Bool)(q11 q13 op:Int)(hz:fq z)(hl:(t.length:Int)<=1099511627776)(hp:(aI a c).In t):
  ∃a' c',cL ((),(t,a,c,nw,x%16,decide (x≠0),q6,q7,q8,q9,q10,q11,m/64,q13,m%8,op,z,0,0,0,0,0,0,0,0,0,0,0,0,0,0,0,0,0,()),())=
   some ((),(t,a',c',nw,x%16,decide (x≠0),q6,q7,q8,q9,q10,q11,m/64,q13,m%8,op,z,0,0,c9 (nD t op z (plM t x m z (aI a c))).1 (c9 (nD t op z (plM t x m z (aI a c))).2.1 (0,()))),())/\
   aI a' c'=(nD t op z (plM t x m z (aI a c))).2.2:=by
 obtain⟨a1,c1,e,h⟩:=jf (x:=x) (z:=z) hm0 hm nw q6 q7 q8 q9 q10 q11 q13 (op,z,0,0,0,0,0,0,0,0,0,0,0,0,0,0,0,0,0,()) hl hp
 have hin:(aI a1 c1).In t:=by rw[h];exact jR hp
 unfold cL
 dsimp only[p16,p15]
 rw[e,aa]
 dsimp only
 simp only[sw1,aa,ah,EF]
 unfold nD
 cases hs:BP op with
 |true=>
  rw[aE,aa,qg,if_pos rfl]
  exact⟨a1,c1,rfl,h⟩
 |false=>
  rw[ak,aa,ah,iD]
  by_cases h10:op=10
  ·rw[ae (be h10),if_pos h10]
   obtain⟨a2,c2,e2,h2⟩:=yd (nw:=nw) (rx:=x%16) (hr:=decide (x≠0)) (q6:=q6) (q7:=q7) (q8:=q8) (q9:=q9) (q10:=q10) (q11:=q11) (q12:=m/64) (q13:=q13) (q14:=m%8) (q15:=op) (0,0,c9 (plM t x m z (aI a c)).1 (0,0,0,0,0,0,0,0,())) hz hl hin
   refine lM (Ret.bnd (Q:=fun y=>y=_) (Ret.of_eq e2 rfl) ?_)
   rintro _ rfl
   rw[<-h]
   exact Ret.some ⟨a2,c2,rfl,h2⟩
  ·rw[ag (aq h10),if_neg h10]
   exact⟨a1,c1,rfl,h⟩
end
section
variable {t:List UInt8}{a c:Int}
theorem bI7 (b:Int)(h0:0<=b)(h1:b<256):cz .i64 b 7=b%8:=(bI h0 h1).2.2.1
theorem sz18 {z:Int}(h:fq z):1<=z/\z<=8:=by unfold fq at h;omega
theorem v9 {x m z f frm b op:Int}(hm0:0<=m)(hm:m<256)(hb0:0<=b)(hb:b<256)(nw:Bool)(z0 z2:Int)(z3:Bool)(hz:(f=3\/f=5\/f=6\/f=8)->fq z)(hl:(t.length:Int)<=1099511627776)(hp:(aI a c).In t):
  ∃a' c',cM ((),(t,a,c,nw,x%16,decide (x≠0),b,z0,f,z2,z3,frm,m/64,m/8%8,m%8,op,z,0,0,0,0,0,0,0,0,0,0,0,0,0,0,0,0,0,()),())=
   some ((),(t,a',c',nw,x%16,decide (x≠0),b,z0,f,z2,z3,frm,m/64,m/8%8,m%8,op,z,0,(if f=17 then frm else 0),c9 (oN t f frm op z x b m (aI a c)).1 (c9 (oN t f frm op z x b m (aI a c)).2.1 (0,()))),())/\
   aI a' c'=(oN t f frm op z x b m (aI a c)).2.2:=by
 obtain⟨e0,e8,ez⟩:=lh (x:=x) (k:=0) (by decide)
 obtain⟨g0,g8,gz⟩:=lh (x:=x) (k:=2) (by decide)
 unfold cM oN
 dsimp only[p13,p16,p8,p15,p11,p6]
 rw[dbit2,aa]
 dsimp only
 rw[aH,ye (by omega) (by omega) (by omega),aa]
 dsimp only
 by_cases f1:f=1
 ·rw[ae (be f1),if_pos f1,iN]
  obtain⟨a1,c1,e,h⟩:=jf (x:=x) (z:=z) hm0 hm nw b z0 f z2 z3 frm (m/8%8) (op,z,0,0,0,0,0,0,0,0,0,0,0,0,0,0,0,0,0,()) hl hp
  rw[e,aa]
  exact⟨a1,c1,rfl,h⟩
 rw[ag (aq f1),if_neg f1]
 by_cases f2:f=2
 ·rw[ae (be f2),if_pos f2,iN]
  obtain⟨a1,c1,e,h⟩:=jf (x:=x) (z:=z) hm0 hm nw b z0 f z2 z3 frm (m/8%8) (op,z,0,0,0,0,0,0,0,0,0,0,0,0,0,0,0,0,0,()) hl hp
  rw[e,aa]
  exact⟨a1,c1,rfl,h⟩
 rw[ag (aq f2),if_neg f2]
 by_cases f17:f=17
 ·rw[ae (be f17),if_pos f17,if_pos f17]
  obtain⟨a1,c1,e,h⟩:=jf (x:=x) (z:=frm) hm0 hm nw b z0 f z2 z3 frm (m/8%8) (op,z,0,frm,0,0,0,0,0,0,0,0,0,0,0,0,0,0,0,()) hl hp
  rw[e,aa]
  exact⟨a1,c1,rfl,h⟩
 rw[ag (aq f17),if_neg f17,if_neg f17]
 by_cases f3:f=3
 ·rw[ae (be f3),if_pos f3]
  obtain⟨a2,c2,e2,h2⟩:=yd (nw:=nw) (rx:=x%16) (hr:=decide (x≠0)) (q6:=b) (q7:=z0) (q8:=f) (q9:=z2) (q10:=z3) (q11:=frm) (q12:=m/64) (q13:=m/8%8) (q14:=m%8) (q15:=op) (0,0,c9 (qp 0) (0,0,0,0,0,0,0,0,())) (hz (by omega)) hl hp
  refine lM (Ret.bnd (Q:=fun y=>y=(c9 (qp 0) (),())) (Ret.some rfl) ?_)
  rintro _ rfl
  refine Ret.bnd (Q:=fun y=>y=_) (Ret.of_eq e2 rfl) ?_
  rintro _ rfl
  exact Ret.some ⟨a2,c2,rfl,h2⟩
 rw[ag (aq f3),if_neg f3]
 by_cases f4:f=4
 ·rw[ae (be f4),if_pos f4]
  obtain⟨a1,c1,e,h⟩:=jf (x:=x) (z:=z) hm0 hm nw b z0 f z2 z3 frm (m/8%8) (op,z,0,0,0,0,0,0,0,0,0,0,0,0,0,0,0,0,0,()) hl hp
  have hin:(aI a1 c1).In t:=by rw[h];exact jR hp
  obtain⟨a2,c2,e2,h2⟩:=fN 1 (nw,x%16,decide (x≠0),b,z0,f,z2,z3,frm,m/64,m/8%8,m%8,op,z,0,0,c9 (plM t x m z (aI a c)).1 (0,0,0,0,0,0,0,0,())) (by decide) (by decide) hl hin
  rw[e,aa]
  refine lM (Ret.bnd (Q:=fun y=>y=_) (Ret.of_eq e2 rfl) ?_)
  rintro _ rfl
  rw[<-h]
  exact Ret.some ⟨a2,c2,rfl,h2⟩
 rw[ag (aq f4),if_neg f4]
 by_cases f5:f=5
 ·rw[ae (be f5),if_pos f5]
  obtain⟨a1,c1,e,h⟩:=jf (x:=x) (z:=z) hm0 hm nw b z0 f z2 z3 frm (m/8%8) (op,z,0,0,0,0,0,0,0,0,0,0,0,0,0,0,0,0,0,()) hl hp
  have hin:(aI a1 c1).In t:=by rw[h];exact jR hp
  obtain⟨a2,c2,e2,h2⟩:=yd (nw:=nw) (rx:=x%16) (hr:=decide (x≠0)) (q6:=b) (q7:=z0) (q8:=f) (q9:=z2) (q10:=z3) (q11:=frm) (q12:=m/64) (q13:=m/8%8) (q14:=m%8) (q15:=op) (0,0,c9 (plM t x m z (aI a c)).1 (0,0,0,0,0,0,0,0,())) (hz (by omega)) hl hin
  rw[e,aa]
  refine lM (Ret.bnd (Q:=fun y=>y=_) (Ret.of_eq e2 rfl) ?_)
  rintro _ rfl
  rw[<-h]
  exact Ret.some ⟨a2,c2,rfl,h2⟩
 rw[ag (aq f5),if_neg f5]
 by_cases f6:f=6
 ·rw[ae (be f6),if_pos f6]
  obtain⟨a1,c1,e,h⟩:=done_eq (x:=x) (z:=z) hm0 hm nw b z0 f z2 z3 frm (m/8%8) op (hz (by omega)) hl hp
  rw[e,aa]
  exact⟨a1,c1,rfl,h⟩
 rw[ag (aq f6),if_neg f6]
 by_cases f7:f=7
 ·rw[ae (be f7),if_pos f7,CG,aa,bI7 b hb0 hb]
  dsimp only
  rw[aH]
  by_cases ho:op=29
  ·rw[if_pos ho,be ho]
   exact⟨a,c,rfl,rfl⟩
  ·rw[if_neg ho,aq ho]
   exact⟨a,c,rfl,rfl⟩
 rw[ag (aq f7),if_neg f7]
 by_cases f8:f=8
 ·rw[ae (be f8),if_pos f8,CG,aa,bI7 b hb0 hb]
  dsimp only
  rw[aH,ye (by omega) (by omega) (by omega),aa]
  obtain⟨s1,s8⟩:=sz18 (hz (by omega))
  obtain⟨a2,c2,e2,h2⟩:=fN z (nw,x%16,decide (x≠0),b,z0,f,z2,z3,frm,m/64,m/8%8,m%8,op,z,0,0,c9 (qp (k7 x (b%8+jL x 0) z)) (0,0,0,0,0,0,0,0,())) s1 s8 hl hp
  refine lM (Ret.bnd (Q:=fun y=>y=_) (Ret.of_eq e2 rfl) ?_)
  rintro _ rfl
  exact Ret.some ⟨a2,c2,rfl,h2⟩
 rw[ag (aq f8),if_neg f8]
 by_cases f9:f=9
 ·rw[ae (be f9),if_pos f9]
  obtain⟨a2,c2,e2,h2⟩:=fN 1 (nw,x%16,decide (x≠0),b,z0,f,z2,z3,frm,m/64,m/8%8,m%8,op,z,0,0,0,0,0,0,0,0,0,0,0,0,0,0,0,0,0,()) (by decide) (by decide) hl hp
  rw[e2,aa]
  exact⟨a2,c2,rfl,h2⟩
 rw[ag (aq f9),if_neg f9]
 by_cases f15:f=15
 ·rw[ae (be f15),if_pos f15]
  obtain⟨a2,c2,e2,h2⟩:=kx 1 (nw,x%16,decide (x≠0),b,z0,f,z2,z3,frm,m/64,m/8%8,m%8,op,z,0,0,0,0,0,0,0,0,0,0,0,0,0,0,0,0,0,()) (by decide) (by decide) hl hp
  rw[e2,aa]
  dsimp only
  by_cases ho:op=44
  ·rw[if_pos ho,be ho,bE,ak,aa,ah]
   exact⟨a2,c2,rfl,h2⟩
  ·rw[if_neg ho,aq ho,bU,aE,kW _ _ (by decide) (by decide),aa,aa,ah]
   exact⟨a2,c2,rfl,h2⟩
 rw[ag (aq f15),if_neg f15]
 simp only[sw2,aa,ah]
 by_cases f10:f=10\/f=16
 ·rw[ae (by simpa[eqI]using f10),if_pos f10]
  obtain⟨a2,c2,e2,h2⟩:=fN 4 (nw,x%16,decide (x≠0),b,z0,f,z2,z3,frm,m/64,m/8%8,m%8,op,z,0,0,0,0,0,0,0,0,0,0,0,0,0,0,0,0,0,()) (by decide) (by decide) hl hp
  rw[e2,aa]
  exact⟨a2,c2,rfl,h2⟩
 rw[ag (by simpa[eqI]using f10),if_neg f10]
 by_cases f11:f=11
 ·rw[ae (be f11),if_pos f11]
  obtain⟨a1,c1,e,h⟩:=jf (x:=x) (z:=z) hm0 hm nw b z0 f z2 z3 frm (m/8%8) (op,z,0,0,0,0,0,0,0,0,0,0,0,0,0,0,0,0,0,()) hl hp
  have hin:(aI a1 c1).In t:=by rw[h];exact jR hp
  obtain⟨a2,c2,e2,h2⟩:=kx 1 (nw,x%16,decide (x≠0),b,z0,f,z2,z3,frm,m/64,m/8%8,m%8,op,z,0,0,c9 (plM t x m z (aI a c)).1 (0,0,0,0,0,0,0,0,())) (by decide) (by decide) hl hin
  rw[e,aa]
  refine lM (Ret.bnd (Q:=fun y=>y=_) (Ret.of_eq e2 rfl) ?_)
  rintro _ rfl
  rw[<-h]
  exact Ret.some ⟨a2,c2,rfl,h2⟩
 rw[ag (aq f11),if_neg f11]
 by_cases f12:f=12
 ·rw[ae (be f12),if_pos f12]
  obtain⟨a1,c1,e,h⟩:=jf (x:=x) (z:=z) hm0 hm nw b z0 f z2 z3 frm (m/8%8) (op,z,0,0,0,0,0,0,0,0,0,0,0,0,0,0,0,0,0,()) hl hp
  rw[e,aa]
  exact⟨a1,c1,rfl,h⟩
 rw[ag (aq f12),if_neg f12]
 by_cases f13:f=13
 ·rw[ae (be f13),if_pos f13]
  obtain⟨a1,c1,e,h⟩:=jf (x:=x) (z:=z) hm0 hm nw b z0 f z2 z3 frm (m/8%8) (op,z,0,0,0,0,0,0,0,0,0,0,0,0,0,0,0,0,0,()) hl hp
  rw[e,aa]
  exact⟨a1,c1,rfl,h⟩
 rw[ag (aq f13),if_neg f13]
 exact⟨a,c,rfl,rfl⟩
end
section
variable {t:List UInt8}{a c x:Int}{w:Bool}
theorem wc (hx:oi x):bm ((0,()),(t,a,x,w,c,()),())=some (jL x 0,(t,a,x,w,c,()),()):=zd hx 0 (by decide)
theorem ext_s1 (hx:oi x):bm ((1,()),(t,a,x,w,c,()),())=some (jL x 1,(t,a,x,w,c,()),()):=zd hx 1 (by decide)
theorem ext_s2 (hx:oi x):bm ((2,()),(t,a,x,w,c,()),())=some (jL x 2,(t,a,x,w,c,()),()):=zd hx 2 (by decide)
theorem om {z:Int}(hz:fq z)(hl:(t.length:Int)<=1099511627776)(hp:(aI a c).In t):
  ∃a' c',bN ((z,()),(t,a,x,w,c,()),())=some (c9 (wq (rdS t (gI 4 z) (aI a c))) (),(t,a',x,w,c',()),())/\aI a' c'=adv t (gI 4 z) (aI a c):=by
 have e4:gI z 4=gI 4 z:=by unfold fq at hz;rcases hz with rfl|rfl|rfl|rfl<;>decide
 obtain⟨a',c',e,h⟩:=gM (x:=x) (w:=w) (gI 4 z) (n6 hz).1 (n6 hz).2 hl hp
 unfold bN
 dsimp only
 rw[e4,e,aa]
 exact⟨a',c',rfl,h⟩
theorem BI {b:Int}(h0:0<=b)(h1:b<256):aj .u64 (b/64)=b/64:=cJ
theorem BN {md rm:Int}(hx:oi x)(hrm:0<=rm/\rm<=7)(hl:(t.length:Int)<=1099511627776)(hp:(aI a c).In t):
  ∃a' c',dS ((md,rm,()),(t,a,x,w,c,()),())=some (c9 (Ch t x md rm (aI a c)).1 (),(t,a',x,w,c',()),())/\aI a' c'=(Ch t x md rm (aI a c)).2:=by
 obtain⟨e0,e8,ez⟩:=lh (x:=x) (k:=0) (by decide)
 obtain⟨f0,f8,_⟩:=lh (x:=x) (k:=1) (by decide)
 unfold dS Ch
 rw[wc hx,aa]
 dsimp only[d6]
 by_cases h4:rm=4
 ·rw[ae (be h4),if_pos h4]
  obtain⟨a1,c1,hn,hq⟩:=ls (x:=x) (w:=w) hl hp
  have hin:(aI a1 c1).In t:=by rw[hq];exact hp.adv (by decide)
  rw[hn,aa]
  dsimp only
  rw[wc hx,aa,ext_s1 hx,aa]
  dsimp only
  rw[<-hq]
  have hb:=dK t (aI a c) hp
  generalize rdU t 1 (aI a c)=b at hb|-
  rw[dG hb.1,fS hb.1 (by decide) (by omega),fS hb.1 (by decide) (by omega),dG,aH,aH,BI hb.1 hb.2,xw hb.1 hb.2]
  have hle:leI 0 (b/64)=true:=fu
  refine lM (Ret.bnd (Q:=fun y=>∃a2 c2,y=Sum.inl ((md,()),(t,a2,x,w,c2,()),(0,0,0,0,0,0,0,()),
    (2,0,(if md=0/\b%8=5 then -1 else b%8+jL x 0),(if b/8%8+jL x 1=4 then -1 else b/8%8+jL x 1),(if b/8%8+jL x 1=4 then 1 else 2^(b/64).toNat),(if md=0/\b%8=5 then rdS t 4 (aI a1 c1)else 0),0,()),())/\
    aI a2 c2=if md=0/\b%8=5 then adv t 4 (aI a1 c1)else aI a1 c1) ?_ ?_)
  ·refine Ret.bnd (Q:=fun y=>y=Sum.inl ((md,b,()),(t,a1,x,w,c1,()),(0,0,0,0,0,0,0,()),
    (2,0,b%8+jL x 0,(if b/8%8+jL x 1=4 then -1 else b/8%8+jL x 1),(if b/8%8+jL x 1=4 then 1 else 2^(b/64).toNat),0,0,()),())) ?_ ?_
   ·by_cases hA:b/8%8+jL x 1=4<;>simp[hle,hA,eqI,aQ,br,Ret]
   ·rintro _ rfl
    rw[ah]
    dsimp only
    rw[dG hb.1]
    by_cases hC:b%8=5
    ·rw[ae (be hC),aa]
     by_cases hB:md=0
     ·rw[ae (be hB)]
      simp only[if_pos (show md=0/\b%8=5 from⟨hB,hC⟩)]
      obtain⟨a2,c2,hn2,hq2⟩:=gM (x:=x) (w:=w) 4 (by decide) (by decide) hl hin
      rw[hn2,aa,aa,ah]
      exact Ret.some ⟨a2,c2,rfl,hq2⟩
     ·rw[ag (aq hB),aa,ah]
      simp only[if_neg (show ¬(md=0/\b%8=5)from fun g=>hB g.1)]
      exact Ret.some ⟨a1,c1,rfl,rfl⟩
    ·rw[ag (aq hC),aa,ak,aa,ah]
     simp only[if_neg (show ¬(md=0/\b%8=5)from fun g=>hC g.2)]
     exact Ret.some ⟨a1,c1,rfl,rfl⟩
  ·rintro _ ⟨a2,c2,rfl,h2⟩
   rw[ah]
   dsimp only
   by_cases hBC:md=0/\b%8=5
   ·have hd:lD md rm b=4:=by unfold lD;rw[iN,iN,iP]
    rw[if_pos hBC]at h2
    rw[if_pos hBC,if_pos hBC,aq (show md≠1 by omega),ak,aa,ah]
    dsimp only
    rw[aq (show md≠2 by omega),ak,hd]
    exact Ret.some ⟨a2,c2,rfl,h2⟩
   ·rw[if_neg hBC]at h2
    rw[if_neg hBC,if_neg hBC]
    have hin2:(aI a2 c2).In t:=by rw[h2];exact hin
    by_cases m1:md=1
    ·have hd:lD md rm b=1:=by unfold lD;rw[iN,if_pos m1]
     obtain⟨a3,c3,hn3,hq3⟩:=gM (x:=x) (w:=w) 1 (by decide) (by decide) hl hin2
     rw[be m1,aE,hn3,aa,aa,ah]
     dsimp only
     rw[aq (show md≠2 by omega),ak,hd,<-h2]
     exact Ret.some ⟨a3,c3,rfl,hq3⟩
    ·rw[aq m1,ak,aa,ah]
     dsimp only
     by_cases m2:md=2
     ·have hd:lD md rm b=4:=by unfold lD;rw[if_pos m2]
      obtain⟨a3,c3,hn3,hq3⟩:=gM (x:=x) (w:=w) 4 (by decide) (by decide) hl hin2
      rw[be m2,aE,hn3,aa,hd,<-h2]
      exact Ret.some ⟨a3,c3,rfl,hq3⟩
     ·have hd:lD md rm b=0:=by unfold lD;rw[if_neg m2,if_neg m1,iN]
      rw[aq m2,ak,hd]
      exact Ret.some ⟨a2,c2,rfl,h2⟩
 ·rw[ag (aq h4),if_neg h4]
  refine lM (Ret.bnd (Q:=fun y=>∃a2 c2,y=Sum.inl ((md,()),(t,a2,x,w,c2,()),(0,0,0,0,0,0,0,()),
    (2,0,(if rm=5/\md=0 then 16 else rm+jL x 0),-1,1,(if rm=5/\md=0 then rdS t 4 (aI a c)else 0),0,()),())/\
    aI a2 c2=if rm=5/\md=0 then adv t 4 (aI a c)else aI a c) ?_ ?_)
  ·by_cases hR:rm=5/\md=0
   ·rw[ae (be hR.1),aa,be hR.2,aE,if_pos hR,if_pos hR,if_pos hR]
    obtain⟨a2,c2,hn2,hq2⟩:=gM (x:=x) (w:=w) 4 (by decide) (by decide) hl hp
    rw[hn2,aa,aa,ah]
    exact Ret.some ⟨a2,c2,rfl,hq2⟩
   ·rw[if_neg hR,if_neg hR,if_neg hR]
    refine Ret.bnd (Q:=fun y=>y=false) ?_ ?_
    ·by_cases h5:rm=5
     ·rw[ae (be h5)]
      exact Ret.some (aq (fun g=>hR ⟨h5,g⟩))
     ·rw[ag (aq h5)]
      exact Ret.some rfl
    ·rintro _ rfl
     rw[ak,aa,ah,aH]
     exact Ret.some ⟨a,c,rfl,rfl⟩
  ·rintro _ ⟨a2,c2,rfl,h2⟩
   rw[ah]
   dsimp only
   by_cases hR:rm=5/\md=0
   ·rw[if_pos hR]at h2
    rw[if_pos hR,if_pos hR,if_pos hR,aq (show md≠1 by omega),ak,aa,ah]
    dsimp only
    rw[aq (show md≠2 by omega),ak]
    exact Ret.some ⟨a2,c2,rfl,h2⟩
   ·rw[if_neg hR]at h2
    rw[if_neg hR,if_neg hR,if_neg hR]
    have hin2:(aI a2 c2).In t:=by rw[h2];exact hp
    by_cases m1:md=1
    ·have hd:lD md rm 0=1:=by unfold lD;rw[iN,if_pos m1]
     obtain⟨a3,c3,hn3,hq3⟩:=gM (x:=x) (w:=w) 1 (by decide) (by decide) hl hin2
     rw[be m1,aE,hn3,aa,aa,ah]
     dsimp only
     rw[aq (show md≠2 by omega),ak,hd,<-h2]
     exact Ret.some ⟨a3,c3,rfl,hq3⟩
    ·rw[aq m1,ak,aa,ah]
     dsimp only
     by_cases m2:md=2
     ·have hd:lD md rm 0=4:=by unfold lD;rw[if_pos m2]
      obtain⟨a3,c3,hn3,hq3⟩:=gM (x:=x) (w:=w) 4 (by decide) (by decide) hl hin2
      rw[be m2,aE,hn3,aa,hd,<-h2]
      exact Ret.some ⟨a3,c3,rfl,hq3⟩
     ·have hd:lD md rm 0=0:=by unfold lD;rw[if_neg m2,if_neg m1,iN]
      rw[aq m2,ak,hd]
      exact Ret.some ⟨a2,c2,rfl,h2⟩
end
section
variable {t:List UInt8}{a c x:Int}{w:Bool}
theorem sOne_eq (y:Ins)(o:Opd)(h1:y.dst=noD)(h2:y.src=noD):iZ ((y,c9 o (),()),())=some (if BP y.op=true then⟨y.op,y.size,y.cond,y.frm,noD,o,y.len⟩else⟨y.op,y.size,y.cond,y.frm,o,noD,y.len⟩,()):=by
 unfold iZ
 dsimp only
 simp only[sw1,aa,ah,EF]
 cases hs:BP y.op with
 |true=>
  rw[aE,aa,qg,if_pos rfl]
  obtain⟨_,_,_,_,d,e,_⟩:=y
  dsimp only at h1 h2
  subst h1 h2;rfl
 |false=>
  rw[ak,aa,ah,iD]
  obtain⟨_,_,_,_,d,e,_⟩:=y
  dsimp only at h1 h2
  subst h1 h2;rfl
theorem EC {m z f frm op cd:Int}(hx:oi x)(hm0:0<=m)(hm:m<256)(b:Int)(z0 z2:Int)(z3:Bool)(hf:oF f=true)(hz:(f=5\/f=6)->fq z)(hl:(t.length:Int)<=1099511627776)(hp:(aI a c).In t):
  ∃a' c',ed ((⟨op,z,cd,frm,noD,noD,0⟩,(z0,f,z2,z3,frm,()),m,()),(t,a,x,w,c,()),())=
   some (⟨op,z,cd,frm,(oN t f frm op z x b m (aI a c)).1,(oN t f frm op z x b m (aI a c)).2.1,0⟩,(t,a',x,w,c',()),())/\aI a' c'=(oN t f frm op z x b m (aI a c)).2.2:=by
 obtain⟨e0,e8,ez⟩:=lh (x:=x) (k:=0) (by decide)
 obtain⟨g0,g8,gz⟩:=lh (x:=x) (k:=2) (by decide)
 unfold ed
 dsimp only
 obtain⟨Z,hZ⟩:∃Z,Z=if f=17 then frm else z:=⟨_,rfl⟩
 have hm8:kE .i64 m 8=m/8:=fS hm0 (by decide) (by omega)
 have hm64:kE .i64 m 64=m/64:=fS hm0 (by decide) (by omega)
 have hr8:fw m 8=m%8:=dG hm0
 have hr88:fw (m/8) 8=m/8%8:=dG
 refine lM (Ret.bnd (Q:=fun y=>y=Sum.inl ((m,Z,()),(t,a,x,w,c,()),dX ⟨op,z,cd,frm,noD,noD,0⟩ (),(z0,f,z2,z3,frm,()),(0,0,0,0,0,0,0,0,0,0,0,0,0,0,0,0,0,0,0,()),())) ?_ ?_)
 ·by_cases h17:f=17
  ·rw[ae (be h17)];exact Ret.some (by rw[hZ,if_pos h17])
  ·rw[ag (aq h17)];exact Ret.some (by rw[hZ,if_neg h17])
 ·rintro _ rfl
  rw[ah]
  dsimp only
  rw[ext_s2 hx,aa,hm8,hm64,hr8,hr88]
  dsimp only
  rw[aH,zh (by omega) (by omega),aa]
  refine Ret.bnd (Q:=fun y=>∃a1 c1,y=Sum.inl ((),(t,a1,x,w,c1,()),dX ⟨op,z,cd,frm,noD,noD,0⟩ (),(z0,f,z2,z3,frm,()),(0,0,0,0,0,0,0,0,0,0,0,0,0,0,0,0,0,0,0,()),
   c9 (qp (k7 x (m/8%8+jL x 2) z)) (),c9 (plM t x m Z (aI a c)).1 (),())/\aI a1 c1=(plM t x m Z (aI a c)).2) ?_ ?_
  ·unfold plM
   by_cases h3:m/64=3
   ·rw[ae (be h3),if_pos h3,wc hx,aa]
    dsimp only
    rw[aH,zh (by omega) (by omega),aa]
    exact Ret.some ⟨a,c,rfl,rfl⟩
   ·rw[ag (aq h3),if_neg h3]
    obtain⟨a1,c1,e,h⟩:=BN (w:=w) (md:=m/64) (rm:=m%8) hx (by omega) hl hp
    rw[e,aa]
    exact Ret.some ⟨a1,c1,rfl,h⟩
  ·rintro _ ⟨a1,c1,rfl,h⟩
   have hin:(aI a1 c1).In t:=by rw[h];exact jR hp
   rw[ah]
   dsimp only[p5,p6,d5]
   unfold oN
   by_cases f1:f=1
   ·rw[ae (be f1),if_pos f1]
    rw[iN]at hZ
    subst hZ
    exact Ret.some ⟨a1,c1,rfl,h⟩
   rw[ag (aq f1),if_neg f1]
   simp only[sw2,aa,ah]
   by_cases f2:f=2
   ·rw[if_pos f2,ae (by simp[eqI,f2])]
    rw[iN]at hZ
    subst hZ
    exact Ret.some ⟨a1,c1,rfl,h⟩
   rw[if_neg f2]
   by_cases f17:f=17
   ·rw[if_pos f17,ae (by simp[eqI,f17])]
    rw[if_pos f17]at hZ
    subst hZ
    exact Ret.some ⟨a1,c1,rfl,h⟩
   rw[if_neg f17,ag (by simp[eqI,f17,f2])]
   rw[if_neg f17]at hZ
   subst hZ
   rw[if_neg (show ¬f=3 by rintro rfl;revert hf;decide)]
   by_cases f4:f=4
   ·rw[if_pos f4,ae (be f4)]
    obtain⟨a2,c2,e2,h2⟩:=om (x:=x) (w:=w) (z:=1) (.inl rfl) hl hin
    rw[e2,aa,<-h]
    exact Ret.some ⟨a2,c2,rfl,h2⟩
   rw[if_neg f4,ag (aq f4)]
   by_cases f5:f=5
   ·rw[if_pos f5,ae (be f5)]
    obtain⟨a2,c2,e2,h2⟩:=om (x:=x) (w:=w) (z:=Z) (hz (.inl f5)) hl hin
    refine Ret.bnd (Q:=fun y=>y=_) (Ret.of_eq e2 rfl) ?_
    rintro _ rfl
    rw[<-h]
    exact Ret.some ⟨a2,c2,rfl,h2⟩
   rw[if_neg f5,ag (aq f5)]
   by_cases f11:f=11
   ·rw[ae (be f11),iN,iN,iN,iN,iN,iN,if_pos f11]
    obtain⟨a2,c2,e2,h2⟩:=ls (x:=x) (w:=w) hl hin
    rw[e2,aa,<-h]
    exact Ret.some ⟨a2,c2,rfl,h2⟩
   rw[ag (aq f11)]
   by_cases f12:f=12
   ·rw[ae (be f12),iN,iN,iN,iN,iN,iN,iN,if_pos f12]
    exact Ret.some ⟨a1,c1,rfl,h⟩
   rw[ag (aq f12)]
   by_cases f13:f=13
   ·rw[ae (be f13),iN,iN,iN,iN,iN,iN,iN,iN,if_pos f13]
    exact Ret.some ⟨a1,c1,rfl,h⟩
   rw[ag (aq f13)]
   have f6:f=6:=by
    unfold oF at hf
    have:=of_decide_eq_true hf
    omega
   rw[if_pos f6]
   refine Ret.bnd (Q:=fun y=>y=_) (Ret.of_eq (sOne_eq ⟨op,Z,cd,frm,noD,noD,0⟩ _ rfl rfl) rfl) ?_
   rintro _ rfl
   unfold nD
   dsimp only
   cases hs:BP op with
   |true=>
    rw[if_pos rfl,if_pos rfl]
    dsimp only
    rw[aq (show op≠10 by rintro rfl;revert hs;decide),ak]
    exact Ret.some ⟨a1,c1,rfl,h⟩
   |false=>
    rw[iD,iD]
    dsimp only
    by_cases h10:op=10
    ·rw[if_pos h10,be h10,aE]
     obtain⟨a2,c2,e2,h2⟩:=om (x:=x) (w:=w) (z:=Z) (hz (.inr f6)) hl hin
     rw[e2,aa,<-h]
     exact Ret.some ⟨a2,c2,rfl,h2⟩
    ·rw[if_neg h10,aq h10,ak]
     exact Ret.some ⟨a1,c1,rfl,h⟩
theorem ED {m z f frm op cd:Int}(hx:oi x){b:Int}(hb0:0<=b)(z0 z2:Int)(z3:Bool)(hf:oF f=false)(hz:(f=3\/f=8)->fq z)(hl:(t.length:Int)<=1099511627776)(hp:(aI a c).In t):
  ∃a' c',ef ((⟨op,z,cd,frm,noD,noD,0⟩,(z0,f,z2,z3,frm,()),b,()),(t,a,x,w,c,()),())=
   some (⟨op,z,cd,frm,(oN t f frm op z x b m (aI a c)).1,(oN t f frm op z x b m (aI a c)).2.1,0⟩,(t,a',x,w,c',()),())/\aI a' c'=(oN t f frm op z x b m (aI a c)).2.2:=by
 obtain⟨e0,e8,ez⟩:=lh (x:=x) (k:=0) (by decide)
 have hM:¬(f=1\/f=2\/f=4\/f=5\/f=6\/f=11\/f=12\/f=13\/f=17):=by unfold oF at hf;exact of_decide_eq_false hf
 have hr8:fw b 8=b%8:=dG hb0
 unfold ef oN
 dsimp only
 rw[if_neg (show ¬f=1 by omega),if_neg (show ¬f=2 by omega),if_neg (show ¬f=17 by omega)]
 by_cases f3:f=3
 ·rw[if_pos f3,ae (be f3)]
  obtain⟨a2,c2,e2,h2⟩:=om (x:=x) (w:=w) (z:=z) (hz (.inl f3)) hl hp
  rw[e2,aa]
  exact⟨a2,c2,rfl,h2⟩
 rw[if_neg f3,ag (aq f3),if_neg (show ¬f=4 by omega),if_neg (show ¬f=5 by omega),if_neg (show ¬f=6 by omega)]
 by_cases f7:f=7
 ·rw[if_pos f7,ae (be f7),wc hx,aa,hr8]
  dsimp only
  rw[aH]
  by_cases ho:op=29
  ·rw[if_pos ho,be ho];exact⟨a,c,rfl,rfl⟩
  ·rw[if_neg ho,aq ho];exact⟨a,c,rfl,rfl⟩
 rw[if_neg f7,ag (aq f7)]
 by_cases f8:f=8
 ·rw[if_pos f8,ae (be f8),wc hx,aa,hr8]
  dsimp only
  rw[aH,zh (by omega) (by omega),aa]
  obtain⟨s1,s8⟩:=sz18 (hz (.inr f8))
  obtain⟨a2,c2,e2,h2⟩:=gM (x:=x) (w:=w) z s1 s8 hl hp
  rw[e2,aa]
  exact⟨a2,c2,rfl,h2⟩
 rw[if_neg f8,ag (aq f8)]
 by_cases f9:f=9
 ·rw[if_pos f9,ae (be f9)]
  obtain⟨a2,c2,e2,h2⟩:=om (x:=x) (w:=w) (z:=1) (.inl rfl) hl hp
  rw[e2,aa]
  exact⟨a2,c2,rfl,h2⟩
 rw[if_neg f9,ag (aq f9)]
 simp only[sw2,aa,ah]
 by_cases f10:f=10\/f=16
 ·rw[if_neg (show ¬f=15 by omega),if_pos f10,ae (by simpa[eqI]using f10)]
  obtain⟨a2,c2,e2,h2⟩:=om (x:=x) (w:=w) (z:=4) (.inr (.inr (.inl rfl))) hl hp
  rw[e2,aa]
  exact⟨a2,c2,rfl,h2⟩
 rw[ag (by simpa[eqI]using f10)]
 by_cases f15:f=15
 ·rw[if_pos f15,ae (be f15)]
  obtain⟨a2,c2,e2,h2⟩:=om (x:=x) (w:=w) (z:=1) (.inl rfl) hl hp
  rw[e2,aa]
  refine lM ?_
  by_cases ho:op=44
  ·subst ho
   rw[if_pos rfl]
   have hr:=dK t (aI a c) hp
   have hzz:=bw (iF 7 (by decide) (rdU t 1 (aI a c))) 1 rfl
   rw[ES hr.1 hr.2,show((1:Nat):Int)=1 from rfl]at hzz
   refine Ret.mono (Ret.of_eq (x:=(⟨44,z,cd,frm,noD,wq (rdU t 1 (aI a c)),0⟩,(t,a2,x,w,c2,()),())) ?_ rfl) (fun y hy=>⟨a2,c2,hy.symm,h2⟩)
   show bnd (an ((sx 7 (rdU t 1 (aI a c)),1,()),())) _=_
   rw[hzz,aa]
   rfl
  ·rw[if_neg ho]
   refine Ret.mono (Ret.of_eq (x:=(⟨op,z,cd,frm,noD,wq (rdS t 1 (aI a c)),0⟩,(t,a2,x,w,c2,()),())) ?_ rfl) (fun y hy=>⟨a2,c2,hy.symm,h2⟩)
   show br (eqI op 44) _ _=_
   rw[aq ho]
   rfl
 rw[if_neg f15,ag (aq f15),if_neg f10,if_neg (show ¬f=11 by omega),if_neg (show ¬f=12 by omega),if_neg (show ¬f=13 by omega)]
 exact⟨a,c,rfl,rfl⟩
end
def pkB (t:List UInt8)(p:Pos):Int:=match p with
 | .ok a=>if a<t.length then eH t a else -1
 | .error _=> -1
def wdM (t:List UInt8)(p:Pos):Bool:=decide (pkB t p=102)
def p1M (t:List UInt8)(p:Pos):Pos:=if wdM t p=true then adv t 1 p else p
def p2M (t:List UInt8)(p:Pos):Pos:=exb (p1M t p) fun a=>if pkB t (p1M t p)∈qG then .error 10 else .ok a
def hxM (t:List UInt8)(p:Pos):Bool:=decide (64<=pkB t (p2M t p)/\pkB t (p2M t p)<=79)
def xM (t:List UInt8)(p:Pos):Int:=if hxM t p=true then pkB t (p2M t p)else 0
def p3M (t:List UInt8)(p:Pos):Pos:=if hxM t p=true then adv t 1 (p2M t p)else p2M t p
def vI (t:List UInt8)(p:Pos):Bool:=decide (rdU t 1 (p3M t p)=15)
def p5M (t:List UInt8)(p:Pos):Pos:=if vI t p=true then adv t 1 (adv t 1 (p3M t p))else adv t 1 (p3M t p)
def bM (t:List UInt8)(p:Pos):Int:=if vI t p=true then rdU t 1 (adv t 1 (p3M t p))else rdU t 1 (p3M t p)
def zM (t:List UInt8)(p:Pos):Shz:=shz (vI t p) (bM t p).toNat
def p6M (t:List UInt8)(p:Pos):Pos:=exb (p5M t p) fun a=>if(zM t p).2.1=0 then .error 11 else .ok a
theorem He (t:List UInt8)(p:Pos):oi (xM t p):=by
 unfold xM oi
 split
 ·rename_i h
  unfold hxM at h
  exact .inr (of_decide_eq_true h)
 ·exact .inl rfl
theorem zR {t:List UInt8}{p:Pos}{q:Int->Prop}[DecidablePred q]{k:Int}(h:p.In t):Pos.In (exb p fun a=>if q a then .error k else .ok a) t:=by
 intro a ha
 cases p with
 |error c=>cases ha
 |ok b=>
  unfold exb at ha
  dsimp only at ha
  split at ha
  ·cases ha
  ·exact h a (by cases ha;rfl)
theorem Ao {t:List UInt8}{p:Pos}(h:p.In t):(p1M t p).In t:=by unfold p1M;split;exact h.adv (by decide);exact h
theorem qc {t:List UInt8}{p:Pos}(h:p.In t):(p2M t p).In t:=zR (q:=fun _=>pkB t (p1M t p)∈qG) (Ao h)
theorem Ap {t:List UInt8}{p:Pos}(h:p.In t):(p3M t p).In t:=by unfold p3M;split;exact(qc h).adv (by decide);exact qc h
theorem wY {t:List UInt8}{p:Pos}(h:p.In t):(adv t 1 (p3M t p)).In t:=(Ap h).adv (by decide)
theorem p5M_in {t:List UInt8}{p:Pos}(h:p.In t):(p5M t p).In t:=by unfold p5M;split;exact(wY h).adv (by decide);exact wY h
theorem wZ {t:List UInt8}{p:Pos}(h:p.In t):(p6M t p).In t:=zR (q:=fun _=>(zM t p).2.1=0) (p5M_in h)
theorem lc {t:List UInt8}{p:Pos}(h:p.In t):0<=bM t p/\bM t p<256:=by
 unfold bM;split
 ·exact dK t _ (wY h)
 ·exact dK t _ (Ap h)
theorem Ar {t:List UInt8}{p:Pos}(hp:p.In t)(h:0<=pkB t p):rdU t 1 p=pkB t p/\∃a,p= .ok a/\a+1<=t.length/\adv t 1 p= .ok (a+1):=by
 cases p with
 |error _=>unfold pkB at h;dsimp only at h;omega
 |ok a=>
  obtain⟨h0,h1⟩:=hp a rfl
  unfold pkB at h|-
  unfold rdU adv exb
  dsimp only at h|-
  by_cases hl:a<t.length
  ·rw[if_pos hl,iP,iP,DR h0 hl]
   exact⟨rfl,a,rfl,by omega,rfl⟩
  ·rw[if_neg hl]at h;omega
section
variable {t:List UInt8}{a c:Int}
theorem uo {lo hi:Int}(r:_)(h0:0<=lo)(hp:(aI a c).In t):cc ((lo,hi,()),(t,a,c,r),())=some (decide (lo<=pkB t (aI a c)/\pkB t (aI a c)<=hi),(t,a,c,r),()):=by
 unfold cc
 dsimp only
 by_cases hc:c=0
 ·subst hc
  obtain⟨p0,p1⟩:=hp a dw
  rw[dw,ae (be rfl)]
  by_cases hl:a<t.length
  ·have hpk:pkB t (.ok a)=eH t a:=if_pos hl
   rw[ae (fv (by rw[aV];exact hl)),ae (cA p0 (by rw[aV];exact hl)),hpk,xG (by have:=le t a;omega) (by have:=le t a;omega),bD,aa]
  ·have hpk:pkB t (.ok a)= -1:=if_neg hl
   rw[ag (fM (by rw[aV];exact hl)),hpk,dF]
 ·have hpk:pkB t (.error c)= -1:=rfl
  rw[ag (aq hc),cT hc,hpk,dF]
theorem v6 (r:_)(hp:(aI a c).In t):cK ((),(t,a,c,r),())=some (decide (pkB t (aI a c)∈qG),(t,a,c,r),()):=by
 unfold cK
 dsimp only
 refine(eD (fun y=>∃i:Nat,i<=11/\y=((11,(i:Int),()),(t,a,c,r),qG,())) (fun y=>11-y.1.2.1.toNat) (fun y=>some (decide (pkB t (aI a c)∈qG.drop y.1.2.1.toNat),(t,a,c,r),())) ?_ F _ ⟨0,by omega,rfl⟩ (by unfold F;dsimp only;omega)).trans rfl
 rintro _ rec ⟨i,hi,rfl⟩ hrec
 dsimp only
 by_cases h:i<11
 ·have hL:i<qG.length:=h
  rw[ae (fv),ae (cA (by omega) (by rw[aV];omega)),fp hL]
  have hnn:0<=qG[i]:=by
   have:∀y∈qG,(0:Int)<=y:=by decide
   exact this _ (List.getElem_mem hL)
  rw[uo r hnn hp,aa]
  dsimp only
  rw[Int.toNat_natCast,List.drop_eq_getElem_cons hL]
  by_cases e:pkB t (aI a c)=qG[i]
  ·rw[ae (dT),decide_eq_true (by rw[e];exact List.mem_cons_self)]
  ·rw[ag (dF),aH,hrec ((11,(i:Int)+1,()),(t,a,c,r),qG,()) ⟨i+1,by omega,rfl⟩ (by dsimp only;omega)]
   dsimp only
   rw[show((i:Int)+1).toNat=i+1 by omega]
   have hm:∀l:List Int,(pkB t (aI a c)∈qG[i]::l)=(pkB t (aI a c)∈l):=fun l=>by rw[List.mem_cons,eq_false e,false_or]
   simp only[hm]
 ·have:i=11:=by omega
  subst this
  rw[ag (fM)]
  simp[qG]
theorem wa (r:_)(hl:(t.length:Int)<=1099511627776)(hp:(aI a c).In t):
  ∃a' c',cN ((),(t,a,c,false,0,false,r),())=some ((),(t,a',c',wdM t (aI a c),xM t (aI a c)%16,decide (xM t (aI a c)≠0),r),())/\aI a' c'=p3M t (aI a c):=by
 unfold cN
 dsimp only
 rw[uo _ (by decide) hp,aa]
 dsimp only
 refine lM (Ret.bnd (Q:=fun y=>∃a1 c1,y=Sum.inl ((),(t,a1,c1,wdM t (aI a c),0,false,r),())/\aI a1 c1=p1M t (aI a c)) ?_ ?_)
 ·unfold p1M wdM
  by_cases h:pkB t (aI a c)=102
  ·rw[decide_eq_true (show 102<=pkB t (aI a c)/\pkB t (aI a c)<=102 by omega),aE,decide_eq_true h,if_pos rfl]
   obtain⟨a1,c1,e,h1⟩:=kx 1 (true,0,false,r) (by decide) (by decide) hl hp
   rw[e,aa]
   exact Ret.some ⟨a1,c1,rfl,h1⟩
  ·rw[decide_eq_false (show ¬(102<=pkB t (aI a c)/\pkB t (aI a c)<=102)by omega),ak,decide_eq_false h,iD]
   exact Ret.some ⟨a,c,rfl,rfl⟩
 ·rintro _ ⟨a1,c1,rfl,h1⟩
  have hin1:(aI a1 c1).In t:=by rw[h1];exact Ao hp
  rw[ah]
  dsimp only[d6]
  rw[v6 _ hin1,aa]
  dsimp only
  rw[iv,aa]
  dsimp only
  have h2:aI a1 (if decide (pkB t (aI a1 c1)∈qG)=true/\c1=0 then 10 else c1)=p2M t (aI a c):=by
   rw[Ff (by decide)]
   unfold p2M
   rw[<-h1]
   simp only[decide_eq_true_eq]
  generalize (if decide (pkB t (aI a1 c1)∈qG)=true/\c1=0 then(10:Int)else c1)=c2 at h2|-
  have hin2:(aI a1 c2).In t:=by rw[h2];exact qc hp
  rw[uo _ (by decide) hin2,aa]
  dsimp only
  rw[h2]
  unfold p3M xM hxM
  by_cases h:64<=pkB t (p2M t (aI a c))/\pkB t (p2M t (aI a c))<=79
  ·rw[decide_eq_true h,aE,if_pos rfl,if_pos rfl]
   obtain⟨a3,c3,e,h3⟩:=kx 1 (wdM t (aI a c),0,true,r) (by decide) (by decide) hl hin2
   have hrd:=(Ar hin2 (by rw[h2];omega)).1
   rw[e,aa,hrd,h2,decide_eq_true (show pkB t (p2M t (aI a c))≠0 by omega)]
   dsimp only
   rw[(bI (show 0<=pkB t (p2M t (aI a c))by omega) (by omega)).2.2.2]
   exact Ret.some ⟨a3,c3,rfl,by rw[h3,h2]⟩
  ·rw[decide_eq_false h,ak,iD,iD]
   exact Ret.some ⟨a1,c2,rfl,h2⟩
end
def yt (z:Shz):Bool:=decide (0<z.2.2.1)
def mM (t:List UInt8)(p:Pos):Int:=if oF (zM t p).2.1=true then rdU t 1 (p6M t p)else 0
def p7M (t:List UInt8)(p:Pos):Pos:=if oF (zM t p).2.1=true then adv t 1 (p6M t p)else p6M t p
def opM (t:List UInt8)(p:Pos):Int:=if yt (zM t p)=true then grp (zM t p).2.2.1.toNat (mM t p/8%8).toNat else(zM t p).1
def p8M (t:List UInt8)(p:Pos):Pos:=exb (p7M t p) fun a=>if yt (zM t p)=true/\opM t p=0 then .error 11 else .ok a
def zsM (t:List UInt8)(p:Pos):Int:=szM (zM t p).2.2.2.1 (opM t p) (wdM t p) (xM t p)
def qv (w by':Bool)(frm op z m:Int):Int:=
 if(w=true/\(cR op=true\/eK op=true\/by'=true))\/(frm=4/\z≠8)\/((frm=1\/frm=2)/\z<=frm)then 10 else if op=25/\m/64=3 then 12 else 0
def p9M (t:List UInt8)(p:Pos):Pos:=exb (p8M t p) fun a=>if qv (wdM t p) (zM t p).2.2.2.1 (zM t p).2.2.2.2.1 (opM t p) (zsM t p) (mM t p)≠0 then .error (qv (wdM t p) (zM t p).2.2.2.1 (zM t p).2.2.2.2.1 (opM t p) (zsM t p) (mM t p))else .ok a
def oM (t:List UInt8)(p:Pos):Opd×Opd×Pos:=oN t (zM t p).2.1 (zM t p).2.2.2.2.1 (opM t p) (zsM t p) (xM t p) (bM t p) (mM t p) (p9M t p)
def cdM (t:List UInt8)(p:Pos):Int:=if opM t p=33\/opM t p=35\/opM t p=36 then bM t p%16 else 0
def nW (t:List UInt8)(at0:Int):Ins×Int:=match(oM t (.ok at0)).2.2 with
 | .ok a=>(⟨opM t (.ok at0),zsM t (.ok at0),cdM t (.ok at0),(zM t (.ok at0)).2.2.2.2.1,(oM t (.ok at0)).1,(oM t (.ok at0)).2.1,a-at0⟩,0)
 | .error c=>(uj,c)
theorem sw {t:List UInt8}{p:Pos}(h:p.In t):shP (zM t p)=true:=Hj _ (by have:=lc h;omega)
theorem me {t:List UInt8}{p:Pos}(h:p.In t):0<=mM t p/\mM t p<256:=by
 unfold mM;split
 ·exact dK t _ (wZ h)
 ·omega
theorem wX {t:List UInt8}{p:Pos}(h:p.In t):0<=opM t p/\opM t p<=44:=by
 have hz:=of_decide_eq_true (sw h)
 have hm:=me h
 unfold opM;split
 ·exact Dh _ (by omega) _ (by omega)
 ·exact⟨hz.1,hz.2.1⟩
section
variable {t:List UInt8}{a c:Int}
theorem mQ {a c a':Int}(h:aI a c= .ok a'):a=a'/\c=0:=by
 unfold aI at h
 by_cases hc:c=0
 ·rw[if_pos hc]at h;cases h;exact⟨rfl,hc⟩
 ·rw[if_neg hc]at h;cases h
theorem mP {a c k:Int}(h:aI a c= .error k):c=k/\c≠0:=by
 unfold aI at h
 by_cases hc:c=0
 ·rw[if_pos hc]at h;cases h
 ·rw[if_neg hc]at h;cases h;exact⟨rfl,hc⟩
theorem rd_ok {p:Pos}{n:Int}(h:rdU t n p≠0):∃b,adv t n p= .ok b:=by
 unfold rdU at h
 unfold adv exb
 cases p with
 |error _=>exact absurd rfl h
 |ok b=>
  dsimp only at h|-
  by_cases hl:b+n<=t.length
  ·rw[if_pos hl];exact⟨_,rfl⟩
  ·rw[if_neg hl]at h;exact absurd rfl h
theorem um (q:Pos)(nw:Bool)(rx:Int)(hr:Bool)(r:_)(hl:(t.length:Int)<=1099511627776)(hq:q.In t)(hp:aI a c=p3M t q):
  Ret (cG ((),(t,a,c,nw,rx,hr,0,0,0,0,false,0,0,0,0,0,r),())) fun y=>
   aI y.2.1.2.1 y.2.1.2.2.1=p6M t q/\∀e,p6M t q= .ok e->y=((),(t,e,0,nw,rx,hr,bM t q,(zM t q).1,(zM t q).2.1,(zM t q).2.2.1,(zM t q).2.2.2.1,(zM t q).2.2.2.2.1,0,0,0,(zM t q).1,r),()):=by
 have hin:(aI a c).In t:=by rw[hp];exact Ap hq
 unfold cG
 dsimp only[p5,p6,d7]
 obtain⟨a1,c1,e1,h1⟩:=kx 1 (nw,rx,hr,0,0,0,0,false,0,0,0,0,0,r) (by decide) (by decide) hl hin
 rw[e1,aa]
 dsimp only
 rw[hp]at h1|-
 have hin1:(aI a1 c1).In t:=by rw[h1];exact wY hq
 have hx3:(br (eqI (rdU t 1 (p3M t q)) 15) (some (eqI c1 0)) (some false))=some (vI t q):=by
  unfold vI
  by_cases h:rdU t 1 (p3M t q)=15
  ·obtain⟨b,hb⟩:=rd_ok (t:=t) (p:=p3M t q) (n:=1) (by omega)
   have hc:c1=0:=(mQ (h1.trans hb)).2
   rw[ae (be h),be hc,decide_eq_true h]
  ·rw[ag (aq h),decide_eq_false h]
 rw[hx3,aa]
 refine Ret.bnd (Q:=fun y=>∃a2 c2,y=Sum.inl ((vI t q,()),(t,a2,c2,nw,rx,hr,bM t q,0,0,0,false,0,0,0,0,0,r),())/\aI a2 c2=p5M t q) ?_ ?_
 ·unfold p5M bM
  cases hs:vI t q with
  |true=>
   obtain⟨a2,c2,e2,h2⟩:=kx 1 (nw,rx,hr,rdU t 1 (p3M t q),0,0,0,false,0,0,0,0,0,r) (by decide) (by decide) hl hin1
   rw[aE,e2,aa,if_pos rfl,if_pos rfl,h1]
   exact Ret.some ⟨a2,c2,rfl,by rw[h2,h1]⟩
  |false=>
   rw[ak,iD,iD]
   exact Ret.some ⟨a1,c1,rfl,h1⟩
 ·rintro _ ⟨a2,c2,rfl,h2⟩
  rw[ah]
  dsimp only[p6,p5,p12,p13,p14,d16]
  by_cases hc:c2=0
  ·subst hc
   have hbr:=lc hq
   have hS:=AM (vI t q) (show(bM t q).toNat<256 by omega)
   rw[Int.toNat_of_nonneg hbr.1]at hS
   rw[show aQ (eqI 0 0)=false from rfl,ak,hS,aa]
   dsimp only[shR]
   rw[iv,aa]
   have h6:p6M t q=if(zM t q).2.1=0 then .error 11 else .ok a2:=by
    unfold p6M;rw[<-h2];rfl
   show Ret (some _) _
   refine Ret.some ?_
   dsimp only
   change aI a2 (if aQ (eqI (if(zM t q).2.1=0 then 11 else 0) 0)=true/\(0:Int)=0 then(if(zM t q).2.1=0 then 11 else 0)else 0)=p6M t q/\_
   rw[h6]
   by_cases hz:(zM t q).2.1=0
   ·simp only[if_pos hz]
    exact⟨rfl,fun e he=>by cases he⟩
   ·simp only[if_neg hz]
    refine⟨rfl,fun e he=>?_⟩
    cases he
    have hz':¬(shz (vI t q) (bM t q).toNat).2.1=0:=hz
    simp only[if_neg hz']
    rfl
  ·rw[aq hc,bU,aE]
   refine Ret.some ?_
   dsimp only
   have h6:p6M t q= .error c2:=by unfold p6M;rw[<-h2,cT hc];rfl
   rw[h6,cT hc]
   exact⟨rfl,fun e he=>by cases he⟩
end
section
variable {t:List UInt8}{a c:Int}
theorem wg {op:Int}(h:0<=op/\op<=44):fB ((op,()),())=some ((if cR op=true then(8,true,())else if eK op=true then(0,true,())else(0,false,())),()):=by
 obtain⟨n,rfl⟩:=Int.eq_ofNat_of_zero_le h.1
 exact Ba n (by omega)
theorem yu {f:Int}(h:0<=f/\f<18):fW ((f,()),())=some (oF f,()):=by
 obtain⟨n,rfl⟩:=Int.eq_ofNat_of_zero_le h.1
 exact Dk n (by omega)
theorem CN (q:Pos)(e:Int)(nw:Bool)(rx:Int)(hr:Bool)(r:_)(hl:(t.length:Int)<=1099511627776)(hq:q.In t)(hp:p6M t q= .ok e):
  Ret (dB ((),(t,e,0,nw,rx,hr,bM t q,(zM t q).1,(zM t q).2.1,(zM t q).2.2.1,(zM t q).2.2.2.1,(zM t q).2.2.2.2.1,0,0,0,(zM t q).1,r),())) fun y=>
   aI y.2.1.2.1 y.2.1.2.2.1=p8M t q/\∀e,p8M t q= .ok e->y=((),(t,e,0,nw,rx,hr,bM t q,(zM t q).1,(zM t q).2.1,(zM t q).2.2.1,(zM t q).2.2.2.1,(zM t q).2.2.2.2.1,mM t q/64,mM t q/8%8,mM t q%8,opM t q,r),()):=by
 have hin:(aI e 0).In t:=by rw[dw,<-hp];exact wZ hq
 have hz:=of_decide_eq_true (sw hq)
 have hm:=me hq
 unfold dB
 dsimp only[p8,p9,d15,d16]
 rw[yu ⟨hz.2.2.1,hz.2.2.2.1⟩]
 rw[show aQ (eqI 0 0)=false from rfl,ak,aa,aa]
 cases hM:oF (zM t q).2.1 with
 |false=>
  rw[bU,aE]
  have hg:yt (zM t q)=false:=decide_eq_false fun g=>by
   have:=(hz.2.2.2.2.2.2.2.2.1 g).1
   rw[hM]at this;cases this
  have e1:mM t q=0:=by unfold mM;rw[hM,iD]
  have e2:opM t q=(zM t q).1:=by unfold opM;rw[hg,iD]
  have e3:p8M t q= .ok e:=by unfold p8M p7M;rw[hM,hg,iD,hp];simp[exb]
  refine Ret.some ⟨?_,fun e' he=>?_⟩
  ·rw[e3];rfl
  ·rw[e3]at he;cases he
   rw[e1,e2]
   rfl
 |true=>
  obtain⟨a1,c1,ee,h1⟩:=kx 1 (nw,rx,hr,bM t q,(zM t q).1,(zM t q).2.1,(zM t q).2.2.1,(zM t q).2.2.2.1,(zM t q).2.2.2.2.1,0,0,0,(zM t q).1,r) (by decide) (by decide) hl hin
  have e1:mM t q=rdU t 1 (aI e 0):=by unfold mM;rw[hM,if_pos rfl,hp];rfl
  have e7:p7M t q=aI a1 c1:=by unfold p7M;rw[hM,if_pos rfl,hp,h1];rfl
  rw[bE,ak,ee,<-e1,aa]
  dsimp only
  obtain⟨b6,b3,b0,_⟩:=bI hm.1 hm.2
  rw[b6,b3,b0]
  by_cases hg:0<(zM t q).2.2.1
  ·have hgB:yt (zM t q)=true:=decide_eq_true hg
   rw[ae (fv hg),aa]
   have e8:p8M t q=exb (aI a1 c1) fun a=>if opM t q=0 then .error 11 else .ok a:=by
    unfold p8M;rw[e7,hgB];simp only[true_and]
   by_cases hc:c1=0
   ·subst hc
    have hgo:=AK (g:=(zM t q).2.2.1.toNat) (d:=(mM t q/8%8).toNat) (by omega) (by omega) (by omega)
    rw[Int.toNat_of_nonneg (by omega),Int.toNat_of_nonneg (by omega)]at hgo
    have eo:grp (zM t q).2.2.1.toNat (mM t q/8%8).toNat=opM t q:=by unfold opM;rw[hgB,if_pos rfl]
    rw[eo]at hgo
    rw[be rfl,aE,hgo,aa]
    dsimp only[gpR]
    rw[iv,aa]
    refine Ret.some ?_
    rw[dw]at e8
    unfold exb at e8
    dsimp only at e8|-
    rw[e8]
    by_cases ho:opM t q=0
    ·simp only[if_pos ho]
     exact⟨rfl,fun e he=>by cases he⟩
    ·simp only[if_neg ho]
     refine⟨rfl,fun e he=>?_⟩
     cases he
     rfl
   ·rw[aq hc,ak]
    refine Ret.some ?_
    rw[cT hc]at e8
    unfold exb at e8
    dsimp only at e8|-
    rw[e8,cT hc]
    exact⟨rfl,fun e he=>by cases he⟩
  ·have hgB:yt (zM t q)=false:=decide_eq_false hg
   have e2:opM t q=(zM t q).1:=by unfold opM;rw[hgB,iD]
   have e8:p8M t q=aI a1 c1:=by
    unfold p8M;rw[e7,hgB]
    cases aI a1 c1<;>simp[exb]
   rw[ag (fM hg),aa,ak]
   refine Ret.some ?_
   dsimp only
   rw[e8]
   refine⟨rfl,fun e he=>?_⟩
   obtain⟨rfl,rfl⟩:=mQ he
   rw[e2]
theorem ext3 (x:Int):aQ (eqI (jL x 3) 0)=decide (x/8%2=1):=by
 rw[Bool.eq_iff_iff,GF,eq_nf,decide_eq_true_eq]
 unfold jL
 rw[show(2:Int)^3=8 from rfl]
 omega
theorem FX {x m z1 f g frm op b:Int}{nw by':Bool}{zz rg rm:Int}{e:Int}(r:_)(ho:0<=op/\op<=44)(hsz:zz=szM by' op nw x):
  ∃c',dO ((),(t,e,0,nw,x%16,decide (x≠0),b,z1,f,g,by',frm,m/64,rg,rm,op,0,r),())=
   some ((),(t,e,c',nw,x%16,decide (x≠0),b,z1,f,g,by',frm,m/64,rg,rm,op,zz,r),())/\c'=qv nw by' frm op zz m:=by
 unfold dO
 dsimp only[p15,p10,d17,sW]
 rw[wg ho,aa]
 have fin:∀o:Option _,Ret o (fun y=>∃c',y=((),(t,e,c',nw,x%16,decide (x≠0),b,z1,f,g,by',frm,m/64,rg,rm,op,zz,r),())/\c'=qv nw by' frm op zz m)->∃c',o=some ((),(t,e,c',nw,x%16,decide (x≠0),b,z1,f,g,by',frm,m/64,rg,rm,op,zz,r),())/\c'=qv nw by' frm op zz m:=by
  rintro o ⟨y,e,c',rfl,h⟩
  exact⟨c',e,h⟩
 refine fin _ (Ret.bnd (Q:=fun y=>y=Sum.inl ((cR op||eK op,()),(t,e,0,nw,x%16,decide (x≠0),b,z1,f,g,by',frm,m/64,rg,rm,op,zz,r),())) ?_ ?_)
 ·unfold szM at hsz
  cases h8:cR op with
  |true=>
   rw[h8,if_pos rfl]at hsz
   rw[if_pos rfl,hsz]
   exact Ret.some rfl
  |false=>
   rw[h8,iD]at hsz
   rw[iD]
   cases h0:eK op with
   |true=>
    rw[h0,if_pos rfl]at hsz
    rw[if_pos rfl,hsz]
    exact Ret.some rfl
   |false=>
    rw[h0,iD]at hsz
    rw[iD]
    dsimp only
    rw[ak]
    cases hb:by' with
    |true=>
     rw[hb,if_pos rfl]at hsz
     rw[aE,aa,ah,hsz]
     exact Ret.some rfl
    |false=>
     rw[hb,iD]at hsz
     rw[ak,dbit3,aa]
     dsimp only
     rw[ext3]
     by_cases h3:x/8%2=1
     ·rw[if_pos h3]at hsz
      rw[decide_eq_true h3,aE,aa,ah,aa,ah,hsz]
      exact Ret.some rfl
     ·rw[if_neg h3]at hsz
      rw[decide_eq_false h3,ak]
      cases hw:nw with
      |true=>
       rw[hw,if_pos rfl]at hsz
       rw[aE,aa,ah,aa,ah,aa,ah,hsz]
       exact Ret.some rfl
      |false=>
       rw[hw,iD]at hsz
       rw[ak,aa,ah,aa,ah,aa,ah,hsz]
       exact Ret.some rfl
 ·rintro _ rfl
  rw[ah]
  dsimp only[p10,p11,p16,p15,p12]
  have h13:(br nw (bnd (br (cR op||eK op) (some true) (some by')) fun x12=>some x12) (some false))=some (nw&&(cR op||eK op||by')):=by
   cases nw<;>cases cR op<;>cases eK op<;>cases by'<;>rfl
  rw[h13,aa,iv,aa]
  dsimp only
  have h15:(br (eqI frm 4) (some (aQ (eqI zz 8))) (some false))=some (eqI frm 4&&aQ (eqI zz 8)):=by cases eqI frm 4<;>rfl
  rw[h15,aa,iv,aa]
  dsimp only
  rw[bD,aa]
  dsimp only
  have h19:(br (eqI op 25) (some (eqI (m/64) 3)) (some false))=some (eqI op 25&&eqI (m/64) 3):=by cases eqI op 25<;>rfl
  refine Ret.mono (Q:=fun y=>y=((),(t,e,qv nw by' frm op zz m,nw,x%16,decide (x≠0),b,z1,f,g,by',frm,m/64,rg,rm,op,zz,r),())) ?_ (fun y hy=>⟨_,hy,rfl⟩)
  have step:∀u:Bool,(u=true↔(frm=1\/frm=2)/\zz<=frm)->
    (if(eqI op 25&&eqI (m/64) 3)=true/\(if u=true/\(if(eqI frm 4&&aQ (eqI zz 8))=true/\(if(nw&&(cR op||eK op||by'))=true/\(0:Int)=0 then(10:Int)else 0)=0 then(10:Int)else(if(nw&&(cR op||eK op||by'))=true/\(0:Int)=0 then(10:Int)else 0))=0 then(10:Int)else(if(eqI frm 4&&aQ (eqI zz 8))=true/\(if(nw&&(cR op||eK op||by'))=true/\(0:Int)=0 then(10:Int)else 0)=0 then(10:Int)else(if(nw&&(cR op||eK op||by'))=true/\(0:Int)=0 then(10:Int)else 0)))=0 then(12:Int)else
     (if u=true/\(if(eqI frm 4&&aQ (eqI zz 8))=true/\(if(nw&&(cR op||eK op||by'))=true/\(0:Int)=0 then(10:Int)else 0)=0 then(10:Int)else(if(nw&&(cR op||eK op||by'))=true/\(0:Int)=0 then(10:Int)else 0))=0 then(10:Int)else(if(eqI frm 4&&aQ (eqI zz 8))=true/\(if(nw&&(cR op||eK op||by'))=true/\(0:Int)=0 then(10:Int)else 0)=0 then(10:Int)else(if(nw&&(cR op||eK op||by'))=true/\(0:Int)=0 then(10:Int)else 0))))=qv nw by' frm op zz m:=fun u hu=>by
   have e1:(eqI op 25&&eqI (m/64) 3)=true↔op=25/\m/64=3:=by simp[eqI]
   have e2:(eqI frm 4&&aQ (eqI zz 8))=true↔frm=4/\zz≠8:=by simp[eqI,aQ]
   have e3:(nw&&(cR op||eK op||by'))=true↔(nw=true/\(cR op=true\/eK op=true\/by'=true)):=by simp[or_assoc]
   unfold qv
   simp only[hu,e1,e2,e3,and_true]
   by_cases p:(nw=true/\(cR op=true\/eK op=true\/by'=true))
   ·simp[p]
   ·simp only[p,if_false,and_true,false_or]
    by_cases p2:frm=4/\zz≠8
    ·simp[p2]
    ·simp only[p2,if_false,and_true,false_or]
     by_cases p3:(frm=1\/frm=2)/\zz<=frm
     ·simp[p3]
     ·simp only[p3,if_false,and_true]
  by_cases hfr:frm=1\/frm=2
  ·have hd:decide (1<=frm/\frm<=2)=true:=dT
   rw[hd,aE,iv,aa]
   dsimp only
   rw[h19,aa,iv,aa]
   dsimp only
   have hs:=step (leI zz frm) (by rw[HZ];exact⟨fun h=>⟨hfr,h⟩,fun h=>h.2⟩)
   exact Ret.some (by rw[hs])
  ·have hd:decide (1<=frm/\frm<=2)=false:=dF
   rw[hd,ak,iv,aa]
   dsimp only
   rw[h19,aa,iv,aa]
   dsimp only
   have hs:=step false ⟨fun h=>(by cases h),fun h=>absurd h.1 hfr⟩
   exact Ret.some (by rw[hs])
end
section
variable {t:List UInt8}
theorem p7M_in {q:Pos}(h:q.In t):(p7M t q).In t:=by unfold p7M;split;exact(wZ h).adv (by decide);exact wZ h
theorem p8M_in {q:Pos}(h:q.In t):(p8M t q).In t:=zR (q:=fun _=>yt (zM t q)=true/\opM t q=0) (p7M_in h)
theorem tM {q:Pos}(h:q.In t):(p9M t q).In t:=zR (q:=fun _=>qv (wdM t q) (zM t q).2.2.2.1 (zM t q).2.2.2.2.1 (opM t q) (zsM t q) (mM t q)≠0) (p8M_in h)
theorem EU (by' w:Bool)(op x:Int):(eK op=false->fq (szM by' op w x))/\(eK op=true->szM by' op w x=0):=by
 unfold szM fq
 cases h8:cR op<;>cases h0:eK op<;>cases by'<;>cases w<;>by_cases h3:x/8%2=1<;>simp[h3]
 all_goals
  unfold cR at h8
  unfold eK at h0
  have:=of_decide_eq_true h8
  have:=of_decide_eq_true h0
  omega
def needF (sec:Bool)(n:Nat):Bool:=decide (((shz sec n).2.1=3\/(shz sec n).2.1=5\/(shz sec n).2.1=6\/(shz sec n).2.1=8)->((shz sec n).2.2.1=0->eK (shz sec n).1=false)/\∀d:Nat,d<8->eK (grp (shz sec n).2.2.1.toNat d)=false)
theorem needF_F:∀n:Nat,n<256->needF false n=true:=by decide +kernel
theorem needF_T:∀n:Nat,n<256->needF true n=true:=by decide +kernel
theorem DW (sec:Bool){n:Nat}(h:n<256):needF sec n=true:=by
 cases sec
 ·exact needF_F n h
 ·exact needF_T n h
theorem ot {q:Pos}(h:q.In t)(hf:(zM t q).2.1=3\/(zM t q).2.1=5\/(zM t q).2.1=6\/(zM t q).2.1=8):fq (zsM t q):=by
 have hb:=lc h
 have hm:=me h
 have hn:=of_decide_eq_true (DW (vI t q) (show(bM t q).toNat<256 by omega)) hf
 refine(EU _ _ _ _).1 ?_
 unfold opM
 cases hg:yt (zM t q)with
 |true=>rw[if_pos rfl];exact hn.2 _ (by omega)
 |false=>
  rw[iD]
  have hz:=of_decide_eq_true (sw h)
  have:¬0<(zM t q).2.2.1:=of_decide_eq_false hg
  exact hn.1 (show(zM t q).2.2.1=0 by omega)
theorem frm_17 {q:Pos}(h:q.In t):(if(zM t q).2.1=17 then(zM t q).2.2.2.2.1 else 0)=(zM t q).2.2.2.2.1:=by
 have hz:=of_decide_eq_true (sw h)
 split
 ·rfl
 ·omega
theorem jb {n c:Int}{p:Pos}(h:p= .error c):adv t n p= .error c:=by rw[h];rfl
theorem exb_err {f:Int->Except Int Int}{c:Int}{p:Pos}(h:p= .error c):exb p f= .error c:=by rw[h];rfl
theorem H8 {q:Pos}{c:Int}(h:p3M t q= .error c):p6M t q= .error c:=by
 unfold p6M p5M
 rw[jb h,jb rfl]
 split<;>rfl
theorem D9 {q:Pos}{c:Int}(h:p6M t q= .error c):p8M t q= .error c:=by
 unfold p8M p7M
 rw[h,jb rfl]
 split<;>rfl
theorem xa {q:Pos}{c:Int}(h:p8M t q= .error c):p9M t q= .error c:=by unfold p9M;exact exb_err h
theorem uq {w c:Int}{p:Pos}(h:p= .error c):CO t w p= .error c:=by
 unfold CO;split
 ·exact h
 ·exact jb h
theorem kS {x m z c:Int}{p:Pos}(h:p= .error c):(plM t x m z p).2= .error c:=by
 unfold plM Ch
 split
 ·exact h
 ·split
  ·exact uq (jb h)
  ·split
   ·exact uq (w:=4) h
   ·exact uq h
theorem An {f frm op z x b m c:Int}{p:Pos}(h:p= .error c):(oN t f frm op z x b m p).2.2= .error c:=by
 unfold oN
 by_cases f1:f=1
 ·rw[if_pos f1]
  exact kS h
 rw[if_neg f1]
 by_cases f2:f=2
 ·rw[if_pos f2]
  exact kS h
 rw[if_neg f2]
 by_cases f17:f=17
 ·rw[if_pos f17]
  exact kS h
 rw[if_neg f17]
 by_cases f3:f=3
 ·rw[if_pos f3]
  exact jb h
 rw[if_neg f3]
 by_cases f4:f=4
 ·rw[if_pos f4]
  exact jb (kS h)
 rw[if_neg f4]
 by_cases f5:f=5
 ·rw[if_pos f5]
  exact jb (kS h)
 rw[if_neg f5]
 by_cases f6:f=6
 ·rw[if_pos f6]
  unfold nD
  cases BP op
  ·rw[iD]
   by_cases ho:op=10
   ·rw[if_pos ho]
    exact jb (kS h)
   ·rw[if_neg ho]
    exact kS h
  ·rw[if_pos rfl]
   exact kS h
 rw[if_neg f6]
 by_cases f7:f=7
 ·rw[if_pos f7]
  by_cases ho:op=29
  ·rw[if_pos ho]
   exact h
  ·rw[if_neg ho]
   exact h
 rw[if_neg f7]
 by_cases f8:f=8
 ·rw[if_pos f8]
  exact jb h
 rw[if_neg f8]
 by_cases f9:f=9
 ·rw[if_pos f9]
  exact jb h
 rw[if_neg f9]
 by_cases f15:f=15
 ·rw[if_pos f15]
  exact jb h
 rw[if_neg f15]
 by_cases f10:f=10\/f=16
 ·rw[if_pos f10]
  exact jb h
 rw[if_neg f10]
 by_cases f11:f=11
 ·rw[if_pos f11]
  exact jb (kS h)
 rw[if_neg f11]
 by_cases f12:f=12
 ·rw[if_pos f12]
  exact kS h
 rw[if_neg f12]
 by_cases f13:f=13
 ·rw[if_pos f13]
  exact kS h
 rw[if_neg f13]
 exact h
theorem zJ {at0 c:Int}(h:p9M t (.ok at0)= .error c):nW t at0=(uj,c):=by
 have:(oM t (.ok at0)).2.2= .error c:=An h
 unfold nW
 rw[this]
theorem ya {at0 e:Int}(h:(oM t (.ok at0)).2.2= .ok e):nW t at0=(⟨opM t (.ok at0),zsM t (.ok at0),cdM t (.ok at0),(zM t (.ok at0)).2.2.2.2.1,(oM t (.ok at0)).1,(oM t (.ok at0)).2.1,e-at0⟩,0):=by
 unfold nW
 rw[h]
theorem y4 {f frm op z x b m:Int}{p:Pos}(h:p.In t)(hz:(f=3\/f=5\/f=6\/f=8)->fq z):(oN t f frm op z x b m p).2.2.In t:=by
 unfold oN
 by_cases f1:f=1
 ·rw[if_pos f1]
  exact jR h
 rw[if_neg f1]
 by_cases f2:f=2
 ·rw[if_pos f2]
  exact jR h
 rw[if_neg f2]
 by_cases f17:f=17
 ·rw[if_pos f17]
  exact jR h
 rw[if_neg f17]
 by_cases f3:f=3
 ·rw[if_pos f3]
  exact h.adv (Int.le_trans (by decide) (n6 (hz (.inl f3))).1)
 rw[if_neg f3]
 by_cases f4:f=4
 ·rw[if_pos f4]
  exact(jR h).adv (by decide)
 rw[if_neg f4]
 by_cases f5:f=5
 ·rw[if_pos f5]
  exact(jR h).adv (Int.le_trans (by decide) (n6 (hz (.inr (.inl f5)))).1)
 rw[if_neg f5]
 by_cases f6:f=6
 ·rw[if_pos f6]
  unfold nD
  cases BP op
  ·rw[iD]
   by_cases ho:op=10
   ·rw[if_pos ho]
    exact(jR h).adv (Int.le_trans (by decide) (n6 (hz (.inr (.inr (.inl f6))))).1)
   ·rw[if_neg ho]
    exact jR h
  ·rw[if_pos rfl]
   exact jR h
 rw[if_neg f6]
 by_cases f7:f=7
 ·rw[if_pos f7]
  by_cases ho:op=29
  ·rw[if_pos ho]
   exact h
  ·rw[if_neg ho]
   exact h
 rw[if_neg f7]
 by_cases f8:f=8
 ·rw[if_pos f8]
  exact h.adv (by have:=sz18 (hz (.inr (.inr (.inr f8))));omega)
 rw[if_neg f8]
 by_cases f9:f=9
 ·rw[if_pos f9]
  exact h.adv (by decide)
 rw[if_neg f9]
 by_cases f15:f=15
 ·rw[if_pos f15]
  exact h.adv (by decide)
 rw[if_neg f15]
 by_cases f10:f=10\/f=16
 ·rw[if_pos f10]
  exact h.adv (by decide)
 rw[if_neg f10]
 by_cases f11:f=11
 ·rw[if_pos f11]
  exact(jR h).adv (by decide)
 rw[if_neg f11]
 by_cases f12:f=12
 ·rw[if_pos f12]
  exact jR h
 rw[if_neg f12]
 by_cases f13:f=13
 ·rw[if_pos f13]
  exact jR h
 rw[if_neg f13]
 exact h
theorem jU {y:Int}(h:y≠0):aQ (eqI y 0)=true:=by rw[aq h];rfl
theorem CI {at0:Int}(hl:(t.length:Int)<=1099511627776)(h0:0<=at0)(h1:at0<=t.length):iQ ((t,at0,()),())=some (((nW t at0).1,(nW t at0).2,()),()):=by
 have hq:Pos.In (.ok at0) t:=fun a ha=>by cases ha;exact⟨h0,h1⟩
 have bad:∀ {c},c≠0->p9M t (.ok at0)= .error c->(some (((uj,c,()),()):(Ins×Int×Unit)×Unit))=some (((nW t at0).1,(nW t at0).2,()),()):=fun _ h=>by rw[zJ h]
 unfold iQ
 dsimp only[p5,d6]
 obtain⟨a1,c1,e1,g1⟩:=wa (t:=t) (a:=at0) (c:=0) (0,0,0,0,false,0,0,0,0,0,0,0,0,0,0,0,0,0,0,0,0,0,0,0,0,0,0,0,()) hl hq
 rw[e1,aa]
 dsimp only
 rw[dw]at g1|-
 by_cases n1:c1≠0
 ·rw[jU n1,aE]
  rw[cT n1]at g1
  exact bad n1 (xa (D9 (H8 g1.symm)))
 obtain rfl:c1=0:=Decidable.not_not.1 n1
 rw[show aQ (eqI 0 0)=false from rfl,ak]
 obtain⟨y2,e2,g2,k2⟩:=um (.ok at0) (wdM t (.ok at0)) (xM t (.ok at0)%16) (decide (xM t (.ok at0)≠0)) (0,0,0,0,0,0,0,0,0,0,0,0,0,0,0,0,0,0,()) hl hq g1
 rw[e2,aa]
 cases h6:p6M t (.ok at0)with
 |error c=>
  rw[h6]at g2
  obtain⟨rfl,n2⟩:=mP g2
  rw[jU n2,aE]
  exact bad n2 (xa (D9 h6))
 |ok a2=>
 obtain rfl:=k2 a2 h6
 dsimp only
 rw[show aQ (eqI 0 0)=false from rfl,ak]
 obtain⟨y3,e3,g3,k3⟩:=CN (.ok at0) a2 (wdM t (.ok at0)) (xM t (.ok at0)%16) (decide (xM t (.ok at0)≠0)) (0,0,0,0,0,0,0,0,0,0,0,0,0,0,0,0,0,0,()) hl hq h6
 refine(Ret.bnd (Q:=fun y=>y=y3) (Ret.of_eq e3 rfl) ?_).eq
 rintro _ rfl
 cases h8:p8M t (.ok at0)with
 |error c=>
  rw[h8]at g3
  obtain⟨rfl,n3⟩:=mP g3
  rw[jU n3,aE]
  exact Ret.of_eq (bad n3 (xa h8)) rfl
 |ok a3=>
 obtain rfl:=k3 a3 h8
 dsimp only[p12,p13,p14,p15]
 rw[show aQ (eqI 0 0)=false from rfl,ak]
 obtain⟨c4,e4,k4⟩:=FX (t:=t) (x:=xM t (.ok at0)) (m:=mM t (.ok at0)) (z1:=(zM t (.ok at0)).1) (f:=(zM t (.ok at0)).2.1) (g:=(zM t (.ok at0)).2.2.1) (frm:=(zM t (.ok at0)).2.2.2.2.1) (op:=opM t (.ok at0)) (b:=bM t (.ok at0)) (nw:=wdM t (.ok at0)) (by':=(zM t (.ok at0)).2.2.2.1) (zz:=zsM t (.ok at0)) (rg:=mM t (.ok at0)/8%8) (rm:=mM t (.ok at0)%8) (e:=a3) (0,0,0,0,0,0,0,0,0,0,0,0,0,0,0,0,0,()) (wX hq) rfl
 refine Ret.bnd (Q:=fun y=>y=_) (Ret.of_eq e4 rfl) ?_
 rintro _ rfl
 dsimp only[p16]
 have h9:p9M t (.ok at0)=if c4≠0 then .error c4 else .ok a3:=by unfold p9M;rw[h8,k4];rfl
 by_cases n4:c4≠0
 ·rw[jU n4,aE]
  rw[if_pos n4]at h9
  exact Ret.of_eq (bad n4 h9) rfl
 obtain rfl:c4=0:=Decidable.not_not.1 n4
 rw[if_neg n4]at h9
 rw[show aQ (eqI 0 0)=false from rfl,ak]
 have hm:=me hq
 have hb:=lc hq
 have hin9:(aI a3 0).In t:=by rw[dw,<-h9];exact tM hq
 obtain⟨a5,c5,e5,g5⟩:=v9 (x:=xM t (.ok at0)) (z:=zsM t (.ok at0)) (f:=(zM t (.ok at0)).2.1) (frm:=(zM t (.ok at0)).2.2.2.2.1) (op:=opM t (.ok at0)) hm.1 hm.2 hb.1 hb.2 (wdM t (.ok at0)) (zM t (.ok at0)).1 (zM t (.ok at0)).2.2.1 (zM t (.ok at0)).2.2.2.1 (ot hq) hl hin9
 rw[frm_17 hq,dw,<-h9]at e5
 rw[dw,<-h9]at g5
 refine Ret.bnd (Q:=fun y=>y=_) (Ret.of_eq e5 rfl) ?_
 rintro _ rfl
 change aI a5 c5=(oM t (.ok at0)).2.2 at g5
 dsimp only[p16,p18,d18,p15]
 by_cases n5:c5≠0
 ·rw[jU n5,aE]
  rw[cT n5]at g5
  refine Ret.some ?_
  unfold nW
  rw[<-g5]
  rfl
 obtain rfl:c5=0:=Decidable.not_not.1 n5
 rw[dw]at g5
 rw[show aQ (eqI 0 0)=false from rfl,ak,ya g5.symm]
 have hin5:0<=a5/\a5<=t.length:=(y4 (tM hq) (ot hq)) a5 g5.symm
 simp only[sw2,aa,ah]
 have hb15:=(bI hb.1 hb.2).2.2.2
 unfold cdM
 by_cases ho:opM t (.ok at0)=33\/opM t (.ok at0)=35\/opM t (.ok at0)=36
 ·rw[if_pos ho,show(eqI (opM t (.ok at0)) 33||(eqI (opM t (.ok at0)) 35||eqI (opM t (.ok at0)) 36))=true by simpa[eqI]using ho,aE,aa,ah]
  dsimp only
  rw[bn,<-hb15]
  exact Ret.some rfl
 ·rw[if_neg ho,show(eqI (opM t (.ok at0)) 33||(eqI (opM t (.ok at0)) 35||eqI (opM t (.ok at0)) 36))=false by simpa[eqI]using ho,ak,aa,ah]
  dsimp only
  rw[bn]
  exact Ret.some rfl
end
section
variable {t:List UInt8}
theorem pY {b:Int}(h0:0<=b)(h1:b<256):fH ((b,()),())=some (decide (b∈qG/\b≠102),()):=by
 obtain⟨n,rfl⟩:=Int.eq_ofNat_of_zero_le h0
 rw[G7 n (by omega)]
 have:((n:Int)≠102)↔n≠102:=by omega
 simp only[this]
theorem oO {p:Pos}{a:Int}(hp:p.In t)(h:adv t 1 p= .ok a):pkB t p=rdU t 1 p:=by
 cases p with
 |error _=>cases h
 |ok b=>
  unfold adv exb at h
  dsimp only at h
  by_cases hl:b+1<=t.length
  ·exact(Ar hp (by unfold pkB;dsimp only;rw[iP];exact(le t b).1)).1.symm
  ·rw[if_neg hl]at h;cases h
theorem xd {p:Pos}{a c:Int}(hp:p= .ok a)(h:adv t 1 p= .error c):pkB t p= -1/\rdU t 1 p=0:=by
 subst hp
 unfold adv exb at h
 unfold pkB rdU
 dsimp only at h|-
 by_cases hl:a+1<=t.length
 ·rw[if_pos hl]at h;cases h
 ·rw[iN,if_neg hl];exact⟨rfl,rfl⟩
def xH:Shz:=(0,0,0,false,0,())
theorem Hm {at0:Int}(hl:(t.length:Int)<=1099511627776)(h0:0<=at0)(h1:at0<=t.length):
  Ret (eY ((),(t,at0,0,false,0,()),())) fun y=>aI y.2.1.2.1 y.2.1.2.2.2.2.1=p6M t (.ok at0)/\
   ∀e,p6M t (.ok at0)= .ok e->y=((zM t (.ok at0),bM t (.ok at0),()),(t,e,xM t (.ok at0),wdM t (.ok at0),0,()),()):=by
 have hq:Pos.In (.ok at0) t:=fun a ha=>by cases ha;exact⟨h0,h1⟩
 obtain⟨q,hqq⟩:∃q:Pos,q= .ok at0:=⟨_,rfl⟩
 unfold eY
 obtain⟨a1,c1,e1,g1⟩:=ls (t:=t) (a:=at0) (c:=0) (x:=0) (w:=false) hl hq
 rw[e1,aa]
 dsimp only
 rw[dw]at g1|-
 rw[<-hqq]at g1 hq|-
 refine Ret.iter (fun x=>(∃a c,x=((rdU t 1 q,()),(t,a,0,false,c,()),xH,())/\aI a c=adv t 1 q)\/
   (∃a c,x=((rdU t 1 (p1M t q),()),(t,a,0,true,c,()),xH,())/\aI a c=adv t 1 (p1M t q)/\wdM t q=true)\/
   (∃a,x=((0,()),(t,a,0,true,10,()),xH,())/\p2M t q= .error 10))
  (fun x=>(if x.2.1.2.2.2.1=true then 0 else 2)+(if x.2.1.2.2.2.2.1=0 then 1 else 0)) ?_ F _ (.inl ⟨a1,c1,rfl,g1⟩) (by unfold F;dsimp only;split<;>split<;>omega)
 intro x rec hI hrec
 have hcase:(∃a c w,x=((rdU t 1 (p2M t q),()),(t,a,0,w,c,()),xH,())/\aI a c=adv t 1 (p2M t q)/\(∀e,p2M t q= .ok e->w=wdM t q)/\(c=0->¬rdU t 1 (p2M t q)∈qG))\/
   (∃a w p,x=((rdU t 1 p,()),(t,a,0,w,0,()),xH,())/\p.In t/\aI a 0=adv t 1 p/\rdU t 1 p∈qG/\(w=false/\p=q\/w=true/\p=p1M t q/\wdM t q=true)):=by
  rcases hI with ⟨a,c,rfl,h⟩|⟨a,c,rfl,h,hw⟩|⟨a,rfl,h⟩
  ·by_cases hs:c=0/\rdU t 1 q∈qG
   ·obtain⟨rfl,hs⟩:=hs
    exact .inr ⟨a,false,q,rfl,hq,h,hs,.inl ⟨rfl,rfl⟩⟩
   ·have hpk:¬pkB t q∈qG:=by
     by_cases hc:c=0
     ·subst hc
      rw[oO hq h.symm];exact fun g=>hs ⟨rfl,g⟩
     ·rw[cT hc]at h
      rw[(xd hqq h.symm).1];decide
    have hw:wdM t q=false:=decide_eq_false fun g=>hpk (by rw[g];decide)
    have e1:p1M t q=q:=by unfold p1M;rw[hw,iD]
    have e2:p2M t q=q:=by
     unfold p2M;rw[e1,hqq];unfold exb;dsimp only;rw[if_neg (by rw[hqq]at hpk;exact hpk)]
    refine .inl ⟨a,c,false,by rw[e2],by rw[e2];exact h,fun _ _=>hw.symm,fun hc=>?_⟩
    rw[e2];exact fun g=>hs ⟨hc,g⟩
  ·by_cases hs:c=0/\rdU t 1 (p1M t q)∈qG
   ·obtain⟨rfl,hs⟩:=hs
    exact .inr ⟨a,true,p1M t q,rfl,Ao hq,h,hs,.inr ⟨rfl,rfl,hw⟩⟩
   ·have hp1:p1M t q=adv t 1 q:=by unfold p1M;rw[hw,if_pos rfl]
    have hpk:¬pkB t (p1M t q)∈qG:=by
     by_cases hc:c=0
     ·subst hc
      rw[oO (Ao hq) h.symm];exact fun g=>hs ⟨rfl,g⟩
     ·rw[cT hc]at h
      cases hp:p1M t q with
      |error _=>unfold pkB;dsimp only;decide
      |ok a'=>rw[(xd rfl (hp▸h.symm)).1];decide
    have e2:p2M t q=p1M t q:=by
     unfold p2M
     cases hp:p1M t q with
     |error _=>rfl
     |ok a'=>rw[hp]at hpk;unfold exb;dsimp only;rw[if_neg hpk]
    refine .inl ⟨a,c,true,by rw[e2],by rw[e2];exact h,fun _ _=>hw.symm,fun hc=>?_⟩
    rw[e2];exact fun g=>hs ⟨hc,g⟩
  ·refine .inl ⟨a,10,true,by rw[h];rfl,by rw[h];rfl,fun e he=>?_,fun hc=>?_⟩
   ·rw[h]at he;cases he
   ·cases hc
 rcases hcase with ⟨a,c,w,rfl,hpos,hw,hend⟩|⟨a,w,p,rfl,hpin,hpos,hpf,hS⟩
 ·have hb2:=dK t (p2M t q) (qc hq)
  have hb3:=dK t (p3M t q) (Ap hq)
  dsimp only
  refine Ret.bnd (Q:=fun y=>y=false) ?_ ?_
  ·by_cases hc:c=0
   ·have hn:=hend hc
    rw[be hc,aE,aq (fun g=>hn (by rw[g];decide)),ak,pY hb2.1 hb2.2,aa,aa,decide_eq_false (fun g=>hn g.1)]
    exact Ret.some rfl
   ·rw[aq hc,ak];exact Ret.some rfl
  rintro _ rfl
  rw[ak]
  refine Ret.bnd (Q:=fun y=>y=hxM t q) ?_ ?_
  ·by_cases hc:c=0
   ·subst hc
    rw[be rfl,aE,fS hb2.1 (by decide) (by omega)]
    refine Ret.some ?_
    unfold hxM
    rw[oO (qc hq) hpos.symm,Bool.eq_iff_iff,nH,decide_eq_true_eq]
    omega
   ·rw[aq hc,ak]
    refine Ret.some ?_
    symm
    refine decide_eq_false fun g=>?_
    obtain⟨_,_,_,_,hk⟩:=Ar (qc hq) (show 0<=pkB t (p2M t q)by omega)
    rw[hk,cT hc]at hpos
    cases hpos
  rintro _ rfl
  refine Ret.bnd (Q:=fun y=>∃a c,y=Sum.inl ((rdU t 1 (p3M t q),()),(t,a,xM t q,w,c,()),xH,())/\aI a c=adv t 1 (p3M t q)) ?_ ?_
  ·cases hh:hxM t q with
   |true=>
    have hg:64<=pkB t (p2M t q)/\pkB t (p2M t q)<=79:=of_decide_eq_true hh
    obtain⟨hk,_⟩:=Ar (qc hq) (show 0<=pkB t (p2M t q)by omega)
    have hin:(aI a c).In t:=by rw[hpos];exact(qc hq).adv (by decide)
    obtain⟨a3,c3,e3,g3⟩:=ls (x:=rdU t 1 (p2M t q)) (w:=w) hl hin
    have e4:p3M t q=adv t 1 (p2M t q):=by unfold p3M;rw[hh,if_pos rfl]
    have e5:xM t q=rdU t 1 (p2M t q):=by unfold xM;rw[hh,if_pos rfl,hk]
    rw[aE,e3,aa]
    exact Ret.some ⟨a3,c3,by rw[e4,e5,hpos],by rw[e4,g3,hpos]⟩
   |false=>
    have e4:p3M t q=p2M t q:=by unfold p3M;rw[hh,iD]
    have e5:xM t q=0:=by unfold xM;rw[hh,iD]
    rw[ak]
    exact Ret.some ⟨a,c,by rw[e4,e5],by rw[e4,hpos]⟩
  rintro _ ⟨a3,c3,rfl,h3⟩
  rw[ah]
  dsimp only
  have hin3:(aI a3 c3).In t:=by rw[h3];exact wY hq
  refine Ret.bnd (Q:=fun y=>y=vI t q) ?_ ?_
  ·by_cases hc:c3=0
   ·rw[be hc,aE];exact Ret.some rfl
   ·rw[aq hc,ak]
    refine Ret.some ?_
    symm
    refine decide_eq_false fun g=>?_
    obtain⟨b,hb⟩:=rd_ok (t:=t) (p:=p3M t q) (n:=1) (by omega)
    exact hc (mQ (h3.trans hb)).2
  rintro _ rfl
  refine Ret.bnd (Q:=fun y=>∃a c,y=Sum.inl ((bM t q,vI t q,()),(t,a,xM t q,w,c,()),xH,())/\aI a c=p5M t q) ?_ ?_
  ·unfold bM p5M
   cases hs:vI t q with
   |true=>
    obtain⟨a4,c4,e4,g4⟩:=ls (x:=xM t q) (w:=w) hl hin3
    rw[aE,e4,aa,if_pos rfl,if_pos rfl]
    exact Ret.some ⟨a4,c4,by rw[h3],by rw[g4,h3]⟩
   |false=>
    rw[ak,iD,iD]
    exact Ret.some ⟨a3,c3,rfl,h3⟩
  rintro _ ⟨a5,c5,rfl,h5⟩
  rw[ah]
  dsimp only
  have hbr:=lc hq
  have hS:=yG (vI t q) (show(bM t q).toNat<256 by omega)
  rw[Int.toNat_of_nonneg hbr.1]at hS
  rw[hS,aa]
  dsimp only
  have h6:aI a5 (if(zM t q).2.1=0 then(if c5=0 then 11 else c5)else c5)=p6M t q:=by
   unfold p6M
   rw[<-h5]
   by_cases hc:c5=0
   ·subst hc
    by_cases hz:(zM t q).2.1=0
    ·rw[if_pos hz,if_pos rfl,dw];unfold exb;dsimp only;rw[if_pos hz];rfl
    ·rw[if_neg hz,dw];unfold exb;dsimp only;rw[if_neg hz]
   ·rw[if_neg hc,cT hc]
    split<;>exact cT hc
  refine Ret.bnd (Q:=fun y=>y=Sum.inl ((bM t q,()),(t,a5,xM t q,w,(if(zM t q).2.1=0 then(if c5=0 then 11 else c5)else c5),()),xH,zM t q,())) ?_ ?_
  ·by_cases hz:(zM t q).2.1=0
   ·have hz':(shz (vI t q) (bM t q).toNat).2.1=0:=hz
    rw[be hz',aE,qK,aa,if_pos hz]
    exact Ret.some rfl
   ·have hz':¬(shz (vI t q) (bM t q).toNat).2.1=0:=hz
    rw[aq hz',ak,if_neg hz]
    exact Ret.some rfl
  rintro _ rfl
  rw[ah]
  refine Ret.some ⟨h6,fun e he=>?_⟩
  rw[he]at h6
  obtain⟨ha,hc⟩:=mQ h6
  have hwe:w=wdM t q:=by
   cases hp:p2M t q with
   |ok e'=>exact hw e' hp
   |error k=>
    exfalso
    have:p3M t q= .error k:=by unfold p3M hxM;rw[hp];rw[show pkB t (.error k)= -1 from rfl,iD]
    rw[H8 this]at he
    cases he
  dsimp only
  rw[hc,ha,hwe]
 ·have hb:=dK t p hpin
  dsimp only at hrec|-
  refine Ret.bnd (Q:=fun y=>y=true) ?_ ?_
  ·rw[be rfl,aE]
   by_cases h102:rdU t 1 p=102
   ·rw[be h102,aE,aa];exact Ret.some rfl
   ·rw[aq h102,ak,pY hb.1 hb.2,aa,aa,decide_eq_true ⟨hpf,h102⟩];exact Ret.some rfl
  rintro _ rfl
  rw[aE]
  have hpk:pkB t p=rdU t 1 p:=oO hpin hpos.symm
  by_cases hgo:rdU t 1 p=102/\w=false
  ·
   obtain⟨h102,rfl⟩:=hgo
   obtain rfl:p=q:=by
    rcases hS with ⟨_,g⟩|⟨g,_⟩
    ·exact g
    ·cases g
   have hwd:wdM t p=true:=decide_eq_true (by rw[hpk];exact h102)
   have e1:p1M t p=adv t 1 p:=by unfold p1M;rw[hwd,if_pos rfl]
   have hin:(aI a 0).In t:=by rw[hpos];exact hpin.adv (by decide)
   obtain⟨a3,c3,e3,g3⟩:=ls (x:=0) (w:=true) hl hin
   rw[be h102,bE,ak,aa,ak,aa,ah]
   dsimp only
   rw[e3,aa]
   refine hrec _ (.inr (.inl ⟨a3,c3,by rw[e1,hpos],by rw[g3,hpos,e1],hwd⟩)) ?_
   dsimp only
   rw[if_pos rfl,if_neg (show ¬false=true by decide),if_pos rfl]
   split<;>omega
  ·refine Ret.bnd (Q:=fun y=>y=true) ?_ ?_
   ·by_cases h102:rdU t 1 p=102
    ·have hw:w=true:=by
      cases w with
      |true=>rfl
      |false=>exact absurd ⟨h102,rfl⟩ hgo
     rw[be h102,bE,ak]
     exact Ret.some hw
    ·rw[aq h102,bU,aE];exact Ret.some rfl
   rintro _ rfl
   rw[aE,qK,aa,aa,ah,if_pos rfl]
   dsimp only
   have h2:p2M t q= .error 10:=by
    rcases hS with ⟨rfl,rfl⟩|⟨rfl,rfl,hwd⟩
    ·have hwd:wdM t p=false:=decide_eq_false fun g=>hgo ⟨by rw[<-hpk];exact g,rfl⟩
     have e1:p1M t p=p:=by unfold p1M;rw[hwd,iD]
     unfold p2M
     rw[e1,hpk,hqq]
     rw[hqq]at hpf
     unfold exb
     dsimp only
     rw[if_pos hpf]
    ·unfold p2M
     rw[hpk]
     cases hp:p1M t q with
     |error k=>rw[hp]at hpos;cases hpos
     |ok e=>rw[hp]at hpf;unfold exb;dsimp only;rw[if_pos hpf]
   obtain⟨a3,c3,e3,g3⟩:=ls (t:=t) (a:=a) (c:=10) (x:=0) (w:=true) hl (fun e he=>by cases he)
   rw[e3,aa]
   have hc3:c3=10:=(mP (g3.trans (show adv t 1 (aI a 10)= .error 10 from rfl))).1
   subst hc3
   refine hrec _ (.inr (.inr ⟨a3,rfl,h2⟩)) ?_
   dsimp only
   rw[if_pos rfl,if_neg (show ¬(10:Int)=0 by decide),if_pos rfl]
   split<;>omega
end
section
variable {t:List UInt8}{a c x:Int}{w:Bool}
theorem nI {f:Int}(h:0<=f/\f<18):dr ((f,()),())=some (oF f,()):=by
 obtain⟨n,rfl⟩:=Int.eq_ofNat_of_zero_le h.1
 exact Dl n (by omega)
theorem sw4 {α β γ:Type}{a b:Bool}{r:α}{y:γ}:br a (some (Sum.inl ((y,a,()),r):Sum ((γ×Bool×Unit)×α) β)) (some (Sum.inl ((y,b,()),r)))=some (Sum.inl ((y,a||b,()),r)):=by cases a<;>rfl
theorem HS (op:Int):(eqI op 29||(eqI op 30||(eqI op 31||eqI op 32)))=cR op:=by rw[Bool.eq_iff_iff];simp[cR,eqI]
theorem HR (op:Int):(eqI op 33||(eqI op 34||(eqI op 37||(eqI op 38||(eqI op 43||eqI op 44)))))=eK op:=by rw[Bool.eq_iff_iff];simp[eK,eqI]
theorem bit3 {x:Int}(hx:oi x):aO ((x,3,()),())=some (x/8%2,()):=by
 rw[mF _ _ (by decide) (by decide)]
 have h1:x%2^64=x:=Int.emod_eq_of_lt (by unfold oi at hx;omega) (by unfold oi at hx;omega)
 rw[h1];rfl
theorem Hq (z:Shz)(op:Int)(hx:oi x):eZ ((z,op,()),(t,a,x,w,c,()),())=some (szM z.2.2.2.1 op w x,(t,a,x,w,c,()),()):=by
 unfold eZ
 dsimp only
 simp only[sw4,aa,ah,HS]
 unfold szM
 cases h8:cR op with
 |true=>rw[aE,if_pos rfl]
 |false=>
  rw[ak,iD]
  simp only[sw1,aa,ah,HR]
  cases h0:eK op with
  |true=>rw[aE,aa,qg,if_pos rfl]
  |false=>
   rw[ak,aa,ah,iD]
   dsimp only
   cases hb:z.2.2.2.1 with
   |true=>rw[aE,if_pos rfl]
   |false=>
    rw[ak,iD,bit3 hx,aa]
    by_cases h3:x/8%2=1
    ·rw[if_pos h3,be h3,aE]
    ·rw[if_neg h3,aq h3,ak]
     cases w<;>rfl
theorem Hu (z:Shz)(op:Int):ig ((z,op,()),())=some (!(cR op||eK op||z.2.2.2.1),()):=by
 unfold ig
 dsimp only
 simp only[sw1,aa,ah]
 have e:(eqI op 29||(eqI op 30||(eqI op 31||(eqI op 32||(eqI op 33||(eqI op 34||(eqI op 37||(eqI op 38||(eqI op 43||eqI op 44)))))))))=(cR op||eK op):=by
  rw[<-HS,<-HR];simp only[Bool.or_assoc]
 rw[e]
 cases h:(cR op||eK op)with
 |true=>rw[aE,aa,qg];rfl
 |false=>rw[ak,aa,ah];rfl
theorem EG (y:Ins)(z:Shz)(hf:z.2.2.2.2.1=0\/z.2.2.2.2.1=1\/z.2.2.2.2.1=2\/z.2.2.2.2.1=4)(m:Int):
  gm ((y,z,w,()),())=some (decide (qv w z.2.2.2.1 z.2.2.2.2.1 y.op y.size m≠10),()):=by
 unfold gm
 dsimp only
 refine(Ret.bnd (Q:=fun u=>u=(w&&(cR y.op||eK y.op||z.2.2.2.1))) ?_ ?_).eq
 ·cases w with
  |true=>rw[aE,Hu,aa];exact Ret.some (by rw[kD];simp)
  |false=>rw[ak];exact Ret.some rfl
 rintro _ rfl
 unfold qv
 have e3:(w&&(cR y.op||eK y.op||z.2.2.2.1))=true↔(w=true/\(cR y.op=true\/eK y.op=true\/z.2.2.2.1=true)):=by simp[or_assoc]
 by_cases p:(w&&(cR y.op||eK y.op||z.2.2.2.1))=true
 ·rw[p,aE,if_pos (.inl (e3.1 p))]
  exact Ret.some rfl
 ·rw[Bool.not_eq_true]at p
  rw[p,ak]
  have p':¬(w=true/\(cR y.op=true\/eK y.op=true\/z.2.2.2.1=true)):=fun g=>by rw[e3.2 g]at p;cases p
  by_cases h4:z.2.2.2.2.1=4
  ·rw[ae (be h4)]
   refine Ret.some ?_
   congr 1
   by_cases h8:y.size=8
   ·rw[if_neg (fun g=>g.elim p' (by omega)),be h8]
    split<;>rfl
   ·rw[if_pos (.inr (.inl ⟨h4,h8⟩)),aq h8];rfl
  ·rw[ag (aq h4)]
   by_cases h0:z.2.2.2.2.1=0
   ·rw[ae (be h0),aa,if_neg (fun g=>g.elim p' (by omega))]
    refine Ret.some ?_
    congr 1
    split<;>rfl
   ·rw[ag (aq h0),aa]
    refine Ret.some ?_
    congr 1
    by_cases hs:y.size<=z.2.2.2.2.1
    ·rw[if_pos (.inr (.inr ⟨by omega,hs⟩)),fM];rfl
    ·rw[if_neg (fun g=>g.elim p' (by omega)),fv]
     split<;>rfl
theorem FL {w by':Bool}{frm op z m:Int}(h:qv w by' frm op z m≠10):qv w by' frm op z m=if op=25/\m/64=3 then 12 else 0:=by
 unfold qv at h|-
 split
 ·rename_i g;rw[if_pos g]at h;exact absurd rfl h
 ·rfl
end
section
variable {t:List UInt8}
theorem wD {at0:Int}(hl:(t.length:Int)<=1099511627776)(h0:0<=at0)(h1:at0<=t.length):fG ((t,at0,()),())=some (((nW t at0).1,(nW t at0).2,()),()):=by
 have hq:Pos.In (.ok at0) t:=fun a ha=>by cases ha;exact⟨h0,h1⟩
 have bad:∀ {c},p9M t (.ok at0)= .error c->(some (((uj,c,()),()):(Ins×Int×Unit)×Unit))=some (((nW t at0).1,(nW t at0).2,()),()):=fun h=>by rw[zJ h]
 have hz:=of_decide_eq_true (sw hq)
 have hm:=me hq
 have hb:=lc hq
 have hx:=He t (.ok at0)
 unfold fG
 dsimp only
 obtain⟨y2,e2,g2,k2⟩:=Hm hl h0 h1
 refine(Ret.bnd (Q:=fun y=>y=y2) (Ret.of_eq e2 rfl) ?_).eq
 rintro _ rfl
 cases h6:p6M t (.ok at0)with
 |error c=>
  rw[h6]at g2
  obtain⟨rfl,n2⟩:=mP g2
  rw[jU n2,aE]
  exact Ret.of_eq (bad (xa (D9 h6))) rfl
 |ok a2=>
 obtain rfl:=k2 a2 h6
 have hin6:(aI a2 0).In t:=by rw[dw,<-h6];exact wZ hq
 dsimp only
 rw[show aQ (eqI 0 0)=false from rfl,ak,nI ⟨hz.2.2.1,hz.2.2.2.1⟩,aa]
 dsimp only
 refine Ret.bnd (Q:=fun y=>∃a c o,y=Sum.inl ((at0,bM t (.ok at0),mM t (.ok at0),()),(0,0,0,0,0,0,0,0,0,0,0,0,0,0,0,0,0,0,0,()),(t,a,xM t (.ok at0),wdM t (.ok at0),c,()),zM t (.ok at0),(o,0,0,(zM t (.ok at0)).2.2.2.2.1,0,0,0,0,0,0,0,0,0,0,0,0,0,0,0,()),())/\aI a c=p8M t (.ok at0)/\(c=0->o=opM t (.ok at0))) ?_ ?_
 ·cases hM:oF (zM t (.ok at0)).2.1 with
  |false=>
   have hg:yt (zM t (.ok at0))=false:=decide_eq_false fun g=>by
    have:=(hz.2.2.2.2.2.2.2.2.1 g).1
    rw[hM]at this;cases this
   have e1:mM t (.ok at0)=0:=by unfold mM;rw[hM,iD]
   have e2:opM t (.ok at0)=(zM t (.ok at0)).1:=by unfold opM;rw[hg,iD]
   have e3:p8M t (.ok at0)= .ok a2:=by unfold p8M p7M;rw[hM,hg,iD,h6];simp[exb]
   rw[ak]
   exact Ret.some ⟨a2,0,opM t (.ok at0),by rw[e1,e2],by rw[e3];rfl,fun _=>rfl⟩
  |true=>
   obtain⟨a4,c4,e4,g4⟩:=ls (x:=xM t (.ok at0)) (w:=wdM t (.ok at0)) hl hin6
   have e1:mM t (.ok at0)=rdU t 1 (aI a2 0):=by unfold mM;rw[hM,if_pos rfl,h6];rfl
   have e7:p7M t (.ok at0)=aI a4 c4:=by unfold p7M;rw[hM,if_pos rfl,h6,g4];rfl
   rw[aE,e4,<-e1,aa]
   dsimp only
   rw[fS hm.1 (by decide) (by omega),dG]
   by_cases hg:0<(zM t (.ok at0)).2.2.1
   ·have hgB:yt (zM t (.ok at0))=true:=decide_eq_true hg
    have e8:p8M t (.ok at0)=exb (aI a4 c4) fun a=>if opM t (.ok at0)=0 then .error 11 else .ok a:=by
     unfold p8M;rw[e7,hgB];simp only[true_and]
    have eo:grp (zM t (.ok at0)).2.2.1.toNat (mM t (.ok at0)/8%8).toNat=opM t (.ok at0):=by unfold opM;rw[hgB,if_pos rfl]
    by_cases hc:c4=0
    ·subst hc
     have hgo:=yF (zM t (.ok at0)).2.2.1.toNat (by omega) (by omega) (mM t (.ok at0)/8%8).toNat (by omega)
     rw[Int.toNat_of_nonneg (by omega),Int.toNat_of_nonneg (by omega),eo]at hgo
     rw[be rfl,aE,aa,fv hg,aE,hgo,aa]
     dsimp only
     rw[dw]at e8
     unfold exb at e8
     dsimp only at e8
     by_cases ho:opM t (.ok at0)=0
     ·rw[if_pos ho]at e8
      rw[be ho,aE,qK,aa,aa,ah,if_pos rfl]
      exact Ret.some ⟨a4,11,opM t (.ok at0),rfl,by rw[e8];rfl,fun _=>rfl⟩
     ·rw[if_neg ho]at e8
      rw[aq ho,ak,aa,ah]
      exact Ret.some ⟨a4,0,opM t (.ok at0),rfl,by rw[e8];rfl,fun _=>rfl⟩
    ·rw[cT hc]at e8
     unfold exb at e8
     dsimp only at e8
     rw[aq hc,ak,aa,ak,aa,ah]
     exact Ret.some ⟨a4,c4,(zM t (.ok at0)).1,rfl,by rw[e8,cT hc],fun g=>absurd g hc⟩
   ·have hgB:yt (zM t (.ok at0))=false:=decide_eq_false hg
    have e2:opM t (.ok at0)=(zM t (.ok at0)).1:=by unfold opM;rw[hgB,iD]
    have e8:p8M t (.ok at0)=aI a4 c4:=by
     unfold p8M;rw[e7,hgB]
     cases aI a4 c4<;>simp[exb]
    refine Ret.bnd (Q:=fun y=>y=false) ?_ ?_
    ·rw[fM hg]
     cases eqI c4 0
     ·rw[ak];exact Ret.some rfl
     ·rw[aE];exact Ret.some rfl
    rintro _ rfl
    rw[ak,aa,ah]
    exact Ret.some ⟨a4,c4,opM t (.ok at0),by rw[e2],by rw[e8],fun _=>rfl⟩
 rintro _ ⟨a8,c8,o8,rfl,g8,k8⟩
 rw[ah]
 dsimp only
 cases h8:p8M t (.ok at0)with
 |error c=>
  rw[h8]at g8
  obtain⟨rfl,n3⟩:=mP g8
  rw[jU n3,aE]
  exact Ret.of_eq (bad (xa h8)) rfl
 |ok a3=>
 rw[h8]at g8
 obtain⟨rfl,rfl⟩:=mQ g8
 obtain rfl:=k8 rfl
 rw[show aQ (eqI 0 0)=false from rfl,ak,Hq _ _ hx,aa]
 dsimp only
 rw[EG _ _ (by omega) (mM t (.ok at0)),aa]
 have h9:p9M t (.ok at0)=if qv (wdM t (.ok at0)) (zM t (.ok at0)).2.2.2.1 (zM t (.ok at0)).2.2.2.2.1 (opM t (.ok at0)) (zsM t (.ok at0)) (mM t (.ok at0))≠0 then .error (qv (wdM t (.ok at0)) (zM t (.ok at0)).2.2.2.1 (zM t (.ok at0)).2.2.2.2.1 (opM t (.ok at0)) (zsM t (.ok at0)) (mM t (.ok at0)))else .ok a8:=by unfold p9M;rw[h8];rfl
 have hsz:szM (zM t (.ok at0)).2.2.2.1 (opM t (.ok at0)) (wdM t (.ok at0)) (xM t (.ok at0))=zsM t (.ok at0):=rfl
 rw[hsz]
 dsimp only
 by_cases hb10:qv (wdM t (.ok at0)) (zM t (.ok at0)).2.2.2.1 (zM t (.ok at0)).2.2.2.2.1 (opM t (.ok at0)) (zsM t (.ok at0)) (mM t (.ok at0))=10
 ·rw[hb10,if_pos (by decide)]at h9
  rw[decide_eq_false (fun g=>g hb10),bU,aE]
  exact Ret.of_eq (bad h9) rfl
 rw[FL hb10]at h9
 rw[decide_eq_true hb10,bE,ak,fS hm.1 (by decide) (by omega)]
 refine Ret.bnd (Q:=fun y=>y=decide (opM t (.ok at0)=25/\mM t (.ok at0)/64=3)) ?_ ?_
 ·by_cases ho:opM t (.ok at0)=25
  ·rw[be ho,aE];exact Ret.some (by simp[eqI,ho])
  ·rw[aq ho,ak];exact Ret.some (by simp[ho])
 rintro _ rfl
 by_cases hlea:opM t (.ok at0)=25/\mM t (.ok at0)/64=3
 ·rw[if_pos hlea,if_pos (by decide)]at h9
  rw[decide_eq_true hlea,aE]
  exact Ret.of_eq (bad h9) rfl
 rw[if_neg hlea,iD]at h9
 rw[decide_eq_false hlea,ak]
 have hin9:(aI a8 0).In t:=by rw[dw,<-h9];exact tM hq
 simp only[AR,aa]
 refine Ret.bnd (Q:=fun y=>y=Sum.inl ((at0,bM t (.ok at0),mM t (.ok at0),()),(0,0,0,0,0,0,0,0,0,0,0,0,0,0,0,0,0,0,0,()),(t,a8,xM t (.ok at0),wdM t (.ok at0),0,()),zM t (.ok at0),(opM t (.ok at0),zsM t (.ok at0),cdM t (.ok at0),(zM t (.ok at0)).2.2.2.2.1,0,0,0,0,0,0,0,0,0,0,0,0,0,0,0,()),())) ?_ ?_
 ·unfold cdM
  by_cases ho:opM t (.ok at0)=33\/opM t (.ok at0)=35\/opM t (.ok at0)=36
  ·rw[if_pos ho,show(eqI (opM t (.ok at0)) 33||eqI (opM t (.ok at0)) 35||eqI (opM t (.ok at0)) 36)=true by simp[eqI];omega,aE,dG hb.1]
   exact Ret.some rfl
  ·rw[if_neg ho,show(eqI (opM t (.ok at0)) 33||eqI (opM t (.ok at0)) 35||eqI (opM t (.ok at0)) 36)=false by simp[eqI];omega,ak]
   exact Ret.some rfl
 rintro _ rfl
 rw[ah]
 dsimp only
 rw[nI ⟨hz.2.2.1,hz.2.2.2.1⟩,aa]
 dsimp only
 refine Ret.bnd (Q:=fun y=>∃a c,y=Sum.inl ((at0,()),(0,0,0,0,0,0,0,0,0,0,0,0,0,0,0,0,0,0,0,()),(t,a,xM t (.ok at0),wdM t (.ok at0),c,()),dX ⟨opM t (.ok at0),zsM t (.ok at0),cdM t (.ok at0),(zM t (.ok at0)).2.2.2.2.1,(oM t (.ok at0)).1,(oM t (.ok at0)).2.1,0⟩ (),())/\aI a c=(oM t (.ok at0)).2.2) ?_ ?_
 ·unfold oM
  have e9:p9M t (.ok at0)=aI a8 0:=h9
  rw[e9]
  cases hM:oF (zM t (.ok at0)).2.1 with
  |true=>
   obtain⟨a5,c5,e5,g5⟩:=EC (w:=wdM t (.ok at0)) (z:=zsM t (.ok at0)) (f:=(zM t (.ok at0)).2.1) (frm:=(zM t (.ok at0)).2.2.2.2.1) (op:=opM t (.ok at0)) (cd:=cdM t (.ok at0)) hx hm.1 hm.2 (bM t (.ok at0)) (zM t (.ok at0)).1 (zM t (.ok at0)).2.2.1 (zM t (.ok at0)).2.2.2.1 hM (fun h=>ot hq (by omega)) hl hin9
   rw[aE]
   refine Ret.bnd (Q:=fun y=>y=_) (Ret.of_eq e5 rfl) ?_
   rintro _ rfl
   exact Ret.some ⟨a5,c5,rfl,g5⟩
  |false=>
   obtain⟨a5,c5,e5,g5⟩:=ED (w:=wdM t (.ok at0)) (m:=mM t (.ok at0)) (z:=zsM t (.ok at0)) (f:=(zM t (.ok at0)).2.1) (frm:=(zM t (.ok at0)).2.2.2.2.1) (op:=opM t (.ok at0)) (cd:=cdM t (.ok at0)) hx hb.1 (zM t (.ok at0)).1 (zM t (.ok at0)).2.2.1 (zM t (.ok at0)).2.2.2.1 hM (fun h=>ot hq (by omega)) hl hin9
   rw[ak]
   refine Ret.bnd (Q:=fun y=>y=_) (Ret.of_eq e5 rfl) ?_
   rintro _ rfl
   exact Ret.some ⟨a5,c5,rfl,g5⟩
 rintro _ ⟨a5,c5,rfl,g5⟩
 rw[ah]
 dsimp only
 by_cases n5:c5≠0
 ·rw[jU n5,aE]
  rw[cT n5]at g5
  refine Ret.some ?_
  unfold nW
  rw[<-g5]
  rfl
 obtain rfl:c5=0:=Decidable.not_not.1 n5
 rw[dw]at g5
 have hin5:0<=a5/\a5<=t.length:=(y4 (tM hq) (ot hq)) a5 g5.symm
 rw[show aQ (eqI 0 0)=false from rfl,ak,ya g5.symm,bn]
 exact Ret.some rfl
end
def Pos.Bd (p:Pos)(lo hi:Int):Prop:=∀a,p= .ok a->lo<=a/\a<=hi
section
variable {t:List UInt8}{lo hi:Int}
theorem Pos.Bd.adv {p:Pos}(h:p.Bd lo hi)(n:Int):Pos.Bd (Go.Den.G.adv t n p) (lo+n) (hi+n):=by
 intro a ha
 cases p with
 |error _=>cases ha
 |ok b=>
  obtain⟨h1,h2⟩:=h b rfl
  unfold Go.Den.G.adv exb at ha
  dsimp only at ha
  split at ha
  ·cases ha;omega
  ·cases ha
theorem Pos.Bd.mono {p:Pos}(h:p.Bd lo hi){lo' hi':Int}(h1:lo'<=lo)(h2:hi<=hi'):p.Bd lo' hi':=fun a ha=>by
 have:=h a ha;omega
theorem zQ {p:Pos}{q:Int->Prop}[DecidablePred q]{k:Int}(h:p.Bd lo hi):Pos.Bd (exb p fun a=>if q a then .error k else .ok a) lo hi:=by
 intro a ha
 cases p with
 |error c=>cases ha
 |ok b=>
  unfold exb at ha
  dsimp only at ha
  split at ha
  ·cases ha
  ·exact h a (by cases ha;rfl)
theorem p1M_bd {q:Pos}(h:q.Bd lo hi):(p1M t q).Bd lo (hi+1):=by
 unfold p1M;split
 ·exact(h.adv 1).mono (by omega) (by omega)
 ·exact h.mono (by omega) (by omega)
theorem p3M_bd {q:Pos}(h:q.Bd lo hi):(p3M t q).Bd lo (hi+2):=by
 have h2:(p2M t q).Bd lo (hi+1):=zQ (q:=fun _=>pkB t (p1M t q)∈qG) (p1M_bd h)
 unfold p3M;split
 ·exact(h2.adv 1).mono (by omega) (by omega)
 ·exact h2.mono (by omega) (by omega)
theorem p6M_bd {q:Pos}(h:q.Bd lo hi):(p6M t q).Bd (lo+1) (hi+4):=by
 refine zQ (q:=fun _=>(zM t q).2.1=0) ?_
 have h3:=p3M_bd (t:=t) h
 unfold p5M;split
 ·exact((h3.adv 1).adv 1).mono (by omega) (by omega)
 ·exact(h3.adv 1).mono (by omega) (by omega)
theorem p9M_bd {q:Pos}(h:q.Bd lo hi):(p9M t q).Bd (lo+1) (hi+5):=by
 refine zQ (q:=fun _=>qv (wdM t q) (zM t q).2.2.2.1 (zM t q).2.2.2.2.1 (opM t q) (zsM t q) (mM t q)≠0) (zQ (q:=fun _=>yt (zM t q)=true/\opM t q=0) ?_)
 have h6:=p6M_bd (t:=t) h
 unfold p7M;split
 ·exact(h6.adv 1).mono (by omega) (by omega)
 ·exact h6.mono (by omega) (by omega)
theorem CQ (mod rm b:Int):0<=lD mod rm b/\lD mod rm b<=4:=by unfold lD;(repeat' split)<;>decide
theorem yf {w:Int}{p:Pos}(h:p.Bd lo hi)(hw:0<=w/\w<=4):(CO t w p).Bd lo (hi+4):=by
 unfold CO;split
 ·exact h.mono (by omega) (by omega)
 ·exact(h.adv w).mono (by omega) (by omega)
theorem mN {x m z:Int}{p:Pos}(h:p.Bd lo hi):(plM t x m z p).2.Bd lo (hi+5):=by
 unfold plM Ch
 split
 ·exact h.mono (by omega) (by omega)
 ·split
  ·exact(yf (h.adv 1) (CQ ..)).mono (by omega) (by omega)
  ·split
   ·exact(yf (w:=4) h (by decide)).mono (by omega) (by omega)
   ·exact(yf h (CQ ..)).mono (by omega) (by omega)
theorem yx {z:Int}(h:fq z):1<=gI 4 z/\gI 4 z<=4:=by
 unfold fq at h
 rcases h with rfl|rfl|rfl|rfl<;>decide
theorem opsM_bd {f frm op z x b m:Int}{p:Pos}(h:p.Bd lo hi)(hz:(f=3\/f=5\/f=6\/f=8)->fq z):(oN t f frm op z x b m p).2.2.Bd lo (hi+9):=by
 unfold oN
 by_cases f1:f=1
 ·rw[if_pos f1]
  exact(mN h).mono (by omega) (by omega)
 rw[if_neg f1]
 by_cases f2:f=2
 ·rw[if_pos f2]
  exact(mN h).mono (by omega) (by omega)
 rw[if_neg f2]
 by_cases f17:f=17
 ·rw[if_pos f17]
  exact(mN h).mono (by omega) (by omega)
 rw[if_neg f17]
 by_cases f3:f=3
 ·rw[if_pos f3]
  have:=yx (hz (.inl f3))
  exact(h.adv (gI 4 z)).mono (by omega) (by omega)
 rw[if_neg f3]
 by_cases f4:f=4
 ·rw[if_pos f4]
  exact((mN h).adv 1).mono (by omega) (by omega)
 rw[if_neg f4]
 by_cases f5:f=5
 ·rw[if_pos f5]
  have:=yx (hz (.inr (.inl f5)))
  exact((mN h).adv (gI 4 z)).mono (by omega) (by omega)
 rw[if_neg f5]
 by_cases f6:f=6
 ·rw[if_pos f6]
  unfold nD
  cases BP op
  ·rw[iD]
   by_cases ho:op=10
   ·rw[if_pos ho]
    have:=yx (hz (.inr (.inr (.inl f6))))
    exact((mN h).adv (gI 4 z)).mono (by omega) (by omega)
   ·rw[if_neg ho]
    exact(mN h).mono (by omega) (by omega)
  ·rw[if_pos rfl]
   exact(mN h).mono (by omega) (by omega)
 rw[if_neg f6]
 by_cases f7:f=7
 ·rw[if_pos f7]
  by_cases ho:op=29
  ·rw[if_pos ho]
   exact h.mono (by omega) (by omega)
  ·rw[if_neg ho]
   exact h.mono (by omega) (by omega)
 rw[if_neg f7]
 by_cases f8:f=8
 ·rw[if_pos f8]
  have:=sz18 (hz (.inr (.inr (.inr f8))))
  exact(h.adv z).mono (by omega) (by omega)
 rw[if_neg f8]
 by_cases f9:f=9
 ·rw[if_pos f9]
  exact(h.adv 1).mono (by omega) (by omega)
 rw[if_neg f9]
 by_cases f15:f=15
 ·rw[if_pos f15]
  exact(h.adv 1).mono (by omega) (by omega)
 rw[if_neg f15]
 by_cases f10:f=10\/f=16
 ·rw[if_pos f10]
  exact(h.adv 4).mono (by omega) (by omega)
 rw[if_neg f10]
 by_cases f11:f=11
 ·rw[if_pos f11]
  exact((mN h).adv 1).mono (by omega) (by omega)
 rw[if_neg f11]
 by_cases f12:f=12
 ·rw[if_pos f12]
  exact(mN h).mono (by omega) (by omega)
 rw[if_neg f12]
 by_cases f13:f=13
 ·rw[if_pos f13]
  exact(mN h).mono (by omega) (by omega)
 rw[if_neg f13]
 exact h.mono (by omega) (by omega)
theorem decLen {at0 e:Int}(h0:0<=at0)(h1:at0<=t.length)(h:(oM t (.ok at0)).2.2= .ok e):at0+1<=e/\e<=at0+14/\e<=t.length:=by
 have hq:Pos.In (.ok at0) t:=fun a ha=>by cases ha;exact⟨h0,h1⟩
 have hb:Pos.Bd (.ok at0) at0 at0:=fun a ha=>by cases ha;omega
 have:=opsM_bd (p9M_bd (t:=t) hb) (ot hq) e h
 have:=y4 (tM hq) (ot hq) e h
 omega
end
theorem zr (m:Nat):((2^m:Nat):Int)=(2:Int)^m:=by simp
theorem Hv (m:Nat)(hm:m<=63)(v:Int): -(2:Int)^m<=sx m v/\sx m v<2^m:=by
 unfold sx
 have hp:(0:Int)<2^(m+1):=Int.pow_pos (by decide)
 have h1:=Int.emod_nonneg v (Int.ne_of_gt hp)
 have h2:=Int.emod_lt_of_pos v hp
 have hd:(2:Int)^(m+1)=2^m*2:=Int.pow_succ 2 m
 have hb:v%2^64/2^m%2=v%2^(m+1)/2^m:=by
  have h64:(2:Int)^(m+1)*2^(63-m)=2^64:=by rw[<-Int.pow_add];congr 1;omega
  have h1:v%2^(m+1)=v%2^64%2^(m+1):=by
   rw[Int.emod_emod_of_dvd]
   exact⟨2^(63-m),h64.symm⟩
  rw[h1,Int.pow_succ 2 m]
  have hu:=bt v
  rw[<-hu]
  rw[<-zr m]
  have h2:((2^m:Nat):Int)*2=((2^m*2:Nat):Int):=by simp
  rw[h2]
  rw[<-Int.natCast_ediv,<-Int.natCast_emod,<-Int.natCast_ediv,Nat.mod_mul_right_div_self]
  simp
 rw[hb]
 have hpm:(0:Int)<2^m:=Int.pow_pos (by decide)
 generalize v%2^(m+1)=r at*
 by_cases hs:(2:Int)^m<=r
 ·have hq:r/2^m=1:=by
   rw[Int.ediv_eq_iff_of_pos hpm];omega
  rw[hq,if_pos rfl];omega
 ·have hq:r/2^m=0:=Int.ediv_eq_zero_of_lt h1 (by omega)
  rw[hq,iD];omega
theorem sx7_id {u:Int}(h0: -128<=u)(h1:u<128):sx 7 u=u:=by
 unfold sx;rw[show(2:Int)^(7+1)=256 from rfl,show(2:Int)^7=128 from rfl,show(2:Int)^64=18446744073709551616 from rfl];split<;>omega
theorem sx15_id {u:Int}(h0: -32768<=u)(h1:u<32768):sx 15 u=u:=by
 unfold sx;rw[show(2:Int)^(15+1)=65536 from rfl,show(2:Int)^15=32768 from rfl,show(2:Int)^64=18446744073709551616 from rfl];split<;>omega
theorem EQ {u:Int}(h0: -2147483648<=u)(h1:u<2147483648):sx 31 u=u:=by
 unfold sx;rw[show(2:Int)^(31+1)=4294967296 from rfl,show(2:Int)^31=2147483648 from rfl,show(2:Int)^64=18446744073709551616 from rfl];split<;>omega
section
variable {t:List UInt8}
theorem Ei {w:Int}(hw:w=1\/w=2\/w=4)(p:Pos): -(2:Int)^(8*w-1).toNat<=rdS t w p/\rdS t w p<2^(8*w-1).toNat:=Hv _ (by omega) _
theorem y7 (p:Pos): -128<=rdS t 1 p/\rdS t 1 p<128:=Ei (.inl rfl) p
theorem rdS2_bd (p:Pos): -32768<=rdS t 2 p/\rdS t 2 p<32768:=Ei (.inr (.inl rfl)) p
theorem y8 (p:Pos): -2147483648<=rdS t 4 p/\rdS t 4 p<2147483648:=Ei (.inr (.inr rfl)) p
theorem yo {u z:Int}(hz:fq z):yn u z=true↔(z=1/\ -128<=u/\u<128)\/(z=2/\ -32768<=u/\u<32768)\/((z=4\/z=8)/\ -2147483648<=u/\u<2147483648):=by
 unfold yn fitsB
 rw[nH]
 have h7: -128<=sx 7 u/\sx 7 u<128:=Hv 7 (by decide) u
 have h15: -32768<=sx 15 u/\sx 15 u<32768:=Hv 15 (by decide) u
 have h31: -2147483648<=sx 31 u/\sx 31 u<2147483648:=Hv 31 (by decide) u
 rcases hz with rfl|rfl|rfl|rfl
 ·show sx 7 u=u↔_
  constructor
  ·intro h;omega
  ·intro h;exact sx7_id (by omega) (by omega)
 ·show sx 15 u=u↔_
  constructor
  ·intro h;omega
  ·intro h;exact sx15_id (by omega) (by omega)
 ·show sx 31 u=u↔_
  constructor
  ·intro h;omega
  ·intro h;exact EQ (by omega) (by omega)
 ·show sx 31 u=u↔_
  constructor
  ·intro h;omega
  ·intro h;exact EQ (by omega) (by omega)
theorem nZ {z:Int}(hz:fq z)(p:Pos):yn (rdS t (gI 4 z) p) z=true:=by
 rw[yo hz]
 have h1:=y7 (t:=t) p
 have h2:=rdS2_bd (t:=t) p
 have h4:=y8 (t:=t) p
 rcases hz with rfl|rfl|rfl|rfl
 ·exact .inl ⟨rfl,h1⟩
 ·exact .inr (.inl ⟨rfl,h2⟩)
 ·exact .inr (.inr ⟨.inl rfl,h4⟩)
 ·exact .inr (.inr ⟨.inr rfl,h4⟩)
theorem uz {z:Int}(hz:fq z)(p:Pos):yn (rdS t 1 p) z=true:=by
 rw[yo hz]
 have h1:=y7 (t:=t) p
 unfold fq at hz
 omega
theorem tc {z:Int}(hz:fq z):yn 0 z=true:=by
 rw[yo hz]
 unfold fq at hz
 omega
def oOK (x z:Int)(o:Opd):Prop:=rS o z/\(x=0->¬sN o z)/\(x≠0->¬Fv o)
theorem yV {x n z:Int}(h0:0<=n)(h15:n<=15)(h7:x=0->n<=7):oOK x z (qp (k7 x n z)):=by
 unfold oOK rS sN Fv opB Ic noP r8 qp k7
 dsimp only
 split<;>refine⟨?_,?_,?_⟩<;>omega
theorem yT {x n z:Int}(h0:0<=n)(h15:n<=15)(h7:x=0->n<=7)(hz:z≠1\/n<=3):oOK x z (qp n):=by
 unfold oOK rS sN Fv opB Ic noP r8 qp
 dsimp only
 refine⟨?_,?_,?_⟩<;>omega
theorem j4 {x n z:Int}:oOK x z (wq n):=by
 unfold oOK rS sN Fv opB Ic noP r8 wq Ci
 dsimp only
 refine⟨?_,?_,?_⟩<;>omega
theorem mJ {x z:Int}:oOK x z noD:=by
 unfold oOK rS sN Fv opB Ic noP r8 noD Ci
 dsimp only
 refine⟨?_,?_,?_⟩<;>omega
theorem yU {x z b i s d:Int}(h1:Ci 2 0 b i s d 0)(h2:x=0->(b<=7\/b=16)/\i<=7):oOK x z (memD b i s d):=by
 refine⟨.inr (.inl h1),fun hx hr=>?_,fun _ hn=>?_⟩
 ·have:=h2 hx
  clear h1
  unfold sN Ic memD at hr
  dsimp only at hr
  omega
 ·unfold Fv noP memD at hn
  dsimp only at hn
  omega
theorem CP {mod rm b:Int}(p:Pos): -2147483648<=Cg t (lD mod rm b) p/\Cg t (lD mod rm b) p<=2147483647:=by
 have h1:=y7 (t:=t) p
 have h4:=y8 (t:=t) p
 have hw:lD mod rm b=0\/lD mod rm b=1\/lD mod rm b=4:=by unfold lD;(repeat' split)<;>decide
 unfold Cg
 rcases hw with h|h|h<;>rw[h]
 ·rw[if_pos rfl];omega
 ·rw[iD];omega
 ·rw[iD];omega
theorem Ed {b:Int}(h0:0<=b)(h1:b<256):(2:Int)^(b/64).toNat=1\/(2:Int)^(b/64).toNat=2\/(2:Int)^(b/64).toNat=4\/(2:Int)^(b/64).toNat=8:=by
 have:b/64=0\/b/64=1\/b/64=2\/b/64=3:=by omega
 rcases this with h|h|h|h<;>rw[h]<;>decide
theorem memM_ok {x mod rm z:Int}{p:Pos}(hp:p.In t)(hrm:0<=rm/\rm<=7):oOK x z (Ch t x mod rm p).1:=by
 have hb:=dK t p hp
 obtain⟨e0,e8,ez⟩:=lh (x:=x) (k:=0) (by decide)
 obtain⟨f0,f8,fz⟩:=lh (x:=x) (k:=1) (by decide)
 have e2:=qY (x:=x) (k:=1) (by decide)
 have hpw:=Ed hb.1 hb.2
 unfold Ch
 split
 ·refine yU ?_ ?_
  ·have hd:=CP (t:=t) (mod:=mod) (rm:=rm) (b:=rdU t 1 p) (adv t 1 p)
   generalize Cg t (lD mod rm (rdU t 1 p)) (adv t 1 p)=d at hd|-
   generalize (2:Int)^(rdU t 1 p/64).toNat=s at hpw|-
   unfold Ci
   split<;>split<;>omega
  ·intro h
   split<;>split<;>omega
 ·split
  ·refine yU ?_ (fun _=>by omega)
   have h4: -2147483648<=Cg t 4 p/\Cg t 4 p<=2147483647:=by
    have:=y8 (t:=t) p
    unfold Cg;rw[iD];omega
   generalize Cg t 4 p=d at h4|-
   unfold Ci;omega
  ·refine yU ?_ (fun _=>by omega)
   have hd:=CP (t:=t) (mod:=mod) (rm:=rm) (b:=0) p
   generalize Cg t (lD mod rm 0) p=d at hd|-
   unfold Ci;omega
theorem plM_ok {x m z:Int}{p:Pos}(hp:p.In t):oOK x z (plM t x m z p).1:=by
 obtain⟨e0,e8,ez⟩:=lh (x:=x) (k:=0) (by decide)
 unfold plM
 split
 ·exact yV (by omega) (by omega) (by omega)
 ·exact memM_ok hp (by omega)
theorem As (t:List UInt8)(x m z:Int)(p:Pos):((plM t x m z p).1.kind=1\/(plM t x m z p).1.kind=2)/\(plM t x m z p).1.imm=0/\(m/64≠3->(plM t x m z p).1.kind=2):=by
 unfold plM Ch
 split
 ·exact⟨.inl rfl,rfl,fun h=>absurd (by assumption) h⟩
 ·split
  ·exact⟨.inr rfl,rfl,fun _=>rfl⟩
  ·split
   ·exact⟨.inr rfl,rfl,fun _=>rfl⟩
   ·exact⟨.inr rfl,rfl,fun _=>rfl⟩
end
def BS (f op:Int)(by':Bool):Prop:=
 (f=1/\(1<=op/\op<=10\/op=28))\/(f=2/\(1<=op/\op<=9\/(op=17\/op=25\/op=36)/\by'=false))\/(f=3/\(1<=op/\op<=8\/op=10))\/(f=4/\1<=op/\op<=8)\/(f=5/\1<=op/\op<=9)
def BU (f op:Int)(by':Bool)(frm:Int):Prop:=
 (f=17/\by'=false/\(op=26/\(frm=1\/frm=2)\/op=27/\(frm=1\/frm=2\/frm=4)))\/(f=6/\(10<=op/\op<=16\/op=18\/op=19\/29<=op/\op<=32\/op=35/\by'=true))\/(f=7/\(op=29\/op=30))\/(f=8/\op=9)
def BV (f op:Int):Prop:=
 (f=9/\(op=32\/op=33))\/(f=15/\(op=29\/op=44))\/(f=10/\31<=op/\op<=33)\/(f=16/\op=29)\/((f=11\/f=12\/f=13)/\20<=op/\op<=24)
def BW (f op:Int)(by':Bool):Prop:=
 f=14/\(op=34\/op=37\/op=38\/op=43\/(op=39\/op=40)/\by'=false\/(op=41\/op=42)/\by'=true)
instance (f op:Int) (b:Bool):Decidable (BS f op b):=by unfold BS;infer_instance
instance (f op:Int) (b:Bool) (r:Int):Decidable (BU f op b r):=by unfold BU;infer_instance
instance (f op:Int):Decidable (BV f op):=by unfold BV;infer_instance
instance (f op:Int) (b:Bool):Decidable (BW f op b):=by unfold BW;infer_instance
def tabB (f op:Int)(by':Bool)(frm:Int):Bool:=decide ((BS f op by'\/BU f op by' frm\/BV f op\/BW f op by')/\(f≠17->frm=0))
def tabC (sec:Bool)(n:Nat):Bool:=
 decide ((shz sec n).2.1=0)||(if 0<(shz sec n).2.2.1 then(List.range 8).all fun d=>decide (grp (shz sec n).2.2.1.toNat d=0)||tabB (shz sec n).2.1 (grp (shz sec n).2.2.1.toNat d) (shz sec n).2.2.2.1 (shz sec n).2.2.2.2.1
  else tabB (shz sec n).2.1 (shz sec n).1 (shz sec n).2.2.2.1 (shz sec n).2.2.2.2.1)
theorem tab_F:∀n:Nat,n<256->tabC false n=true:=by decide +kernel
theorem tab_T:∀n:Nat,n<256->tabC true n=true:=by decide +kernel
theorem tab_all (sec:Bool){n:Nat}(h:n<256):tabC sec n=true:=by
 cases sec
 ·exact tab_F n h
 ·exact tab_T n h
section
variable {t:List UInt8}
theorem CW {p:Pos}{q:Int->Prop}[DecidablePred q]{k e:Int}(h:(exb p fun a=>if q a then .error k else .ok a:Except Int Int)= .ok e):p= .ok e/\¬q e:=by
 cases p with
 |error c=>cases h
 |ok b=>
  unfold exb at h
  dsimp only at h
  split at h
  ·cases h
  ·rename_i hn
   cases h;exact⟨rfl,hn⟩
theorem adv_ok {p:Pos}{n e:Int}(h:adv t n p= .ok e):∃b,p= .ok b/\b+n<=t.length/\e=b+n:=by
 cases p with
 |error c=>cases h
 |ok b=>
  unfold adv exb at h
  dsimp only at h
  split at h
  ·cases h;exact⟨b,rfl,by assumption,rfl⟩
  ·cases h
theorem CH {q:Pos}{e:Int}(hq:q.In t)(h:(oM t q).2.2= .ok e):
  tabB (zM t q).2.1 (opM t q) (zM t q).2.2.2.1 (zM t q).2.2.2.2.1=true/\qv (wdM t q) (zM t q).2.2.2.1 (zM t q).2.2.2.2.1 (opM t q) (zsM t q) (mM t q)=0:=by
 have hb:=lc hq
 have hm:=me hq
 cases h9:p9M t q with
 |error c=>rw[show(oM t q).2.2= .error c from An h9]at h;cases h
 |ok a9=>
  obtain⟨h8,hbad⟩:=CW (q:=fun _=>qv (wdM t q) (zM t q).2.2.2.1 (zM t q).2.2.2.2.1 (opM t q) (zsM t q) (mM t q)≠0) h9
  obtain⟨h7,hop⟩:=CW (q:=fun _=>yt (zM t q)=true/\opM t q=0) h8
  have h6:∃b,p6M t q= .ok b:=by
   unfold p7M at h7
   split at h7
   ·obtain⟨b,hb,_⟩:=adv_ok h7;exact⟨b,hb⟩
   ·exact⟨_,h7⟩
  obtain⟨b6,h6⟩:=h6
  obtain⟨_,hf⟩:=CW (q:=fun _=>(zM t q).2.1=0) h6
  refine⟨?_,Decidable.not_not.1 hbad⟩
  have ht:=tab_all (vI t q) (show(bM t q).toNat<256 by omega)
  unfold tabC at ht
  have hf':¬(shz (vI t q) (bM t q).toNat).2.1=0:=hf
  rw[decide_eq_false hf',Bool.false_or]at ht
  change (if 0<(zM t q).2.2.1 then _ else tabB (zM t q).2.1 (zM t q).1 (zM t q).2.2.2.1 (zM t q).2.2.2.2.1)=true at ht
  by_cases hg:0<(zM t q).2.2.1
  ·rw[if_pos hg]at ht
   have hgB:yt (zM t q)=true:=decide_eq_true hg
   have eo:opM t q=grp (zM t q).2.2.1.toNat (mM t q/8%8).toNat:=by unfold opM;rw[hgB,if_pos rfl]
   have:=List.all_eq_true.1 ht (mM t q/8%8).toNat (List.mem_range.2 (by omega))
   change (decide (grp (zM t q).2.2.1.toNat _=0)||tabB (zM t q).2.1 (grp (zM t q).2.2.1.toNat _) (zM t q).2.2.2.1 (zM t q).2.2.2.2.1)=true at this
   rw[<-eo,decide_eq_false (fun g=>hop ⟨hgB,g⟩),Bool.false_or]at this
   exact this
  ·rw[if_neg hg]at ht
   have hgB:yt (zM t q)=false:=decide_eq_false hg
   have eo:opM t q=(zM t q).1:=by unfold opM;rw[hgB,iD]
   rw[eo];exact ht
theorem szM_val (by' w:Bool)(op x:Int):(cR op=true->szM by' op w x=8)/\(cR op=false->eK op=true->szM by' op w x=0)/\(cR op=false->eK op=false->(by'=true->szM by' op w x=1)/\(by'=false->szM by' op w x=2\/szM by' op w x=4\/szM by' op w x=8/\x≠0)):=by
 unfold szM
 refine⟨fun h=>by rw[if_pos h],fun h g=>by rw[if_neg (by rw[h];decide),if_pos g],fun h g=>⟨fun k=>?_,fun k=>?_⟩⟩
 ·rw[if_neg (by rw[h];decide),if_neg (by rw[g];decide),if_pos k]
 ·rw[if_neg (by rw[h];decide),if_neg (by rw[g];decide),if_neg (by rw[k];decide)]
  split
  ·right;right;exact⟨rfl,by rintro rfl;omega⟩
  ·split
   ·exact .inl rfl
   ·exact .inr (.inl rfl)
def kOK (n:Nat)(kd ks:Int):Bool:=(prK n).any (xc kd ks)
theorem k_f1:∀n,n<45->(1<=n/\n<=10\/n=28)->kOK n 1 1=true/\kOK n 2 1=true:=by decide +kernel
theorem k_f2:∀n,n<45->(1<=n/\n<=9\/n=17\/n=36\/n=26\/n=27)->kOK n 1 1=true/\kOK n 1 2=true:=by decide +kernel
theorem k_lea:kOK 25 1 2=true:=by decide +kernel
theorem k_ri:∀n,n<45->(1<=n/\n<=10\/20<=n/\n<=24)->kOK n 1 3=true/\kOK n 2 3=true:=by decide +kernel
theorem k_sh:∀n,n<45->20<=n->n<=24->kOK n 1 1=true/\kOK n 2 1=true:=by decide +kernel
theorem k_r0:∀n,n<45->(n=11\/n=12\/n=18\/n=19\/n=30\/n=35)->kOK n 1 0=true/\kOK n 2 0=true:=by decide +kernel
theorem k_0r:∀n,n<45->(13<=n/\n<=16\/n=29\/n=31\/n=32)->kOK n 0 1=true/\kOK n 0 2=true:=by decide +kernel
theorem k_0i:∀n,n<45->(n=29\/n=31\/n=32\/n=33\/n=44)->kOK n 0 3=true:=by decide +kernel
theorem k_00:∀n,n<45->(n=34\/37<=n/\n<=43)->kOK n 0 0=true:=by decide +kernel
end
theorem tJ {x:Ins}{n:Nat}(h:n<=8\/n=10):xL x n=yn x.src.imm x.size:=by unfold xL;rw[if_pos h]
theorem Ai {x:Ins}:xL x 9=(decide (x.size=8/\x.dst.kind=1)||yn x.src.imm x.size):=by unfold xL;rw[iD,if_pos rfl]
theorem yS {x:Ins}{n:Nat}(h:20<=n/\n<=24):xL x n=decide (¬(x.src.kind=1/\x.src.reg≠1)/\0<=x.src.imm/\x.src.imm<=255):=by
 unfold xL;rw[iN,iN,if_pos h]
theorem numB_26 {x:Ins}:xL x 26=decide (x.frm=1\/x.frm=2/\2<x.size):=rfl
theorem numB_27 {x:Ins}:xL x 27=decide (x.frm=1\/x.frm=2/\2<x.size\/x.frm=4/\x.size=8):=rfl
theorem pE {x:Ins}{n:Nat}(h:n=29\/n=31\/n=32\/n=33):xL x n=yn x.src.imm 4:=by rcases h with rfl|rfl|rfl|rfl<;>rfl
theorem numB_44 {x:Ins}:xL x 44=decide (0<=x.src.imm/\x.src.imm<=255):=rfl
theorem qa {x:Ins}{n:Nat}(h:11<=n/\n<=19\/n=25\/n=28\/n=30\/34<=n/\n<=43):xL x n=true:=by
 unfold xL;rw[iN,iN,iN,iN,iN,iN,iN]
structure SzV (z op:Int)(by':Bool)(x:Int):Prop where
 ve:29<=op/\op<=32->z=8
 vz:op=33\/op=34\/op=37\/op=38\/op=43\/op=44->z=0
 vb:¬(29<=op/\op<=34\/op=37\/op=38\/op=43\/op=44)->by'=true->z=1
 vn:¬(29<=op/\op<=34\/op=37\/op=38\/op=43\/op=44)->by'=false->z=2\/z=4\/z=8/\x≠0
theorem szV (by' w:Bool)(op x:Int):SzV (szM by' op w x) op by' x:=by
 obtain⟨h1,h2,h3⟩:=szM_val by' w op x
 have e8:cR op=true↔29<=op/\op<=32:=by unfold cR;rw[decide_eq_true_eq];omega
 have e0:eK op=true↔(op=33\/op=34\/op=37\/op=38\/op=43\/op=44):=by unfold eK;rw[decide_eq_true_eq]
 have n8:cR op=false↔¬(29<=op/\op<=32):=by rw[<-e8,Bool.not_eq_true]
 have n0:eK op=false↔¬(op=33\/op=34\/op=37\/op=38\/op=43\/op=44):=by rw[<-e0,Bool.not_eq_true]
 rw[e8]at h1
 rw[n8,e0]at h2
 rw[n8,n0]at h3
 refine⟨fun h=>h1 (by omega),fun h=>h2 (by omega) (by omega),fun h k=>?_,fun h k=>?_⟩
 ·exact(h3 (by omega) (by omega)).1 k
 ·exact(h3 (by omega) (by omega)).2 k
theorem sz_mem {f frm z x:Int}{by':Bool}{n:Nat}(h:tabB f n by' frm=true)(V:SzV z n by' x)(hn:1<=n)(hn2:n<45):z∈szL (szK n):=by
 have T:=(of_decide_eq_true h).1
 obtain⟨v1,v2,v3,v4⟩:=V
 unfold BS BU BV BW at T
 unfold szK szL
 cases by' with
 |true=>
  have v3:=fun g=>v3 g rfl
  clear v4
  simp only[Bool.true_eq_false,and_false,false_and,or_false,and_true,false_or]at T
  by_cases c0:n<=16\/n=18\/n=19\/(20<=n/\n<=24)\/n=28
  ·rw[if_pos c0,if_pos rfl];simp only[List.mem_cons,List.not_mem_nil,or_false];omega
  rw[if_neg c0]
  by_cases c1:n=17\/n=25\/n=26\/n=27\/n=36\/n=39\/n=40
  ·omega
  rw[if_neg c1]
  by_cases c2:29<=n/\n<=32
  ·rw[if_pos c2,iD,iD,if_pos rfl];simp only[List.mem_cons,List.not_mem_nil,or_false];omega
  rw[if_neg c2]
  by_cases c3:n=35\/n=41\/n=42
  ·rw[if_pos c3,iD,iD,iD,if_pos rfl];simp only[List.mem_cons,List.not_mem_nil,or_false];omega
  rw[if_neg c3,iD,iD,iD,iD];simp only[List.mem_cons,List.not_mem_nil,or_false];omega
 |false=>
  have v4:=fun g=>v4 g rfl
  clear v3
  simp only[Bool.false_eq_true,and_false,or_false,and_true,true_and]at T
  by_cases c0:n<=16\/n=18\/n=19\/(20<=n/\n<=24)\/n=28
  ·rw[if_pos c0,if_pos rfl];simp only[List.mem_cons,List.not_mem_nil,or_false];omega
  rw[if_neg c0]
  by_cases c1:n=17\/n=25\/n=26\/n=27\/n=36\/n=39\/n=40
  ·rw[if_pos c1,iD,if_pos rfl];simp only[List.mem_cons,List.not_mem_nil,or_false];omega
  rw[if_neg c1]
  by_cases c2:29<=n/\n<=32
  ·rw[if_pos c2,iD,iD,if_pos rfl];simp only[List.mem_cons,List.not_mem_nil,or_false];omega
  rw[if_neg c2]
  by_cases c3:n=35\/n=41\/n=42
  ·omega
  rw[if_neg c3,iD,iD,iD,iD];simp only[List.mem_cons,List.not_mem_nil,or_false];omega
theorem insP_of {op z cd frm len x:Int}{D S:Opd}{n:Nat}(hlen:0<=len/\len<=15)(hcd:0<=cd/\cd<=15)(hcz:(n=33\/n=35\/n=36)\/cd=0)(hfrm:(n=26\/n=27)\/frm=0)(hsz:z∈szL (szK n))
  (hk:kOK n D.kind S.kind=true) (hnum:xL ⟨op,z,cd,frm,D,S,len⟩ n=true) (hD:oOK x z D) (hS:oOK x (sSz ⟨op,z,cd,frm,D,S,len⟩ n) S) (hx:x=0->z≠8\/29<=n/\n<=32):HU ⟨op,z,cd,frm,D,S,len⟩ n:=by
 refine⟨hlen.1,hlen.2,?_,hfrm,hcz,hcd.1,hcd.2,hD.1,hS.1,?_⟩
 ·unfold shB
  rw[hnum,decide_eq_true hsz]
  show(true&&(kOK n D.kind S.kind&&true))=true
  rw[hk];rfl
 ·by_cases h0:x=0
  ·exact .inr ⟨hD.2.1 h0,hS.2.1 h0,hx h0⟩
  ·exact .inl fun g=>g.elim (hD.2.2 h0) (hS.2.2 h0)
section
variable {t:List UInt8}
theorem Cw {w by':Bool}{frm op z m:Int}(h:qv w by' frm op z m=0):(frm=4->z=8)/\((frm=1\/frm=2)->frm<z)/\¬(op=25/\m/64=3):=by
 unfold qv at h
 split at h
 ·omega
 ·rename_i g
  split at h
  ·omega
  ·rename_i g2
   refine⟨fun h4=>?_,fun h4=>?_,g2⟩
   ·by_cases h8:z=8
    ·exact h8
    ·exact absurd (.inr (.inl ⟨h4,h8⟩)) g
   ·by_cases h8:z<=frm
    ·exact absurd (.inr (.inr ⟨h4,h8⟩)) g
    ·omega
theorem Er {x:Ins}{n:Nat}(h:¬(20<=n/\n<=24))(hf:x.frm=0):sSz x n=x.size:=by unfold sSz;rw[if_neg h,hf,iD]
theorem sSz_f {x:Ins}{n:Nat}(h:¬(20<=n/\n<=24))(hf:0<x.frm):sSz x n=x.frm:=by unfold sSz;rw[if_neg h,if_pos hf]
theorem sSz_8 {x:Ins}{n:Nat}(h:20<=n/\n<=24):sSz x n=8:=by unfold sSz;rw[if_pos h]
theorem Ho {z x op:Int}{by':Bool}(V:SzV z op by' x)(h:¬(op=33\/op=34\/op=37\/op=38\/op=43\/op=44)):fq z:=by
 obtain⟨v1,_,v3,v4⟩:=V
 unfold fq
 by_cases h8:29<=op/\op<=32
 ·have:=v1 h8;omega
 ·cases hb:by' with
  |true=>have:=v3 (by omega) hb;omega
  |false=>have:=v4 (by omega) hb;omega
theorem GN {f frm z x b m cd len:Int}{w by':Bool}{n:Nat}{p:Pos}(hp:p.In t)(hn:1<=n)(hn2:n<45)(hT:tabB f n by' frm=true)(V:SzV z n by' x)(hm0:0<=m)(hm:m<256)
  (hbad:qv w by' frm n z m=0) (hlen:0<=len/\len<=15) (hcd:0<=cd/\cd<=15) (hcz:(n=33\/n=35\/n=36)\/cd=0):
  HU ⟨n,z,cd,frm,(oN t f frm n z x b m p).1,(oN t f frm n z x b m p).2.1,len⟩ n:=by
 have hsz:=sz_mem hT V hn hn2
 obtain⟨T,hfr⟩:=of_decide_eq_true hT
 obtain⟨b4,b12,blea⟩:=Cw hbad
 obtain⟨e0,e8,ez⟩:=lh (x:=x) (k:=0) (by decide)
 obtain⟨g0,g8,gz⟩:=lh (x:=x) (k:=2) (by decide)
 have hrg:∀z,oOK x z (qp (k7 x (m/8%8+jL x 2) z)):=fun z=>yV (by omega) (by omega) (by omega)
 have hpl:∀z,oOK x z (plM t x m z p).1:=fun z=>plM_ok hp
 have hpk:=fun z=>As t x m z p
 have hx8:x=0->z≠8\/29<=n/\n<=32:=fun h0=>by
  obtain⟨v1,v2,v3,v4⟩:=V
  by_cases h8:29<=n/\n<=32
  ·exact .inr h8
  ·left
   by_cases hz:(n:Int)=33\/(n:Int)=34\/(n:Int)=37\/(n:Int)=38\/(n:Int)=43\/(n:Int)=44
   ·have:=v2 hz;omega
   ·cases hby:by' with
    |true=>have:=v3 (by omega) hby;omega
    |false=>have:=v4 (by omega) hby;omega
 have hP:¬(n=33\/n=34\/n=37\/n=38\/n=43\/n=44)->fq z:=fun h=>Ho V (by omega)
 have f26:f≠17->(n=26\/n=27)\/frm=0:=fun h=> .inr (hfr h)
 have key:∀(D S:Opd) (q:Pos),oN t f frm n z x b m p=(D,S,q)->kOK n D.kind S.kind=true->xL ⟨n,z,cd,frm,D,S,len⟩ n=true->oOK x z D->oOK x (sSz ⟨n,z,cd,frm,D,S,len⟩ n) S->((n=26\/n=27)\/frm=0)->
   HU ⟨n,z,cd,frm,(oN t f frm n z x b m p).1,(oN t f frm n z x b m p).2.1,len⟩ n:=fun D S q e k1 k2 k3 k4 k5=>by
  rw[e]
  exact insP_of hlen hcd hcz k5 hsz k1 k2 k3 k4 hx8
 rcases T with T|T|T|T
 ·unfold BS at T
  rcases T with ⟨rfl,T⟩|⟨rfl,T⟩|⟨rfl,T⟩|⟨rfl,T⟩|⟨rfl,T⟩
  ·have hk:=k_f1 n hn2 (by omega)
   refine key _ _ _ rfl ?_ ?_ (hpl z) (by rw[Er (by omega) (hfr (by decide))];exact hrg z) (f26 (by decide))
   ·rcases(hpk z).1 with e|e<;>rw[e]
    ·exact hk.1
    ·exact hk.2
   ·by_cases h9:n=9
    ·subst h9;rw[Ai];simp[qp,tc (hP (by decide))]
    ·by_cases h28:n=28
     ·exact qa (by omega)
     ·rw[tJ (by omega)];exact tc (hP (by omega))
  ·by_cases hl:n=25
   ·subst hl
    have hk2:=(hpk z).2.2 (fun g=>blea ⟨rfl,g⟩)
    refine key _ _ _ rfl ?_ (qa (by omega)) (hrg z) (by rw[Er (by omega) (hfr (by decide))];exact hpl z) (f26 (by decide))
    rw[hk2];exact k_lea
   ·have hk:=k_f2 n hn2 (by omega)
    refine key _ _ _ rfl ?_ ?_ (hrg z) (by rw[Er (by omega) (hfr (by decide))];exact hpl z) (f26 (by decide))
    ·rcases(hpk z).1 with e|e<;>rw[e]
     ·exact hk.1
     ·exact hk.2
    ·by_cases h9:n=9
     ·subst h9;rw[Ai,(hpk z).2.1,tc (hP (by decide)),Bool.or_true]
     ·by_cases h8:n<=8
      ·rw[tJ (.inl h8),(hpk z).2.1];exact tc (hP (by omega))
      ·by_cases h17:n=17
       ·exact qa (by omega)
       ·have:n=36:=by omega
        exact qa (by omega)
  ·have hk:=k_ri n hn2 (by omega)
   refine key _ _ _ rfl hk.1 ?_ (yT (by omega) (by omega) (by omega) (.inr (by decide))) j4 (f26 (by decide))
   rw[tJ (by omega)];exact nZ (hP (by omega)) _
  ·have hk:=k_ri n hn2 (by omega)
   refine key _ _ _ rfl ?_ ?_ (hpl z) j4 (f26 (by decide))
   ·rcases(hpk z).1 with e|e<;>rw[e]
    ·exact hk.1
    ·exact hk.2
   ·rw[tJ (by omega)];exact uz (hP (by omega)) _
  ·have hk:=k_ri n hn2 (by omega)
   refine key _ _ _ rfl ?_ ?_ (hpl z) j4 (f26 (by decide))
   ·rcases(hpk z).1 with e|e<;>rw[e]
    ·exact hk.1
    ·exact hk.2
   ·by_cases h9:n=9
    ·subst h9
     rw[Ai]
     show(_||yn (rdS t (gI 4 z) _) z)=true
     rw[nZ (hP (by decide)),Bool.or_true]
    ·rw[tJ (by omega)];exact nZ (hP (by omega)) _
 ·unfold BU at T
  rcases T with ⟨rfl,hby,T⟩|⟨rfl,T⟩|⟨rfl,T⟩|⟨rfl,T⟩
  ·have hk:=k_f2 n hn2 (by omega)
   refine key _ _ _ rfl ?_ ?_ (hrg z) (by rw[sSz_f (by omega) (show 0<frm by omega)];exact hpl frm) (.inl (by omega))
   ·rcases(hpk frm).1 with e|e<;>rw[e]
    ·exact hk.1
    ·exact hk.2
   ·by_cases h26:n=26
    ·subst h26;rw[numB_26];exact decide_eq_true (by dsimp only;omega)
    ·obtain rfl:n=27:=by omega
     rw[numB_27];exact decide_eq_true (by dsimp only;omega)
  ·by_cases hs:BP n=true
   ·have hs2:=of_decide_eq_true hs
    have hk:=k_0r n hn2 (by omega)
    refine key _ _ (plM t x m z p).2 (show nD t n z (plM t x m z p)=_ by unfold nD;rw[if_pos hs]) ?_ ?_ mJ (by rw[Er (by omega) (hfr (by decide))];exact hpl z) (f26 (by decide))
    ·rcases(hpk z).1 with e|e<;>rw[e]
     ·exact hk.1
     ·exact hk.2
    ·by_cases h16:n<=16
     ·exact qa (by omega)
     ·rw[pE (by omega),(hpk z).2.1];exact tc (.inr (.inr (.inl rfl)))
   ·have hs2:=of_decide_eq_false (by rw[Bool.not_eq_true]at hs;exact hs)
    by_cases h10:n=10
    ·subst h10
     have hk:=k_ri 10 hn2 (by omega)
     refine key _ _ _ (show nD t 10 z (plM t x m z p)=(_,wq (rdS t (gI 4 z) (plM t x m z p).2),adv t (gI 4 z) (plM t x m z p).2)from rfl) ?_ ?_ (hpl z) j4 (f26 (by decide))
     ·rcases(hpk z).1 with e|e<;>rw[e]
      ·exact hk.1
      ·exact hk.2
     ·rw[tJ (by omega)];exact nZ (hP (by omega)) _
    ·have hk:=k_r0 n hn2 (by omega)
     refine key _ _ (plM t x m z p).2 (show nD t n z (plM t x m z p)=_ by unfold nD;rw[if_neg hs,iN]) ?_ (qa (by omega)) (hpl z) mJ (f26 (by decide))
     rcases(hpk z).1 with e|e<;>rw[e]
     ·exact hk.1
     ·exact hk.2
  ·have z8:z=8:=V.ve (by omega)
   have hr:oOK x z (qp (b%8+jL x 0)):=yT (by omega) (by omega) (by omega) (.inl (by omega))
   by_cases h29:n=29
   ·subst h29
    refine key _ _ p rfl (k_0r 29 (by decide) (by decide)).1 (by rw[pE (by omega)];exact tc (.inr (.inr (.inl rfl)))) mJ (by rw[Er (by omega) (hfr (by decide))];exact hr) (f26 (by decide))
   ·obtain rfl:n=30:=by omega
    exact key _ _ p rfl (k_r0 30 (by decide) (by decide)).1 (qa (by omega)) hr mJ (f26 (by decide))
  ·obtain rfl:n=9:=by omega
   refine key _ _ _ rfl (k_ri 9 (by decide) (by decide)).1 ?_ (yV (by omega) (by omega) (by omega)) j4 (f26 (by decide))
   rw[Ai]
   by_cases z8:z=8
   ·rw[Bool.or_eq_true];exact .inl (decide_eq_true ⟨z8,rfl⟩)
   ·show(_||yn (rdS t z p) z)=true
    have e:gI 4 z=z:=by have:=hP (by decide);unfold fq at this;rcases this with rfl|rfl|rfl|rfl<;>first|rfl|exact absurd rfl z8
    have:=nZ (t:=t) (hP (by decide)) p
    rw[e]at this
    rw[this,Bool.or_true]
 ·unfold BV at T
  rcases T with ⟨rfl,T⟩|⟨rfl,T⟩|⟨rfl,T⟩|⟨rfl,T⟩|⟨T',T⟩
  ·refine key _ _ _ rfl (k_0i n hn2 (by omega)) ?_ mJ j4 (f26 (by decide))
   rw[pE (by omega)];exact uz (.inr (.inr (.inl rfl))) _
  ·by_cases h44:n=44
   ·subst h44
    have hr:=dK t p hp
    refine key _ _ _ rfl (k_0i 44 hn2 (by omega)) ?_ mJ j4 (f26 (by decide))
    rw[numB_44];exact decide_eq_true (by show 0<=rdU t 1 p/\rdU t 1 p<=255;omega)
   ·obtain rfl:n=29:=by omega
    refine key _ _ _ rfl (k_0i 29 hn2 (by omega)) ?_ mJ j4 (f26 (by decide))
    rw[pE (by omega)];exact uz (.inr (.inr (.inl rfl))) _
  ·refine key _ _ _ rfl (k_0i n hn2 (by omega)) ?_ mJ j4 (f26 (by decide))
   rw[pE (by omega)];exact nZ (z:=4) (.inr (.inr (.inl rfl))) _
  ·refine key _ _ _ rfl (k_0i n hn2 (by omega)) ?_ mJ j4 (f26 (by decide))
   rw[pE (by omega)];exact nZ (z:=4) (.inr (.inr (.inl rfl))) _
  ·have hk:=k_ri n hn2 (by omega)
   have hkr:=k_sh n hn2 (by omega) (by omega)
   rcases T' with rfl|rfl|rfl
   ·have hr:=dK t (plM t x m z p).2 (jR hp)
    refine key _ _ _ rfl ?_ ?_ (hpl z) j4 (f26 (by decide))
    ·rcases(hpk z).1 with e|e<;>rw[e]
     ·exact hk.1
     ·exact hk.2
    ·rw[yS (by omega)]
     refine decide_eq_true ⟨fun g=>?_,?_⟩
     ·exact absurd g.1 (by show ¬(3:Int)=1;decide)
     ·show 0<=rdU t 1 _/\rdU t 1 _<=255;omega
   ·refine key _ _ _ rfl ?_ ?_ (hpl z) j4 (f26 (by decide))
    ·rcases(hpk z).1 with e|e<;>rw[e]
     ·exact hk.1
     ·exact hk.2
    ·rw[yS (by omega)]
     exact decide_eq_true ⟨fun g=>absurd g.1 (by show ¬(3:Int)=1;decide),by show(0:Int)<=1/\(1:Int)<=255;decide⟩
   ·refine key _ _ _ rfl ?_ ?_ (hpl z) (by rw[sSz_8 (by omega)];exact yT (by decide) (by decide) (by omega) (.inl (by decide))) (f26 (by decide))
    ·rcases(hpk z).1 with e|e<;>rw[e]
     ·exact hkr.1
     ·exact hkr.2
    ·rw[yS (by omega)]
     exact decide_eq_true ⟨fun g=>absurd rfl g.2,by show(0:Int)<=0/\(0:Int)<=255;decide⟩
 ·unfold BW at T
  obtain⟨rfl,T⟩:=T
  exact key _ _ p rfl (k_00 n hn2 (by omega)) (qa (by omega)) mJ mJ (f26 (by decide))
theorem FS {at0 e:Int}(h0:0<=at0)(h1:at0<=t.length)(h:(oM t (.ok at0)).2.2= .ok e):
  ∃n:Nat,1<=n/\n<45/\(nW t at0).1.op=n/\HU (nW t at0).1 n/\(nW t at0).2=0/\(nW t at0).1.len=e-at0/\1<=e-at0/\e<=t.length:=by
 have hq:Pos.In (.ok at0) t:=fun a ha=>by cases ha;exact⟨h0,h1⟩
 obtain⟨hT,hbad⟩:=CH hq h
 have ho:=wX hq
 have hb:=lc hq
 have hm:=me hq
 have hl:=decLen h0 h1 h
 obtain⟨n,hn⟩:=Int.eq_ofNat_of_zero_le ho.1
 have hT1:=(of_decide_eq_true hT).1
 have hn1:1<=n:=by
  unfold BS BU BV BW at hT1
  omega
 rw[ya h]
 refine⟨n,hn1,by omega,hn,?_,rfl,rfl,by omega,hl.2.2⟩
 have hp9:(p9M t (.ok at0)).In t:=tM hq
 unfold oM
 rw[hn]at hT hbad|-
 refine GN hp9 hn1 (by omega) hT ?_ hm.1 hm.2 hbad (by omega) ?_ ?_
 ·unfold zsM;rw[hn];exact szV ..
 ·unfold cdM;split<;>omega
 ·unfold cdM;rw[hn];split<;>omega
def Ne0 (p:Pos):Prop:=∀c,p= .error c->c≠0
theorem jH {n:Int}{p:Pos}(h:Ne0 p):Ne0 (adv t n p):=fun c hc=>by
 cases p with
 |error k=>cases hc;exact h _ rfl
 |ok b=>
  unfold adv exb at hc
  dsimp only at hc
  split at hc
  ·cases hc
  ·cases hc;decide
theorem zS {p:Pos}{q:Int->Prop}[DecidablePred q]{k:Int}(h:Ne0 p)(hk:(∃a,q a)->k≠0):Ne0 (exb p fun a=>if q a then .error k else .ok a):=fun c hc=>by
 cases p with
 |error k=>cases hc;exact h _ rfl
 |ok b=>
  unfold exb at hc
  dsimp only at hc
  split at hc
  ·rename_i g;cases hc;exact hk ⟨b,g⟩
  ·cases hc
theorem yh {w:Int}{p:Pos}(h:Ne0 p):Ne0 (CO t w p):=by
 unfold CO;split
 ·exact h
 ·exact jH h
theorem mO {x m z:Int}{p:Pos}(h:Ne0 p):Ne0 (plM t x m z p).2:=by
 unfold plM Ch
 split
 ·exact h
 ·split
  ·exact yh (jH h)
  ·split
   ·exact yh (w:=4) h
   ·exact yh h
theorem opsM_ne {f frm op z x b m:Int}{p:Pos}(h:Ne0 p):Ne0 (oN t f frm op z x b m p).2.2:=by
 unfold oN
 by_cases f1:f=1
 ·rw[if_pos f1]
  exact mO h
 rw[if_neg f1]
 by_cases f2:f=2
 ·rw[if_pos f2]
  exact mO h
 rw[if_neg f2]
 by_cases f17:f=17
 ·rw[if_pos f17]
  exact mO h
 rw[if_neg f17]
 by_cases f3:f=3
 ·rw[if_pos f3]
  exact jH h
 rw[if_neg f3]
 by_cases f4:f=4
 ·rw[if_pos f4]
  exact jH (mO h)
 rw[if_neg f4]
 by_cases f5:f=5
 ·rw[if_pos f5]
  exact jH (mO h)
 rw[if_neg f5]
 by_cases f6:f=6
 ·rw[if_pos f6]
  unfold nD
  cases BP op
  ·rw[iD]
   by_cases ho:op=10
   ·rw[if_pos ho]
    exact jH (mO h)
   ·rw[if_neg ho]
    exact mO h
  ·rw[if_pos rfl]
   exact mO h
 rw[if_neg f6]
 by_cases f7:f=7
 ·rw[if_pos f7]
  by_cases ho:op=29
  ·rw[if_pos ho]
   exact h
  ·rw[if_neg ho]
   exact h
 rw[if_neg f7]
 by_cases f8:f=8
 ·rw[if_pos f8]
  exact jH h
 rw[if_neg f8]
 by_cases f9:f=9
 ·rw[if_pos f9]
  exact jH h
 rw[if_neg f9]
 by_cases f15:f=15
 ·rw[if_pos f15]
  exact jH h
 rw[if_neg f15]
 by_cases f10:f=10\/f=16
 ·rw[if_pos f10]
  exact jH h
 rw[if_neg f10]
 by_cases f11:f=11
 ·rw[if_pos f11]
  exact jH (mO h)
 rw[if_neg f11]
 by_cases f12:f=12
 ·rw[if_pos f12]
  exact mO h
 rw[if_neg f12]
 by_cases f13:f=13
 ·rw[if_pos f13]
  exact mO h
 rw[if_neg f13]
 exact h
theorem p9_ne {q:Pos}(h:Ne0 q):Ne0 (p9M t q):=by
 refine zS (q:=fun _=>qv (wdM t q) (zM t q).2.2.2.1 (zM t q).2.2.2.2.1 (opM t q) (zsM t q) (mM t q)≠0) (zS (q:=fun _=>yt (zM t q)=true/\opM t q=0) ?_ (fun _=>by decide)) (fun⟨_,g⟩=>g)
 have h1:Ne0 (p1M t q):=by unfold p1M;split;exact jH h;exact h
 have h2:Ne0 (p2M t q):=zS (q:=fun _=>pkB t (p1M t q)∈qG) h1 (fun _=>by decide)
 have h3:Ne0 (p3M t q):=by unfold p3M;split;exact jH h2;exact h2
 have h5:Ne0 (p5M t q):=by unfold p5M;split;exact jH (jH h3);exact jH h3
 have h6:Ne0 (p6M t q):=zS (q:=fun _=>(zM t q).2.1=0) h5 (fun _=>by decide)
 unfold p7M;split;exact jH h6;exact h6
theorem FR {at0:Int}(h0:0<=at0)(h1:at0<=t.length):((∃n:Nat,1<=n/\n<45/\(nW t at0).1.op=n/\HU (nW t at0).1 n)/\(nW t at0).2=0/\1<=(nW t at0).1.len/\at0+(nW t at0).1.len<=t.length)\/((nW t at0).1=uj/\(nW t at0).2≠0):=by
 cases h:(oM t (.ok at0)).2.2 with
 |ok e=>
  obtain⟨n,a1,a2,a3,a4,a5,a6,a7,a8⟩:=FS h0 h1 h
  exact .inl ⟨⟨n,a1,a2,a3,a4⟩,a5,by omega,by omega⟩
 |error c=>
  have hne:c≠0:=opsM_ne (p9_ne (t:=t) (q:= .ok at0) (fun c hc=>by cases hc)) c h
  have e:nW t at0=(uj,c):=by unfold nW;rw[h]
  rw[e]
  exact .inr ⟨rfl,hne⟩
end
section
variable {t:List UInt8}
theorem rdU_I64 (n:Int)(p:Pos):I64 (rdU t n p):=by
 unfold rdU
 cases p with
 |error _=>show I64 0;decide
 |ok a=>
  dsimp only
  split
  ·exact Gu t a n
  ·decide
theorem rdS_I64 (n:Int)(h:n<=8)(p:Pos):I64 (rdS t n p):=iF _ (by omega) _
theorem GM {f frm op z x b m:Int}{p:Pos}(hz:z<=8):I64 (oN t f frm op z x b m p).1.imm/\I64 (oN t f frm op z x b m p).2.1.imm:=by
 have i0:I64 0:=by decide
 have pl:∀z,I64 (plM t x m z p).1.imm:=fun z=>by rw[(As t x m z p).2.1];decide
 have h4:gI 4 z<=8:=by unfold gI;split<;>omega
 have rs:∀(n:Int),n<=8->∀q,I64 (rdS t n q):=fun n h q=>rdS_I64 n h q
 have ru:∀q,I64 (rdU t 1 q):=rdU_I64 1
 unfold oN
 by_cases f1:f=1
 ·rw[if_pos f1]
  exact⟨(pl z),i0⟩
 rw[if_neg f1]
 by_cases f2:f=2
 ·rw[if_pos f2]
  exact⟨i0,(pl z)⟩
 rw[if_neg f2]
 by_cases f17:f=17
 ·rw[if_pos f17]
  exact⟨i0,(pl frm)⟩
 rw[if_neg f17]
 by_cases f3:f=3
 ·rw[if_pos f3]
  exact⟨i0,rs _ (by omega) _⟩
 rw[if_neg f3]
 by_cases f4:f=4
 ·rw[if_pos f4]
  exact⟨(pl z),rs _ (by omega) _⟩
 rw[if_neg f4]
 by_cases f5:f=5
 ·rw[if_pos f5]
  exact⟨(pl z),rs _ (by omega) _⟩
 rw[if_neg f5]
 by_cases f6:f=6
 ·rw[if_pos f6]
  unfold nD
  cases BP op
  ·rw[iD]
   by_cases ho:op=10
   ·rw[if_pos ho]
    exact⟨(pl z),rs _ (by omega) _⟩
   ·rw[if_neg ho]
    exact⟨(pl z),i0⟩
  ·rw[if_pos rfl]
   exact⟨i0,(pl z)⟩
 rw[if_neg f6]
 by_cases f7:f=7
 ·rw[if_pos f7]
  by_cases ho:op=29
  ·rw[if_pos ho]
   exact⟨i0,i0⟩
  ·rw[if_neg ho]
   exact⟨i0,i0⟩
 rw[if_neg f7]
 by_cases f8:f=8
 ·rw[if_pos f8]
  exact⟨i0,rs _ (by omega) _⟩
 rw[if_neg f8]
 by_cases f9:f=9
 ·rw[if_pos f9]
  exact⟨i0,rs _ (by omega) _⟩
 rw[if_neg f9]
 by_cases f15:f=15
 ·rw[if_pos f15]
  refine⟨i0,?_⟩
  show I64 (if op=44 then rdU t 1 p else rdS t 1 p)
  split
  ·exact ru _
  ·exact rs _ (by omega) _
 rw[if_neg f15]
 by_cases f10:f=10\/f=16
 ·rw[if_pos f10]
  exact⟨i0,rs _ (by omega) _⟩
 rw[if_neg f10]
 by_cases f11:f=11
 ·rw[if_pos f11]
  exact⟨(pl z),ru _⟩
 rw[if_neg f11]
 by_cases f12:f=12
 ·rw[if_pos f12]
  exact⟨(pl z),by show I64 1;decide⟩
 rw[if_neg f12]
 by_cases f13:f=13
 ·rw[if_pos f13]
  exact⟨(pl z),i0⟩
 rw[if_neg f13]
 exact⟨i0,i0⟩
theorem dec_imm (at0:Int):I64 (nW t at0).1.dst.imm/\I64 (nW t at0).1.src.imm:=by
 have hz:zsM t (.ok at0)<=8:=by
  unfold zsM szM
  (repeat' split)<;>decide
 have h:=GM (t:=t) (f:=(zM t (.ok at0)).2.1) (frm:=(zM t (.ok at0)).2.2.2.2.1) (op:=opM t (.ok at0)) (x:=xM t (.ok at0)) (b:=bM t (.ok at0)) (m:=mM t (.ok at0)) (p:=p9M t (.ok at0)) hz
 unfold nW
 split
 ·exact h
 ·exact⟨(by decide:I64 0),(by decide:I64 0)⟩
end
noncomputable section
theorem iterP {σ α β:Type}{f:(σ->Option α)->σ->Option α}{g:(σ->Option β)->σ->Option β}(I:σ->Prop)(μ:σ->Nat)(R:Option α->Option β->Prop)
  (h:∀x r1 r2,I x->(∀y,I y->μ y<μ x->R (r1 y) (r2 y))->R (f r1 x) (g r2 x)):∀(n:Nat) (x:σ),I x->μ x<n->R (iter n f x) (iter n g x)
 |0,x,_,hm=>absurd hm (Nat.not_lt_zero _)
 |n+1,x,hI,hm=>h x (iter n f) (iter n g) hI fun y hy hlt=>iterP I μ R h n y hy (by omega)
theorem iterQ {σ τ α β:Type}{f:(σ->Option α)->σ->Option α}{g:(τ->Option β)->τ->Option β}(I:σ->τ->Prop)(μ:σ->Nat)(R:Option α->Option β->Prop)
  (h:∀x y r1 r2,I x y->(∀a b,I a b->μ a<μ x->R (r1 a) (r2 b))->R (f r1 x) (g r2 y)):∀(n:Nat) (x:σ) (y:τ),I x y->μ x<n->R (iter n f x) (iter n g y)
 |0,x,_,_,hm=>absurd hm (Nat.not_lt_zero _)
 |n+1,x,y,hI,hm=>h x y (iter n f) (iter n g) hI fun a b hy hlt=>iterQ I μ R h n a b hy (by omega)
theorem CZ {m:List Page}(hm:MemR m){a p:Int}(h:dg m a p 1 0=0):¬fnd m a<0:=by
 have:=lN hm 1 0 h 0 (Nat.le_refl 0) (by omega)
 rwa [show a+((0:Nat):Int)=a by omega]at this
theorem fnd_lo {m:List Page}(hm:MemR m){a:Int}(h:¬fnd m a<0):0<=a/\a<=65535:=by
 rcases nf hm a with h0|⟨i,hi,h0,b1,b2,r0,r1,_⟩
 ·rw[h0]at h;exact absurd (by decide) h
 ·exact⟨r0,r1⟩
theorem A8 {m:List Page}(hT:MemT m){a:Int}(ha:I64 a):
  ∃(t:List UInt8) (k:Int),t.length<=15/\gj (((m,()),a,()),())=some ((t,k,()),())/\gS (((m,()),a,()),())=some ((t,k,()),()):=by
 have hm:=hT.r
 have hl:=hT.len
 unfold gj gS
 dsimp only
 have f1:=kF m hm a 4 1 (by decide) (by decide) ha
 have f2:=kz m hm a 4 1 (by decide) ha (by decide) (by decide)
 have f1:bB (((m,()),a,1,4,()),())=_:=f1
 have f2:bu (((m,()),a,1,4,()),())=_:=f2
 rw[mm m (by omega) (by unfold F;omega),hT.ok,aa]
 dsimp only
 rw[bE,ak,f1,f2,aa,aa]
 dsimp only
 by_cases hf:dg m a 4 1 0=0
 rotate_left
 ·rw[aq hf,bU,aE,aE]
  exact⟨[],_,by simp,rfl,rfl⟩
 rw[hf,be rfl,bE,ak,ak]
 have hr:=fnd_lo hm (CZ hm hf)
 refine iterP (fun x=>∃n:Nat,1<=n/\n<=15/\(∀k,k<n->¬fnd m (a+(k:Nat))<0)/\x=((a,(n:Int),()),(m,()),())) (fun x=>15-x.1.2.1.toNat)
  (fun o1 o2=>∃(t:List UInt8) (k:Int),t.length<=15/\o1=some ((t,k,()),())/\o2=some ((t,k,()),())) ?_ F _ ⟨1,by decide,by decide,fun k hk=>by rw[show k=0 by omega,show a+((0:Nat):Int)=a by omega];exact CZ hm hf,rfl⟩ (by unfold F;simp)
 rintro _ r1 r2 ⟨n,n1,n2,hok,rfl⟩ hrec
 dsimp only
 have hI:I64 (a+n):=by unfold I64;omega
 have fin:∃(t:List UInt8) (k:Int),t.length<=15/\(bnd (dj (((m,()),a,(n:Int),()),())) (fun x7=>some ((x7.1,0,()),())))=some ((t,k,()),())/\(bnd (bH (((m,()),a,(n:Int),()),())) (fun x7=>some ((x7.1,(0:Int),()),())))=some ((t,k,()),()):=by
  rw[Df m hm a n (by omega) ha hok,uf m hm a n (by omega) ha hok]
  exact⟨_,0,by rw[oZ];simp;omega,rfl,rfl⟩
 by_cases hn:n<15
 ·have g1:=kF m hm (a+n) 4 1 (by decide) (by decide) hI
  have g2:=kz m hm (a+n) 4 1 (by decide) hI (by decide) (by decide)
  have g1:bB (((m,()),a+n,1,4,()),())=_:=g1
  have g2:bu (((m,()),a+n,1,4,()),())=_:=g2
  rw[fv (show(n:Int)<15 by omega),aE,aE,aH,g1,g2,aa,aa]
  dsimp only
  simp only[aa]
  by_cases hg:dg m (a+n) 4 1 0=0
  ·rw[be hg,aE,aE,aH]
   refine hrec _ ⟨n+1,by omega,by omega,fun k hk=>?_,rfl⟩ (by dsimp only;omega)
   by_cases hkn:k=n
   ·rw[hkn];exact CZ hm hg
   ·exact hok k (by omega)
  ·rw[aq hg,ak,ak]
   exact fin
 ·rw[fM (show ¬(n:Int)<15 by omega),ak,ak]
  simp only[aa,ak]
  exact fin
theorem exM_rip {g:List Int}{rip fl:Int}{m:List Page}{x:Ins}{n z:Nat}(hm:MemT m)(hg:iH g)(hx:ExV x n):I64 (exM g rip fl m x n z).2.1:=by
 have hs:(MS.mk g m 0 []).ok 0:=⟨hm,Nat.le_refl 0,hg⟩
 have hnx:I64 (aB .i64 rip x.len):=au _
 unfold exM
 dsimp only
 split
 ·exact hnx
 split
 ·exact hnx
 split
 rotate_left
 ·exact hnx
 have h8:(n=31\/n=32\/n=29)->OpV x.src 8:=fun h=>by
  have hsv:=hx.sv
  rwa [show sSz x n=x.size from by unfold sSz;rw[iN,hx.fr.2 (by omega),iD],hx.szs.2.2.1 (by omega)]at hsv
 unfold MS.flow
 by_cases h29:n=29
 ·rw[if_pos h29];exact hnx
 rw[if_neg h29]
 by_cases h30:n=30
 ·rw[if_pos h30];exact hnx
 rw[if_neg h30]
 by_cases h31:n=31
 ·rw[if_pos h31];exact(hs.go _ (h8 (by omega))).2
 rw[if_neg h31]
 by_cases h34:n=34
 ·rw[if_pos h34];exact hs.po.2.1
 rw[if_neg h34]
 by_cases h32:n=32
 ·rw[if_pos h32];exact(hs.go _ (h8 (by omega))).2
 rw[if_neg h32]
 by_cases h33:n=33
 ·rw[if_pos h33]
  have hk3:=hx.kd.2.2.2.2.2.2.2.1 h33
  split
  ·unfold MS.go;rw[if_pos hk3];exact au _
  ·exact hnx
 rw[if_neg h33]
 repeat' split
 all_goals exact hnx
theorem Al {o:Opd}{z:Int}(h:rS o z):I64 o.disp:=by
 unfold rS opB Ci at h
 unfold I64
 omega
structure StOK (g:List Int)(p f:Int)(m:List Page):Prop where
 mT:MemT m
 gT:iH g
 fT:I64 f
 bT:bS f=true
 pT:I64 p
theorem EH {g:List Int}{rip fl:Int}{m:List Page}(hS:StOK g rip fl m):
  ∃(g':List Int) (p' f':Int) (m':List Page) (l':List Acc) (k':Int),StOK g' p' f' m'/\(1<=l'.length/\l'.length<=1000)/\
   io (((g,rip,fl,()),(m,()),()),())=some (((g',p',f',()),(m',()),l',k',()),())/\
   kM (((g,rip,fl,()),(m,()),()),())=some (((g',p',f',()),(),k',()),m',l',()):=by
 obtain⟨t,k,ht,e1,e2⟩:=A8 hS.mT hS.pT
 have hlen:=hS.mT.len
 have hcopy:=nV m (by omega)
 unfold io kM
 dsimp only
 rw[e1,e2,aa,aa]
 dsimp only
 by_cases hk:k=0
 rotate_left
 ·rw[aq hk,bU,aE,aE,aa,ah]
  dsimp only
  rw[show eqI 15 0=false from rfl,ak,aa,ah]
  dsimp only
  rw[show aQ (eqI 15 0)=true from rfl,aE,hcopy,aa]
  exact⟨g,rip,fl,m,_,15,hS,by simp,rfl,rfl⟩
 subst hk
 rw[show eqI 0 0=true from rfl,bE,ak,ak,aa,ah]
 dsimp only
 have E1:=wD (t:=t) (at0:=0) (by omega) (by omega) (by omega)
 have E2:=CI (t:=t) (at0:=0) (by omega) (by omega) (by omega)
 have hdis:=FR (t:=t) (at0:=0) (by omega) (by omega)
 have him:=dec_imm (t:=t) 0
 rw[show eqI 0 0=true from rfl,aE,E1,E2,aa,aa,aa,ah]
 dsimp only[p5,p18]
 rw[Dr]
 generalize nW t 0=D at hdis him|-
 obtain⟨x,c⟩:=D
 dsimp only at hdis him|-
 rcases hdis with ⟨⟨n,n1,n2,hn,hP⟩,hc,_,_⟩|⟨_,hc⟩
 rotate_left
 ·rw[aq hc,bU,aE,aE,hcopy,aa]
  exact⟨g,rip,fl,m,_,c,hS,by simp,rfl,rfl⟩
 subst hc
 rw[show eqI 0 0=true from rfl,bE,ak,ak]
 have hPd:=hP
 obtain⟨_,_,_,_,_,_,_,hd,hsr,_⟩:=hPd
 have hV:=ExV_of hn n1 n2 hP ⟨Al hd,him.1,Al hsr,him.2⟩
 obtain⟨z,hz⟩:∃z:Nat,x.size=z:=⟨x.size.toNat,by
  have hs:=hP.2.2.1
  unfold shB at hs
  simp only[Bool.and_eq_true,decide_eq_true_eq]at hs
  have:=szN_all n n2 n1 _ hs.1
  omega⟩
 obtain⟨x1,ok,fb,fI⟩:=exec_m (rip:=rip) hS.mT hS.gT hS.fT hS.bT hV hz
 have x2:=exec_r (rip:=rip) hS.mT hS.gT hS.fT hS.bT hV hz
 have hp:=exM_rip (rip:=rip) (fl:=fl) (z:=z) hS.mT hS.gT hV
 rw[x1,x2,aa,aa]
 generalize exM g rip fl m x n z=e at ok fb fI hp
 have ok2:=ok.l
 unfold exR exS
 have hfit:∀a:Acc,fL [a] e.1.l=true:=fun a=>gA (by simp;omega)
 by_cases hc:e.1.code=0
 ·rw[if_neg (by simpa using hc),if_neg (by simpa using hc)]
  dsimp only
  simp only[hfit,aE]
  exact⟨e.1.g,e.2.1,e.2.2,e.1.m,_,0,⟨ok.m,ok.g,fI,fb,hp⟩,by simp[gR];omega,rfl,rfl⟩
 ·rw[if_pos hc,if_pos hc]
  dsimp only
  simp only[hfit,aE]
  exact⟨g,rip,fl,m,_,e.1.code,hS,by simp[gR];omega,rfl,rfl⟩
end
def qr (m:List Page)(off n perm:Int):Bool:=decide (0<=off/\off<=4096/\0<=n/\n<=4096-off)&&decide (dg m (16384+off) perm n.toNat 0=0)
theorem tw {m:List Page}(hm:MemR m)(off n perm:Int):ew (((m,()),off,n,perm,()),())=some (qr m off n perm,()):=by
 unfold ew qr
 dsimp only
 rw[ct,bD,aa]
 dsimp only
 by_cases h1:0<=off/\off<=4096
 ·rw[decide_eq_true h1,bE,ak,bn,bD,aa,aa]
  by_cases h2:0<=n/\n<=4096-off
  ·obtain⟨k,rfl⟩:=Int.eq_ofNat_of_zero_le h2.1
   rw[decide_eq_true h2,bE,ak,aH,nP m hm _ _ k (by omega) (by unfold I64;omega),aa,Int.toNat_natCast]
   rw[decide_eq_true (show 0<=off/\off<=4096/\0<=(k:Int)/\(k:Int)<=4096-off by omega)]
   rfl
  ·rw[decide_eq_false h2,bU,aE,decide_eq_false (show ¬(0<=off/\off<=4096/\0<=n/\n<=4096-off)by omega)]
   rfl
 ·rw[decide_eq_false h1,bU,aE,aa,aE,decide_eq_false (show ¬(0<=off/\off<=4096/\0<=n/\n<=4096-off)by omega)]
  rfl
theorem tl {m:List Page}(hm:MemR m)(off n perm:Int):b9 (((m,()),off,n,perm,()),())=some (qr m off n perm,()):=by
 unfold b9 qr
 dsimp only
 rw[bD,aa]
 dsimp only
 by_cases h1:0<=off/\off<=4096
 ·rw[decide_eq_true h1,bE,ak,bn,bD,aa,aa]
  by_cases h2:0<=n/\n<=4096-off
  ·obtain⟨j,rfl⟩:=Int.eq_ofNat_of_zero_le h2.1
   rw[decide_eq_true h2,bE,ak,decide_eq_true (show 0<=off/\off<=4096/\0<=(j:Int)/\(j:Int)<=4096-off by omega),Bool.true_and,Int.toNat_natCast]
   refine(eD (fun x=>∃k:Nat,k<=j/\x=((off,perm,(j:Int),(k:Int),()),(m,()),())) (fun x=>j-x.1.2.2.2.1.toNat) (fun x=>some (decide (dg m (16384+off) perm (j-x.1.2.2.2.1.toNat) x.1.2.2.2.1=0),())) ?_ F _ ⟨0,by omega,rfl⟩ (by unfold F;dsimp only;omega)).trans ?_
   ·rintro _ rec ⟨k,hk,rfl⟩ hrec
    dsimp only
    rw[Int.toNat_natCast]
    by_cases hlt:k<j
    ·rw[ae (fv),aH (a:=16384) (b:=off),aH (a:=16384+off) (b:=(k:Int)),iy m hm,aa,show j-k=(j-(k+1))+1 by omega,dg]
     dsimp only
     by_cases hf:fnd m (16384+off+(k:Int))<0
     ·rw[ae (fv hf),aa,aE,if_pos hf]
      rfl
     ·rw[ag (fM hf),if_neg hf,aV,ae (rc hm hf),aa]
      by_cases hp:cz .i64 (aR m (fnd m (16384+off+(k:Int))) (az .page)).perm perm=0
      ·rw[ae (be hp),if_pos hp]
       rfl
      ·rw[ag (aq hp),if_neg hp,aH,show(k:Int)+1=((k+1:Nat):Int)from rfl,hrec _ ⟨k+1,by omega,rfl⟩ (by dsimp only;omega)]
       dsimp only
       rw[Int.toNat_natCast]
    ·have:k=j:=by omega
     subst this
     rw[ag (fM),Nat.sub_self,dg]
     rfl
   ·dsimp only
    rfl
  ·rw[decide_eq_false h2,bU,aE,decide_eq_false (show ¬(0<=off/\off<=4096/\0<=n/\n<=4096-off)by omega)]
   rfl
 ·rw[decide_eq_false h1,bU,aE,aa,aE,decide_eq_false (show ¬(0<=off/\off<=4096/\0<=n/\n<=4096-off)by omega)]
  rfl
theorem AB {m:List Page}(hm:MemR m){off n perm:Int}(h:qr m off n perm=true):0<=off/\off<=4096/\0<=n/\n<=4096-off/\∀k,k<n.toNat->¬fnd m (16384+off+(k:Nat))<0:=by
 simp only[qr,Bool.and_eq_true,decide_eq_true_eq]at h
 obtain⟨⟨h1,h2,h3,h4⟩,h5⟩:=h
 exact⟨h1,h2,h3,h4,fun k hk=>lN hm _ 0 h5 k (Nat.zero_le _) (by omega)⟩
def Fp (p q:Page):Bool:=decide (p.base<q.base)
def qj (m:List Page)(p:Page):List Page:=match m with
 |[]=>[p]
 |q::r=>if Fp p q=true then p::q::r else q::qj r p
theorem pe (p:Page):∀(m:List Page) (k:Nat),∃j,j<=m.length/\du (Fp p) m k=(if j<m.length then((k+j:Nat):Int)else -1)/\qj m p=m.take j++p::m.drop j/\(∀i,i<j->(pgN m i).base<=p.base)/\(j<m.length->p.base<(pgN m j).base)
 |[],k=>⟨0,by simp,rfl,rfl,by simp,by simp⟩
 |q::r,k=>by
  simp only[du,qj]
  by_cases h:Fp p q=true
  ·rw[if_pos h,if_pos h]
   exact⟨0,by simp,by simp,rfl,by simp,fun _=>of_decide_eq_true h⟩
  ·rw[if_neg h,if_neg h]
   obtain⟨j,h1,h2,h3,h4,h5⟩:=pe p r (k+1)
   refine⟨j+1,by simpa using h1,?_,by rw[h3];rfl,fun i hi=>?_,fun hj=>h5 (by simpa using hj)⟩
   ·rw[h2]
    by_cases hj:j<r.length
    ·rw[if_pos hj,if_pos (by simpa using hj)];congr 1;omega
    ·rw[if_neg hj,if_neg (by simpa using hj)]
   ·cases i with
    |zero=>show q.base<=p.base;unfold Fp at h;simpa using h
    |succ i=>exact h4 i (by omega)
theorem wu (m:List Page)(hm:m.length<=1048576)(p:Page):aW ((m,()),(p.base,p.perm,p.data,()),())=some (du (Fp p) m 0,(p.base,p.perm,p.data,()),()):=by
 unfold aW eL
 dsimp only
 rw[aV]
 refine(eD (fun x=>∃k:Nat,k<=m.length/\x=((m,(m.length:Int),(k:Int),()),(p.base,p.perm,p.data,()),())) (fun x=>m.length-x.1.2.2.1.toNat) (fun x=>some (du (Fp p) (m.drop x.1.2.2.1.toNat) x.1.2.2.1.toNat,(p.base,p.perm,p.data,()),())) ?_ F _ ⟨0,by omega,rfl⟩ (by unfold F;dsimp only;omega)).trans rfl
 rintro _ rec ⟨k,hk,rfl⟩ hrec
 dsimp only
 rw[Int.toNat_natCast]
 by_cases h:k<m.length
 ·rw[ae (fv),aV,ae (cA),aa,fp h,List.drop_eq_getElem_cons h,du]
  dsimp only
  by_cases hg:p.base<m[k].base
  ·rw[ae (fv hg),if_pos (show Fp p m[k]=true from decide_eq_true hg)]
  ·rw[ag (fM hg),if_neg (by unfold Fp;simpa using hg),aH,show(k:Int)+1=((k+1:Nat):Int)from rfl,hrec _ ⟨k+1,by omega,rfl⟩ (by dsimp only;omega)]
   dsimp only
   rw[Int.toNat_natCast]
 ·rw[ag (fM),List.drop_eq_nil_of_le (by omega)]
  rfl
theorem zI (m:List Page)(hm:m.length<=1048576):bG ((m,()),())=some ((),m,()):=by
 have:=nV m hm
 unfold bj at this
 dsimp only at this
 cases h:bG ((m,()),())with
 |none=>rw[h]at this;cases this
 |some z=>
  rw[h,aa]at this
  have:=Option.some.inj this
  obtain⟨_,a,_⟩:=z
  exact congrArg some this
theorem Fb (m:List Page)(hm:m.length<=1000)(p:Page):dq (((m,()),p,()),())=some ((),qj m p,()):=by
 unfold dq
 dsimp only
 rw[wu m (by omega) p,aa]
 dsimp only
 obtain⟨j,h1,h2,h3,_⟩:=pe p m 0
 have hl:∀i:Nat,i<=m.length->wv m (i:Int)=true:=fun i hi=>by unfold wv lim;exact dT
 by_cases hj:j<m.length
 ·rw[if_pos hj,Nat.zero_add]at h2
  rw[h2,ag (fM),aa]
  dsimp only[aU]
  rw[zI m (by omega),aa]
  dsimp only
  rw[hl j h1,aE,h3]
  unfold uG
  rw[Int.toNat_natCast]
 ·rw[if_neg hj]at h2
  have:j=m.length:=by omega
  subst this
  rw[h2,ae (fv (by decide)),aa]
  dsimp only[aU]
  rw[zI m (by omega),aa]
  dsimp only
  rw[aV,hl _ (Nat.le_refl _),aE,h3]
  unfold uG
  rw[Int.toNat_natCast]
def sy:List UInt8:=j5 (sM 256 (az .u))
theorem xk:dZ (([0],256,()),())=some (sy,()):=by
 unfold dZ rU
 dsimp only
 rw[ae (by decide),ae (by decide),ae (by decide)]
 have:Go.Lib.repeatL [0] (256:Int).toNat=sy:=by decide +kernel
 rw[this]
theorem Fg:sy.length=256:=by simp[sy,j5,sM]
theorem DA (m:List Page)(hm:m.length<=1000)(b pm:Int):iX (((m,()),b,pm,()),())=some ((qj m (Page.mk b pm sy),()),()):=by
 unfold iX
 dsimp only
 have h256:inC 256 256=true:=by decide
 have hl256:uF 256=true:=by decide
 simp only[h256,hl256,aE]
 refine(Ret.iter (fun x=>∃(k:Nat) (dn:Bool) (out:List Page),k<=m.length/\out.length<=k+dn.toNat/\x=((b,(dn,((k:Int),()))),((m,()),((),(out,((b,(pm,(sy,()))),())))))/\
  qj m (Page.mk b pm sy)=out++(if dn=true then m.drop k else qj (m.drop k) (Page.mk b pm sy))) (fun x=>m.length-x.1.2.2.1.toNat) ?_ F _ ⟨0,false,[],by omega,by simp,rfl,rfl⟩ (by unfold F;dsimp only;omega)).eq
 rintro _ rec ⟨k,dn,out,hk,hl,rfl,hE⟩ hrec
 dsimp only
 rw[aV]
 have hd1:dn.toNat<=1:=by cases dn<;>decide
 by_cases h:k<m.length
 ·have hir:inR (k:Int) (m.length:Int)=true:=cA
  rw[ae (fv),hir,aE,fp h]
  rw[List.drop_eq_getElem_cons h]at hE
  cases dn with
  |true=>
   rw[bE,ak,aa,ak,aa]
   dsimp only[aU]
   rw[aV,hir,aE,fp h,ae (gA (by simp;omega)),aH]
   refine hrec _ ⟨k+1,true,out++[m[k]],by omega,by simp;omega,rfl,?_⟩ (by dsimp only;omega)
   rw[hE,if_pos rfl,if_pos rfl,List.append_assoc]
   rfl
  |false=>
   have hl:out.length<=k:=hl
   rw[bU,aE,aa]
   rw[iD,qj]at hE
   by_cases hg:b<m[k].base
   ·rw[ae (fv hg),ae (gA (by simp;omega)),aa]
    dsimp only[aU]
    rw[aV,hir,aE,fp h,ae (gA (by unfold gR;simp;omega)),aH]
    refine hrec _ ⟨k+1,true,gR (gR out [Page.mk b pm sy]) [m[k]],by omega,by unfold gR;simp;omega,rfl,?_⟩ (by dsimp only;omega)
    rw[hE,if_pos (show Fp (Page.mk b pm sy) m[k]=true from decide_eq_true hg),if_pos rfl]
    unfold gR
    simp
   ·rw[ag (fM hg),aa]
    dsimp only[aU]
    rw[aV,hir,aE,fp h,ae (gA (by simp;omega)),aH]
    refine hrec _ ⟨k+1,false,gR out [m[k]],by omega,by unfold gR;simp;omega,rfl,?_⟩ (by dsimp only;omega)
    rw[hE,if_neg (by unfold Fp;simpa using hg),iD]
    unfold gR
    simp
 ·have:k=m.length:=by omega
  subst this
  rw[ag (fM)]
  rw[List.drop_length]at hE
  cases dn with
  |true=>
   rw[bE,ak,aa]
   rw[if_pos rfl,List.append_nil]at hE
   exact Ret.some (by rw[hE])
  |false=>
   rw[bU,aE,ae (gA (by simp;omega)),aa]
   rw[iD]at hE
   exact Ret.some (by rw[hE];rfl)
theorem addPg_T {m:List Page}(hm:MemT m)(hl:m.length<32){p:Page}(h0:0<=p.base)(h1:p.base<=65280)(h2:p.base%256=0)(h3:0<=p.perm)(h4:p.perm<=7)(h5:p.data.length=256)(hf:fnd m p.base<0):MemT (qj m p):=by
 obtain⟨j,g1,_,g3,g4,g5⟩:=pe p m 0
 have hno:∀i,i<m.length->¬((pgN m i).base<=p.base/\p.base-(pgN m i).base<256):=fun i hi hc=>by
  rcases ky (j8 p.base) m 0 with ⟨_,hq⟩|⟨k,hk,hq,_⟩
  ·have:=hq _ (List.getElem_mem hi)
   rw[<-rV hi]at this
   simp only[j8,Bool.and_eq_false_iff,decide_eq_false_iff_not]at this
   omega
  ·unfold fnd at hf
   omega
 have hx:∀i,pgN (qj m p) i=if i<j then pgN m i else if i=j then p else pgN m (i-1):=fun i=>by
  rw[g3]
  unfold pgN
  rw[List.getD_eq_getElem?_getD,List.getElem?_append,List.length_take,Nat.min_eq_left g1]
  by_cases hi:i<j
  ·rw[if_pos hi,if_pos hi,List.getElem?_take,if_pos hi,List.getD_eq_getElem?_getD]
  ·rw[if_neg hi,if_neg hi]
   by_cases he:i=j
   ·rw[if_pos he,he,Nat.sub_self];rfl
   ·rw[if_neg he,show i-j=(i-1-j)+1 by omega,List.getElem?_cons_succ,List.getElem?_drop,show j+(i-1-j)=i-1 by omega,List.getD_eq_getElem?_getD]
 have hlen:(qj m p).length=m.length+1:=by rw[g3];simp;omega
 refine⟨by omega,fun i hi=>?_,fun i hi=>?_⟩
 ·rw[hlen]at hi
  rw[hx]
  by_cases a1:i<j
  ·rw[if_pos a1];exact hm.pg i (by omega)
  ·rw[if_neg a1]
   by_cases a2:i=j
   ·rw[if_pos a2];exact⟨h0,h1,h2,h3,h4,h5⟩
   ·rw[if_neg a2];exact hm.pg (i-1) (by omega)
 ·rw[hlen]at hi
  rw[hx,hx]
  by_cases a1:i+1<j
  ·rw[iP,if_pos a1];exact hm.ord i (by omega)
  ·by_cases a2:i+1=j
   ·rw[iP,if_neg a1,if_pos a2]
    have:=g4 i (by omega)
    have:=hno i (by omega)
    omega
   ·by_cases a3:i=j
    ·rw[iN,if_pos a3,iN,iN,a3]
     exact g5 (by omega)
    ·rw[iN,if_neg a3,iN,iN]
     have:=hm.ord (i-1) (by omega)
     rw[show i-1+1=i by omega]at this
     exact this
abbrev bx (c:List Int)(rip fl:Int)(m:List Page)(heap brk:Int)(inp:List UInt8)(pos:Int)(out:List UInt8)(clk seed st cd ft wh:Int):=
 (c,rip,fl,m,heap,brk,inp,pos,out,clk,seed,st,cd,ft,wh,())
abbrev bi (c:List Int)(rip fl heap brk:Int)(inp:List UInt8)(pos:Int)(out:List UInt8)(clk seed st cd ft wh:Int):=
 (c,rip,fl,heap,brk,inp,pos,out,clk,seed,st,cd,ft,wh,())
section
variable {c:List Int}{rip fl:Int}{m:List Page}{heap brk:Int}{inp:List UInt8}{pos:Int}{out:List UInt8}{clk seed st cd ft wh:Int}
theorem AS (hm:MemT m)(h1:512<=heap)(h2:heap<=brk)(h3:brk<=3584)(n:Int):
  ∃(m':List Page) (brk' v:Int),MemT m'/\heap<=brk'/\brk'<=3584/\(v= -12/\m'=m/\brk'=brk\/v=brk/\brk'=aB .i64 brk n)/\
   gt ((bx c rip fl m heap brk inp pos out clk seed st cd ft wh,n,()),())=some ((bx c rip fl m' heap brk' inp pos out clk seed st cd ft wh,v,()),())/\
   dz ((n,()),bi c rip fl heap brk inp pos out clk seed st cd ft wh,m,())=some (v,bi c rip fl heap brk' inp pos out clk seed st cd ft wh,m',()):=by
 unfold gt dz
 dsimp only[bx,bi,p5,d5,d6]
 obtain⟨T,hT⟩:∃T,T=aB .i64 brk n:=⟨_,rfl⟩
 rw[<-hT,ct,bD,aa,aa]
 dsimp only
 by_cases h:heap<=T/\T<=3584
 rotate_left
 ·rw[decide_eq_false h,bU,aE,aE]
  exact⟨m,brk,-12,hm,h2,h3,.inl ⟨rfl,rfl,rfl⟩,rfl,rfl⟩
 have h256:aQ (eqI 256 0)=true:=by decide
 have e1:bK .i64 (kE .i64 heap 256) 256=heap/256*256:=by rw[fS (by omega) (by omega) (by omega),cX]
 have e2:aT .i64 heap (fw heap 256)=heap/256*256:=by rw[dG,bn];omega
 simp only[decide_eq_true h,bE,ak,h256,aE,e1,e2]
 refine iterQ (fun x y=>∃(k:Int) (mk:List Page),MemT mk/\0<=k/\k<=4096/\k%256=0/\
   x=((T,k,()),bx c rip fl m heap brk inp pos out clk seed st cd ft wh,(([]:List Int),0,0,0,0,([]:List UInt8),0,([]:List UInt8),0,0,0,0,0,0,()),([]:List Page),(mk,()),())/\
   ((mk=m/\y=Sum.inl ((n,(k,())),(bi c rip fl heap brk inp pos out clk seed st cd ft wh,(m,((),())))))\/y=Sum.inr ((n,(k,())),(bi c rip fl heap brk inp pos out clk seed st cd ft wh,(m,((),(mk,())))))))
  (fun x=>(T-x.1.2.1).toNat)
  (fun o1 o2=>∃(m':List Page) (brk' v:Int),MemT m'/\heap<=brk'/\brk'<=3584/\(v= -12/\m'=m/\brk'=brk\/v=brk/\brk'=T)/\
   o1=some ((bx c rip fl m' heap brk' inp pos out clk seed st cd ft wh,(v,())),())/\o2=some (v,(bi c rip fl heap brk' inp pos out clk seed st cd ft wh,(m',())))) ?_ F _ _
  ⟨heap/256*256,m,hm,by omega,by omega,by omega,rfl,.inl ⟨rfl,rfl⟩⟩ (by unfold F;dsimp only;omega)
 rintro _ y r1 r2 ⟨k,mk,hk,k0,k1,k2,rfl,hy⟩ hrec
 have hfit:=hk.len
 dsimp only[bx]
 by_cases hlt:k<T
 rotate_left
 ·rw[ag (fM hlt)]
  refine⟨mk,T,brk,hk,h.1,h.2,.inr ⟨rfl,rfl⟩,rfl,?_⟩
  rcases hy with ⟨rfl,rfl⟩|rfl
  ·dsimp only[aU,bi]
   rw[<-hT,ag (fM hlt)]
  ·dsimp only[aU,bi]
   rw[<-hT,ag (fM hlt)]
 have ha:aB .i64 16384 k=16384+k:=aH
 have hk':aB .i64 k 256=k+256:=aH
 rw[ae (fv hlt),ha,lR mk hk.r _ (by unfold I64;omega),aa,hk']
 dsimp only
 by_cases hf:0<=fnd mk (16384+k)
 ·rw[ae (fu hf)]
  rcases hy with ⟨rfl,rfl⟩|rfl
  ·dsimp only[aU,bi]
   rw[<-hT,ae (fv hlt),ha,iy _ hk.r,aa]
   dsimp only
   rw[ae (fu hf),hk']
   exact hrec _ _ ⟨k+256,mk,hk,by omega,by omega,by omega,rfl,.inl ⟨rfl,rfl⟩⟩ (by dsimp only;omega)
  ·dsimp only[aU,bi]
   rw[<-hT,ae (fv hlt),ha,iy _ hk.r,aa]
   dsimp only
   rw[ae (fu hf),hk']
   exact hrec _ _ ⟨k+256,mk,hk,by omega,by omega,by omega,rfl,.inr rfl⟩ (by dsimp only;omega)
 ·rw[ag (j9 hf),aV]
  by_cases h32:(mk.length:Int)=32
  ·rw[ae (be h32)]
   refine⟨m,brk,-12,hm,h2,h3,.inl ⟨rfl,rfl,rfl⟩,rfl,?_⟩
   rcases hy with ⟨rfl,rfl⟩|rfl
   ·dsimp only[aU,bi]
    rw[<-hT,ae (fv hlt),ha,iy _ hk.r,aa]
    dsimp only
    rw[ag (j9 hf),aV,ae (be h32)]
   ·dsimp only[aU,bi]
    rw[<-hT,ae (fv hlt),ha,iy _ hk.r,aa]
    dsimp only
    rw[ag (j9 hf),aV,ae (be h32)]
  ·have hT':MemT (qj mk (Page.mk (16384+k) 3 sy)):=addPg_T hk (by omega) (by show 0<=16384+k;omega) (by show 16384+k<=65280;omega) (by show(16384+k)%256=0;omega) (by show(0:Int)<=3;decide) (by show(3:Int)<=7;decide) Fg (by show fnd mk (16384+k)<0;omega)
   rw[ag (aq h32),DA mk (by omega),aa]
   rcases hy with ⟨rfl,rfl⟩|rfl
   ·dsimp only[aU,bi]
    rw[<-hT,ae (fv hlt),ha,iy _ hk.r,aa]
    dsimp only
    rw[ag (j9 hf),aV,ag (aq h32),xk,aa,Fb _ (by omega),aa,hk']
    exact hrec _ _ ⟨k+256,_,hT',by omega,by omega,by omega,rfl,.inr rfl⟩ (by dsimp only;omega)
   ·dsimp only[aU,bi]
    rw[<-hT,ae (fv hlt),ha,iy _ hk.r,aa]
    dsimp only
    rw[ag (j9 hf),aV,ag (aq h32),xk,aa,Fb _ (by omega),aa,hk']
    exact hrec _ _ ⟨k+256,_,hT',by omega,by omega,by omega,rfl,.inr rfl⟩ (by dsimp only;omega)
end
def xJ (st cd ft wh:Int):Prop:=st=1/\cd=0/\ft=0/\wh=0\/st=2/\ -2147483648<=cd/\cd<=2147483647/\ft=0/\wh=0\/st=3/\cd=0/\1<=ft/\ft<=35
instance (st cd ft wh:Int):Decidable (xJ st cd ft wh):=by unfold xJ;infer_instance
def xI (f:Int)(ms:List Page)(heap brk:Int)(inp:List UInt8)(pos:Int)(out:List UInt8)(clk seed st cd ft wh:Int):Prop:=
 bS f=true/\pC ms=true/\512<=heap/\heap<=3584/\heap<=brk/\brk<=3584/\(inp.length:Int)<=1024/\0<=pos/\pos<=(inp.length:Int)/\(out.length:Int)<=512/\0<=clk/\clk<=1000000/\0<=seed/\seed<=2147483647/\xJ st cd ft wh
instance (f:Int) (ms:List Page) (heap brk:Int) (inp:List UInt8) (pos:Int) (out:List UInt8) (clk seed st cd ft wh:Int):Decidable (xI f ms heap brk inp pos out clk seed st cd ft wh):=by unfold xI;infer_instance
theorem sx4 {v:Int}(h:I64 v):eqI (sx (8*4-1:Int).toNat v) v=decide (-2147483648<=v/\v<=2147483647):=by
 have h1:=zV h
 unfold jo at h1
 rw[kW v 4 (by decide) (by decide),aa]at h1
 simpa using h1
theorem Gh {c:List Int}{p f:Int}{ms:List Page}{heap brk:Int}{inp:List UInt8}{pos:Int}{out:List UInt8}{clk seed st cd ft wh:Int}(h:I64 cd):
  fy (((c,p,f,ms,heap,brk,inp,pos,out,clk,seed,st,cd,ft,wh,()),()),())=some (decide (xJ st cd ft wh),()):=by
 unfold fy
 dsimp only[p11,p12,p13,p14]
 by_cases h1:st=1
 ·rw[ae (be h1)]
  simp only[qS,aa,eqI]
  congr 2
  rw[Bool.eq_iff_iff,decide_eq_true_eq]
  simp only[Bool.and_eq_true,decide_eq_true_eq]
  unfold xJ
  omega
 ·rw[ag (aq h1)]
  by_cases h2:st=2
  ·rw[ae (be h2),zV h]
   simp only[qS,aa,eqI]
   congr 2
   rw[Bool.eq_iff_iff,decide_eq_true_eq]
   simp only[Bool.and_eq_true,decide_eq_true_eq]
   unfold xJ
   omega
  ·rw[ag (aq h2)]
   by_cases h3:st=3
   ·rw[ae (be h3),bD]
    simp only[qS,aa,eqI]
    congr 2
    rw[Bool.eq_iff_iff,decide_eq_true_eq]
    simp only[Bool.and_eq_true,decide_eq_true_eq]
    unfold xJ
    omega
   ·rw[ag (aq h3)]
    congr 2
    symm
    refine decide_eq_false fun h=>?_
    unfold xJ at h
    omega
theorem Fy {c:List Int}{p f:Int}{ms:List Page}{heap brk:Int}{inp:List UInt8}{pos:Int}{out:List UInt8}{clk seed st cd ft wh:Int}(h:I64 cd)(hm:ms.length<=1048576):
  jv (((c,p,f,ms,heap,brk,inp,pos,out,clk,seed,st,cd,ft,wh,()),()),())=some (decide (xI f ms heap brk inp pos out clk seed st cd ft wh),()):=by
 unfold jv kf ki
 dsimp only[p5,p6,p7,p8,p9,p10]
 simp only[Fz,mm ms (by omega) (by unfold F;omega),bD,Gh h,qS,aa]
 congr 2
 rw[Bool.eq_iff_iff,decide_eq_true_eq]
 simp only[Bool.and_eq_true,decide_eq_true_eq,HZ,and_assoc]
 unfold xI
 exact Iff.rfl
theorem Eo {c:List Int}{p f:Int}{ms:List Page}{heap brk:Int}{inp:List UInt8}{pos:Int}{out:List UInt8}{clk seed st cd ft wh:Int}(h:I64 cd)(hf:I64 f)(hm:ms.length<=1048576):
  jF (((c,p,f,ms,heap,brk,inp,pos,out,clk,seed,st,cd,ft,wh,()),()),())=some (decide (xI f ms heap brk inp pos out clk seed st cd ft wh),()):=by
 unfold jF
 dsimp only[p5,p6,p7,p8,p9,p10,p11,p12,p13,p14]
 rw[ct]
 simp only[Ep hf,qt ms (by omega),bD,AR,qS,aa,gJ cd 4 (by decide) (by decide),sx4 h]
 by_cases hA:bS f=true/\pC ms=true/\512<=heap/\heap<=3584/\heap<=brk/\brk<=3584/\(inp.length:Int)<=1024/\0<=pos/\pos<=(inp.length:Int)/\(out.length:Int)<=512/\0<=clk/\clk<=1000000/\0<=seed/\seed<=2147483647/\1<=st/\st<=3
 ·obtain⟨a1,a2,a3,a4,a5,a6,a7,a8,a9,a10,a11,a12,a13,a14,a15,a16⟩:=hA
  have e:xI f ms heap brk inp pos out clk seed st cd ft wh↔xJ st cd ft wh:=by unfold xI;simp[*]
  have b1:ltI 1024 (bL inp)=false:=lt_no (by unfold bL;omega)
  have b2:ltI 512 (bL out)=false:=lt_no (by unfold bL;omega)
  rw[ag (by simp[aQ,bL, *];exact⟨b1,b2⟩)]
  have ee:decide (xI f ms heap brk inp pos out clk seed st cd ft wh)=decide (xJ st cd ft wh):=by rw[Bool.eq_iff_iff,decide_eq_true_eq,decide_eq_true_eq,e]
  rw[ee]
  clear ee e a1 a2 a3 a4 a5 a6 a7 a8 a9 a10 a11 a12 a13 a14 b1 b2
  by_cases h2:st=2
  ·subst h2
   by_cases hc: -2147483648<=cd/\cd<=2147483647
   ·rw[be rfl,bE,ag rfl,decide_eq_true hc,bE,ag rfl,aq (by decide),bU,ae rfl]
    congr 2
    rw[Bool.eq_iff_iff,decide_eq_true_eq]
    simp only[Bool.and_eq_true,nH]
    unfold xJ
    omega
   ·rw[be rfl,bE,ag rfl,decide_eq_false hc,bU,ae rfl]
    congr 2
    symm
    exact decide_eq_false (by unfold xJ;omega)
  ·rw[aq h2,bU,ae rfl]
   by_cases hc:cd=0
   ·rw[be hc,bE,ag rfl,dT,bE,ag rfl]
    by_cases h3:st=3
    ·rw[be h3,bE,ag rfl]
     congr 2
     rw[Bool.eq_iff_iff,decide_eq_true_eq,decide_eq_true_eq]
     unfold xJ
     omega
    ·rw[aq h3,bU,ae rfl]
     congr 2
     rw[Bool.eq_iff_iff,decide_eq_true_eq]
     simp only[Bool.and_eq_true,nH]
     unfold xJ
     omega
   ·rw[aq hc,bU,ae rfl]
    congr 2
    symm
    exact decide_eq_false (by unfold xJ;omega)
 ·rw[ae ?_]
  ·congr 2
   symm
   refine decide_eq_false fun hb=>hA ?_
   unfold xI xJ at hb
   obtain⟨a1,a2,a3,a4,a5,a6,a7,a8,a9,a10,a11,a12,a13,a14,a15⟩:=hb
   exact⟨a1,a2,a3,a4,a5,a6,a7,a8,a9,a10,a11,a12,a13,a14,by omega,by omega⟩
  ·revert hA
   unfold bL
   cases bS f<;>cases pC ms<;>simp[aQ,DQ]<;>omega
section
variable {c:List Int}{rip fl:Int}{m:List Page}{heap brk:Int}{inp:List UInt8}{pos:Int}{out:List UInt8}{clk seed st cd ft wh:Int}
theorem Ej (hm:MemT m)(h1:(inp.length:Int)<=1024)(h2:0<=pos)(h3:pos<=(inp.length:Int))(p q:Int):
  ∃(m':List Page) (pos' v:Int),MemT m'/\0<=pos'/\pos'<=(inp.length:Int)/\I64 v/\(v= -14/\m'=m/\pos'=pos/\qr m p q 2=false\/0<=v/\qr m p q 2=true)/\
   ip ((bx c rip fl m heap brk inp pos out clk seed st cd ft wh,p,q,()),())=some ((bx c rip fl m' heap brk inp pos' out clk seed st cd ft wh,v,()),())/\
   dA ((p,q,()),bi c rip fl heap brk inp pos out clk seed st cd ft wh,m,())=some (v,bi c rip fl heap brk inp pos' out clk seed st cd ft wh,m',()):=by
 unfold ip dA
 dsimp only[bx,bi,p5,p6,p7,d7,d8,cp6]
 rw[tw hm.r,aa,tl hm.r,aa]
 dsimp only
 cases hs:qr m p q 2 with
 |false=>
  rw[bU,aE,aE]
  exact⟨m,pos,-14,hm,h2,h3,by unfold I64;omega,.inl ⟨rfl,rfl,rfl,rfl⟩,rfl,rfl⟩
 |true=>
  obtain⟨s1,s2,s3,s4,s5⟩:=AB hm.r hs
  obtain⟨n,hn⟩:∃n:Nat,(n:Int)=gI q ((inp.length:Int)-pos):=by
   obtain⟨n,hn⟩:=Int.eq_ofNat_of_zero_le (show 0<=gI q ((inp.length:Int)-pos)by unfold gI;split<;>omega)
   exact⟨n,hn.symm⟩
  have hnq:(n:Int)<=q/\(n:Int)<=inp.length-pos:=by rw[hn];unfold gI;split<;>omega
  obtain⟨k,rfl⟩:=Int.eq_ofNat_of_zero_le h2
  have e0:aB .i64 16384 p=16384+p:=aH
  simp only[bE,ak,aV,bn (a:=(inp.length:Int)) (b:=(k:Int)),<-hn,aH (a:=(k:Int)) (b:=(n:Int)),e0]
  rw[ae (mC),ae (mC),ae (mC),ae (mC)]
  have hl:(jX (iL inp ((k:Int)+(n:Int))) (k:Int)).length=n:=by unfold jX iL;rw[List.length_drop,List.length_take];omega
  have hok:∀j,j<(jX (iL inp ((k:Int)+(n:Int))) (k:Int)).length->¬fnd m (16384+p+(j:Nat))<0:=fun j hj=>s5 j (by omega)
  obtain⟨x,hx1,hx2⟩:=H9 m hm (16384+p) _ (by unfold I64;omega) (by rw[hl];omega) hok
  obtain⟨y,hy1,hy2⟩:=HY m hm (16384+p) _ (by unfold I64;omega) (by rw[hl];omega) hok
  obtain rfl:=hx2.unique hy2
  rw[hx1,aa,hy1,aa]
  exact⟨x,(k:Int)+n,n,hx2.memT hm,by omega,by omega,by unfold I64;omega,.inr ⟨by omega,trivial⟩,rfl,rfl⟩
theorem B6 (hm:MemT m)(h1:(out.length:Int)<=512)(p q:Int):
  ∃(out':List UInt8) (v:Int),(out'.length:Int)<=512/\I64 v/\(v<0/\out'=out/\(qr m p q 1=false->v= -14)\/0<=v/\qr m p q 1=true)/\
   gx ((bx c rip fl m heap brk inp pos out clk seed st cd ft wh,p,q,()),())=some ((bx c rip fl m heap brk inp pos out' clk seed st cd ft wh,v,()),())/\
   cY ((p,q,()),bi c rip fl heap brk inp pos out clk seed st cd ft wh,m,())=some (v,bi c rip fl heap brk inp pos out' clk seed st cd ft wh,m,()):=by
 unfold gx cY
 dsimp only[bx,bi,p7,p8,d8,d9,cp7,cp8]
 rw[tw hm.r,aa,tl hm.r,aa]
 dsimp only
 cases hs:qr m p q 1 with
 |false=>
  rw[bU,aE,aE]
  exact⟨out,-14,h1,by unfold I64;omega,.inl ⟨by decide,rfl,fun _=>rfl⟩,rfl,rfl⟩
 |true=>
  obtain⟨s1,s2,s3,s4,s5⟩:=AB hm.r hs
  obtain⟨k,rfl⟩:=Int.eq_ofNat_of_zero_le s3
  have e0:aB .i64 16384 p=16384+p:=aH
  simp only[bE,ak,aV,e0,aH (a:=(out.length:Int)) (b:=(k:Int)),bn (a:=512) (b:=(out.length:Int))]
  by_cases hlt:512<(out.length:Int)+k
  ·rw[ae (fv),ae (fv hlt)]
   exact⟨out,-28,h1,by unfold I64;omega,.inl ⟨by decide,rfl,fun h=>by cases h⟩,rfl,rfl⟩
  ·rw[ag (fM),ag (fM hlt)]
   rw[Df m hm.r (16384+p) k (by omega) (by unfold I64;omega) (fun j hj=>s5 j (by omega)),aa,uf m hm.r (16384+p) k (by omega) (by unfold I64;omega) (fun j hj=>s5 j (by omega)),aa]
   dsimp only
   have hl:(j5 ((List.range k).map fun j=>oz m (16384+p+(j:Nat)))).length=k:=by rw[oZ];simp
   rw[ae (gA (by rw[hl];omega)),ae (gA (by rw[hl];omega))]
   exact⟨_,k,by unfold gR;rw[List.length_append,hl];omega,by unfold I64;omega,.inr ⟨by omega,trivial⟩,rfl,rfl⟩
structure BoxW (m:List Page)(heap brk:Int)(inp:List UInt8)(pos:Int)(out:List UInt8)(clk seed:Int):Prop where
 m:MemT m
 h1:512<=heap
 h2:heap<=3584
 b1:heap<=brk
 b2:brk<=3584
 i1:(inp.length:Int)<=1024
 p1:0<=pos
 p2:pos<=(inp.length:Int)
 o1:(out.length:Int)<=512
 c1:0<=clk
 c2:clk<=1000000
 s1:0<=seed
 s2:seed<=2147483647
theorem Ca {v:Int}(h:I64 v):an ((v,4,()),())=some (bV v 4,())/\af ((v,4,()),())=some (bV v 4,()):=⟨bw (k:=4) h rfl,bQ v 4 rfl⟩
theorem xT (hg:iH c)(hB:BoxW m heap brk inp pos out clk seed)(n:Int):
  ∃(m':List Page) (brk' pos':Int) (out':List UInt8) (clk' seed' v:Int),BoxW m' heap brk' inp pos' out' clk' seed'/\I64 v/\
   (0<=v\/m'=m/\brk'=brk/\pos'=pos/\out'=out/\clk'=clk/\seed'=seed)/\
   fJ ((bx c rip fl m heap brk inp pos out clk seed st cd ft wh,n,()),())=some ((bx c rip fl m' heap brk' inp pos' out' clk' seed' st cd ft wh,v,()),())/\
   eO ((n,()),bi c rip fl heap brk inp pos out clk seed st cd ft wh,m,())=some (v,bi c rip fl heap brk' inp pos' out' clk' seed' st cd ft wh,m',()):=by
 obtain⟨hm,a1,a2,a3,a4,a5,a6,a7,a8,a9,a10,a11,a12⟩:=hB
 unfold fJ eO
 dsimp only
 rw[(Ca (hg 7)).1,aa,(Ca (hg 6)).1,aa,jM,aa]
 dsimp only
 rw[show decide ((16:Int)<=7/\(7:Int)<=19)=false from rfl,ak,(Ca (hg 7)).2,aa,jM,aa]
 dsimp only
 rw[show decide ((16:Int)<=6/\(6:Int)<=19)=false from rfl,ak,(Ca (hg 6)).2,aa]
 by_cases n1:n=1
 ·obtain⟨m',pos',v,b1,b2,b3,b4,b5,e1,e2⟩:=Ej (c:=c) (rip:=rip) (fl:=fl) (heap:=heap) (brk:=brk) (out:=out) (clk:=clk) (seed:=seed) (st:=st) (cd:=cd) (ft:=ft) (wh:=wh) hm a5 a6 a7 (bV (rg c 7) 4) (bV (rg c 6) 4)
  rw[ae (be n1),ae (be n1)]
  refine⟨m',brk,pos',out,clk,seed,v,⟨b1,a1,a2,a3,a4,a5,b2,b3,a8,a9,a10,a11,a12⟩,b4,?_,?_,?_⟩
  ·rcases b5 with ⟨_,g1,g2,_⟩|⟨g,_⟩
   ·exact .inr ⟨g1,rfl,g2,rfl,rfl,rfl⟩
   ·exact .inl g
  ·exact(congrArg (fun z=>bnd z fun x4=>some x4) e1).trans rfl
  ·exact(congrArg (fun z=>bnd z _) e2).trans rfl
 rw[ag (aq n1),ag (aq n1)]
 by_cases n2:n=2
 ·obtain⟨out',v,b1,b2,b3,e1,e2⟩:=B6 (c:=c) (rip:=rip) (fl:=fl) (heap:=heap) (brk:=brk) (inp:=inp) (pos:=pos) (clk:=clk) (seed:=seed) (st:=st) (cd:=cd) (ft:=ft) (wh:=wh) hm a8 (bV (rg c 7) 4) (bV (rg c 6) 4)
  rw[ae (be n2),ae (be n2)]
  refine⟨m,brk,pos,out',clk,seed,v,⟨hm,a1,a2,a3,a4,a5,a6,a7,b1,a9,a10,a11,a12⟩,b2,?_,?_,?_⟩
  ·rcases b3 with ⟨_,g1,_⟩|⟨g,_⟩
   ·exact .inr ⟨rfl,rfl,rfl,g1,rfl,rfl⟩
   ·exact .inl g
  ·exact(congrArg (fun z=>bnd z fun x4=>some x4) e1).trans rfl
  ·exact(congrArg (fun z=>bnd z _) e2).trans rfl
 rw[ag (aq n2),ag (aq n2)]
 by_cases n3:n=3
 ·rw[ae (be n3),ae (be n3),gJ _ 4 (by decide) (by decide),aa,kW _ 4 (by decide) (by decide),aa]
  obtain⟨m',brk',v,b1,b2,b3,b4,e1,e2⟩:=AS (c:=c) (rip:=rip) (fl:=fl) (inp:=inp) (pos:=pos) (out:=out) (clk:=clk) (seed:=seed) (st:=st) (cd:=cd) (ft:=ft) (wh:=wh) hm a1 a3 a4 (sx (8*4-1:Int).toNat (bV (rg c 7) 4))
  refine⟨m',brk',pos,out,clk,seed,v,⟨b1,a1,a2,b2,b3,a5,a6,a7,a8,a9,a10,a11,a12⟩,?_,?_,?_,?_⟩
  ·unfold I64;rcases b4 with ⟨g,_,_⟩|⟨g,_⟩<;>omega
  ·rcases b4 with ⟨_,g1,g2⟩|⟨g,_⟩
   ·exact .inr ⟨g1,g2,rfl,rfl,rfl,rfl⟩
   ·exact .inl (by omega)
  ·exact(congrArg (fun z=>bnd z fun x4=>some x4) e1).trans rfl
  ·exact(congrArg (fun z=>bnd z _) e2).trans rfl
 rw[ag (aq n3),ag (aq n3)]
 by_cases n4:n=4
 ·rw[ae (be n4),ae (be n4)]
  have e1:aB .i64 clk 1=clk+1:=aH
  dsimp only[bx,bi,p8,p9,d9,d10,cp8,cp9]
  rw[e1]
  exact⟨m,brk,pos,out,gI (clk+1) 1000000,seed,clk,⟨hm,a1,a2,a3,a4,a5,a6,a7,a8,by unfold gI;split<;>omega,by unfold gI;split<;>omega,a11,a12⟩,by unfold I64;omega,.inl a9,rfl,rfl⟩
 rw[ag (aq n4),ag (aq n4)]
 by_cases n5:n=5
 ·rw[ae (be n5),ae (be n5)]
  have e1:bK .i64 seed 1103515245=seed*1103515245:=cX
  have e2:bK .i64 1103515245 seed=seed*1103515245:=by rw[cX];omega
  have e3:aB .i64 (seed*1103515245) 12345=seed*1103515245+12345:=aH
  have e4:fw (seed*1103515245+12345) 2147483648=(seed*1103515245+12345)%2147483648:=dG
  have e5:cz .i64 (seed*1103515245+12345) 2147483647=(seed*1103515245+12345)%2147483648:=oG _ 31 (by decide)
  have e8:kE .i64 ((seed*1103515245+12345)%2147483648) 65536=(seed*1103515245+12345)%2147483648/65536:=fS (by omega) (by omega) (by omega)
  have e9:cu .i64 ((seed*1103515245+12345)%2147483648) 16=(seed*1103515245+12345)%2147483648/65536:=by
   unfold cu
   rw[show(2:Int)^min (Int.toNat 16) IntKind.i64.bits=65536 from rfl,Int.fdiv_eq_ediv_of_nonneg _ (by decide)]
  dsimp only[bx,bi,p9,p10,d10,d11,cp9,cp10]
  simp only[e1,e2,e3,e4,e5,e8,e9]
  exact⟨m,brk,pos,out,clk,(seed*1103515245+12345)%2147483648,(seed*1103515245+12345)%2147483648/65536,⟨hm,a1,a2,a3,a4,a5,a6,a7,a8,a9,a10,by omega,by omega⟩,by unfold I64;omega,.inl (by omega),rfl,rfl⟩
 rw[ag (aq n5),ag (aq n5)]
 exact⟨m,brk,pos,out,clk,seed,-38,⟨hm,a1,a2,a3,a4,a5,a6,a7,a8,a9,a10,a11,a12⟩,by unfold I64;omega,.inr ⟨rfl,rfl,rfl,rfl,rfl,rfl⟩,rfl,rfl⟩
end
theorem iand_lo (v:Int):cz .i64 (v%4294967296) 4064=cz .i64 v 4064:=by
 unfold cz
 congr 2
 rw[BitVec.toNat_and,BitVec.toNat_and]
 have e:∀z:Int,(BitVec.ofInt IntKind.i64.bits z).toNat=(z%18446744073709551616).toNat:=rN
 have e2:(BitVec.ofInt IntKind.i64.bits 4064).toNat=4064:=by decide
 rw[e (v%4294967296),e v,e2]
 obtain⟨A,hA⟩:∃A,A=(v%18446744073709551616).toNat:=⟨_,rfl⟩
 have hB:(v%4294967296%18446744073709551616).toNat=A%4294967296:=by omega
 rw[hB,<-hA]
 have h:=Nat.and_mod_two_pow (a:=A) (b:=4064) (n:=32)
 have hle:A&&& 4064<=4064:=Nat.and_le_right
 have h1:(A&&& 4064)%2^32=A&&& 4064:=Nat.mod_eq_of_lt (by omega)
 have h2:A%2^32=A%4294967296:=rfl
 have h3:(4064:Nat)%2^32=4064:=rfl
 rw[h1,h2,h3]at h
 exact h.symm
def bk (v:Int):Int:=aB .i64 16384 (cz .i64 v 4064)
theorem Bb (v:Int):iM ((v,4064,()),())=some (bk v,()):=by
 unfold iM
 dsimp only
 rw[bD,aa]
 dsimp only
 rw[ag (by decide)]
 rfl
theorem BG {v:Int}(hv:I64 v):iW ((v,4064,()),())=some (bk v,()):=by
 unfold iW
 dsimp only
 rw[ct,bD,aa]
 dsimp only
 rw[ag (by decide),(Ca hv).1,aa]
 dsimp only
 rw[show bV v 4=v%4294967296 from rfl,iand_lo]
 rfl
section
variable {c:List Int}{rip fl:Int}{m:List Page}{heap brk:Int}{inp:List UInt8}{pos:Int}{out:List UInt8}{clk seed st cd ft wh:Int}
theorem BH (hg:iH c)(hB:BoxW m heap brk inp pos out clk seed)(n:Int):
  ∃(c':List Int) (rip':Int) (m':List Page) (brk' pos':Int) (out':List UInt8) (clk' seed' st' cd' ft' wh':Int),iH c'/\BoxW m' heap brk' inp pos' out' clk' seed'/\
   (st'=st/\cd'=cd/\ft'=ft/\wh'=wh/\rip'=bk (k6 m (rg c 4) 8).1\/st'=2/\ -2147483648<=cd'/\cd'<=2147483647/\ft'=ft/\wh'=wh/\rip'=rip\/st'=3/\cd'=cd/\(ft'=13\/ft'=14)/\wh'=rg c 4/\rip'=rip)/\
   gw ((bx c rip fl m heap brk inp pos out clk seed st cd ft wh,n,()),())=some (bx c' rip' fl m' heap brk' inp pos' out' clk' seed' st' cd' ft' wh',())/\
   fA ((n,()),bi c rip fl heap brk inp pos out clk seed st cd ft wh,m,())=some ((),bi c' rip' fl heap brk' inp pos' out' clk' seed' st' cd' ft' wh',m',()):=by
 unfold gw fA
 dsimp only
 by_cases n0:n=0
 ·rw[ae (be n0),ae (be n0),gJ _ 4 (by decide) (by decide),aa,kW _ 4 (by decide) (by decide),aa]
  have hb:=Ij 31 (by decide) (aR c 7 (az .i))
  exact⟨c,rip,m,brk,pos,out,clk,seed,2,sx 31 (aR c 7 (az .i)),ft,wh,hg,hB,.inr (.inl ⟨rfl,by omega,by omega,rfl,rfl,rfl⟩),rfl,rfl⟩
 rw[ag (aq n0),ag (aq n0)]
 have l1:dH (((m,()),aR c 4 (az .i),8,()),())=some (((k6 m (rg c 4) 8).1,(k6 m (rg c 4) 8).2,()),()):=qf m hB.m.r (rg c 4) 8 (by decide) (by decide) (hg 4)
 have l2:co (((m,()),aR c 4 (az .i),8,()),())=some (((k6 m (rg c 4) 8).1,(k6 m (rg c 4) 8).2,()),()):=pU m hB.m.r (rg c 4) 8 (by decide) (by decide) (hg 4)
 rw[l1,aa,l2,aa]
 dsimp only
 by_cases hk:(k6 m (rg c 4) 8).2=0
 ·rw[be hk,bE,ak,ak]
  obtain⟨m',brk',pos',out',clk',seed',v,b1,b2,_,e1,e2⟩:=xT (rip:=rip) (fl:=fl) (st:=st) (cd:=cd) (ft:=ft) (wh:=wh) hg hB n
  have hset:=jN (g:=c) (rip:=rip) (fl:=fl) (r:=0) (v:=v) (n:=4) hg b2 rfl (.inl ⟨by decide,by decide⟩)
  have hset:bZ (((c,rip,fl,()),0,4,v,()),())=some ((qd c 0 4 v,rip,fl,()),()):=hset
  rw[e1,aa,e2,aa]
  dsimp only[bx,bi]
  rw[hset,aa,jM,aa]
  dsimp only
  rw[ec,aa,show decide ((16:Int)<=0/\(0:Int)<=19)=false from rfl,ak,(Ca b2).2,aa,Bb,aa,BG (wH m (rg c 4) 8),aa]
  refine⟨setA (qd c 0 4 v) 4 (aB .i64 (rg (qd c 0 4 v) 4) 8),bk (k6 m (rg c 4) 8).1,m',brk',pos',out',clk',seed',st,cd,ft,wh,(lF hg b2 rfl).setA (au _),b1,.inl ⟨rfl,rfl,rfl,rfl,rfl⟩,rfl,rfl⟩
 ·rw[aq hk,bU,aE,aE]
  have hv:(k6 m (rg c 4) 8).2=13\/(k6 m (rg c 4) 8).2=14:=by
   unfold k6 at hk|-
   split at hk
   ·exact absurd rfl hk
   ·rename_i h
    rw[if_neg h]
    rcases nY m (rg c 4) 1 8 0 with g|g|g
    ·exact absurd g h
    ·exact .inl g
    ·exact .inr g
  exact⟨c,rip,m,brk,pos,out,clk,seed,3,cd,(k6 m (rg c 4) 8).2,rg c 4,hg,hB,.inr (.inr ⟨rfl,rfl,hv,rfl,rfl⟩),rfl,rfl⟩
theorem boxW_of (h:xI fl m heap brk inp pos out clk seed st cd ft wh):BoxW m heap brk inp pos out clk seed:=by
 unfold xI at h
 obtain⟨_,a2,a3,a4,a5,a6,a7,a8,a9,a10,a11,a12,a13,a14,_⟩:=h
 exact⟨DT a2,a3,a4,a5,a6,a7,a8,a9,a10,a11,a12,a13,a14⟩
theorem FQ (hm:m.length<=1048576):gW ((bx c rip fl m heap brk inp pos out clk seed st cd ft wh,()),())=some (bi c rip fl heap brk inp pos out clk seed st cd ft wh,m,()):=by
 unfold gW
 dsimp only[bx]
 rw[nV m hm,aa]
end
theorem BY (a:Int):∃(n:Int) (b:Bool),dR ((a,()),())=some ((n,b,()),())/\dN ((a,()),())=some ((n,b,()),()):=by
 unfold dR dN
 dsimp only
 refine iterP (fun x=>∃k:Nat,k<=8/\x=((a,(k:Int),()),())) (fun x=>8-x.1.2.1.toNat) (fun o1 o2=>∃(n:Int) (b:Bool),o1=some ((n,b,()),())/\o2=some ((n,b,()),())) ?_ F _ ⟨0,by omega,rfl⟩ (by unfold F;dsimp only;omega)
 rintro _ r1 r2 ⟨k,hk,rfl⟩ hrec
 dsimp only
 by_cases h:k<8
 ·have e1:bK .i64 32 (k:Int)=32*k:=cX
  have e2:bK .i64 (k:Int) 32=32*k:=by rw[cX];omega
  have e3:aB .i64 16640 (32*(k:Int))=16640+32*k:=aH
  unfold gF
  dsimp only
  rw[fv (show(k:Int)<8 by omega),aE,aE,aa,e1,e2,e3,aH]
  dsimp only
  by_cases ha:a=16640+32*(k:Int)
  ·rw[ae (be ha),ae (be ha.symm)]
   exact⟨k,true,rfl,rfl⟩
  ·rw[ag (aq ha),ag (aq fun h=>ha h.symm)]
   exact hrec _ ⟨k+1,by omega,rfl⟩ (by dsimp only;omega)
 ·rw[fM (show ¬(k:Int)<8 by omega),ak,ak]
  exact⟨0,false,rfl,rfl⟩
section
variable {c:List Int}{rip fl:Int}{m:List Page}{heap brk:Int}{inp:List UInt8}{pos:Int}{out:List UInt8}{clk seed st cd ft wh:Int}
theorem vW (hS:StOK c rip fl m)(hB:BoxW m heap brk inp pos out clk seed):
  ∃(c':List Int) (rip' fl':Int) (m':List Page) (brk' pos':Int) (out':List UInt8) (clk' seed' st' cd' ft' wh':Int) (l':List Acc),StOK c' rip' fl' m'/\BoxW m' heap brk' inp pos' out' clk' seed'/\l'.length<=1000/\
   ir ((bx c rip fl m heap brk inp pos out clk seed st cd ft wh,()),())=some ((bx c' rip' fl' m' heap brk' inp pos' out' clk' seed' st' cd' ft' wh',l',()),())/\
   fV ((),bi c rip fl heap brk inp pos out clk seed st cd ft wh,m,())=some ((),bi c' rip' fl' heap brk' inp pos' out' clk' seed' st' cd' ft' wh',m',l',()):=by
 obtain⟨n,b,t1,t2⟩:=BY rip
 unfold ir fV
 dsimp only[bx,bi]
 rw[t1,aa,t2,aa]
 dsimp only
 cases b with
 |true=>
  obtain⟨c',rip',m',brk',pos',out',clk',seed',st',cd',ft',wh',b1,b2,b3,e1,e2⟩:=BH (rip:=rip) (fl:=fl) (st:=st) (cd:=cd) (ft:=ft) (wh:=wh) hS.gT hB n
  dsimp only[bx,bi]at e1 e2
  rw[aE,aE,e1,aa,e2,aa]
  refine⟨c',rip',fl,m',brk',pos',out',clk',seed',st',cd',ft',wh',[],⟨b2.m,b1,hS.fT,hS.bT,?_⟩,b2,by simp,rfl,rfl⟩
  rcases b3 with ⟨_,_,_,_,h⟩|⟨_,_,_,_,_,h⟩|⟨_,_,_,_,h⟩
  ·rw[h];exact au _
  ·rw[h];exact hS.pT
  ·rw[h];exact hS.pT
 |false=>
  obtain⟨g',p',f',m',l',k',ok,hl,e1,e2⟩:=EH hS
  rw[ak,ak,e1,aa,e2,aa]
  dsimp only
  by_cases hk:k'=0
  ·rw[be hk,bE,ak,aE]
   exact⟨g',p',f',m',brk,pos,out,clk,seed,st,cd,ft,wh,l',ok,⟨ok.mT,hB.h1,hB.h2,hB.b1,hB.b2,hB.i1,hB.p1,hB.p2,hB.o1,hB.c1,hB.c2,hB.s1,hB.s2⟩,hl.2,rfl,rfl⟩
  ·have hir:inR (aT .i64 (bL l') 1) (bL l')=true:=by rw[aV,bn];exact cA
   obtain⟨q,hq⟩:∃q:Bool,br (eqI k' 13) (some true) (some (eqI k' 14))=some q:=by cases eqI k' 13<;>exact⟨_,rfl⟩
   rw[aq hk,bU,aE,ak,hq,aa,aa,hir]
   cases q with
   |true=>
    rw[aE,aE,aE,aE,aa,aa]
    exact⟨c,rip,fl,m,brk,pos,out,clk,seed,3,cd,k',_,l',hS,hB,hl.2,rfl,rfl⟩
   |false=>
    rw[ak,ak,aa,aa]
    exact⟨c,rip,fl,m,brk,pos,out,clk,seed,3,cd,k',rip,l',hS,hB,hl.2,rfl,rfl⟩
theorem stOK_of (hg:iH c)(hf:I64 fl)(hp:I64 rip)(h:xI fl m heap brk inp pos out clk seed st cd ft wh):StOK c rip fl m:=by
 unfold xI at h
 exact⟨DT h.2.1,hg,hf,h.1,hp⟩
theorem Du (n:Int):iS ((n,()),())=some (decide (0<=n/\n<=400),()):=by
 unfold iS
 dsimp only
 rw[bD,aa]
theorem Bl (hf:I64 fl)(hc:I64 cd)(hm:m.length<=1048576)(n:Int):iq ((bx c rip fl m heap brk inp pos out clk seed st cd ft wh,n,()),())=some ((if xI fl m heap brk inp pos out clk seed st cd ft wh then(if 0<=n/\n<=400 then 0 else 4)else 1),()):=by
 unfold iq
 dsimp only[bx]
 rw[Eo hc hf hm,aa]
 dsimp only
 by_cases h:xI fl m heap brk inp pos out clk seed st cd ft wh
 ·rw[decide_eq_true h,bE,ak,if_pos h,ct,bD,aa]
  dsimp only
  by_cases h2:0<=n/\n<=400
  ·rw[decide_eq_true h2,bE,ak,if_pos h2]
  ·rw[decide_eq_false h2,bU,aE,if_neg h2]
 ·rw[decide_eq_false h,bU,aE,if_neg h]
end
theorem yO (n:Int)(h0:1<=n)(h1:n<=274877906944):∃t,dQ ((n,()),())=some (t,()):=by
 unfold dQ
 dsimp only
 rw[ag (j9)]
 refine ng (fun x=>0<=x.1.1/\(x.1.2.1.length:Int)+x.1.1<=n) (fun x=>x.1.1.toNat) (fun _ r=>∃t,r=some (t,())) ?_ F _ ⟨by show(0:Int)<=n;omega,by show((0:Nat):Int)+n<=n;omega⟩ (by show n.toNat<F;unfold F;omega)
 rintro⟨⟨x,s,_⟩,_⟩ rec ⟨h2,h3⟩ hrec
 dsimp only at h2 h3 hrec|-
 by_cases hx:0<x
 ·have hq:kE .i64 x 10=x/10:=by
   unfold kE
   rw[Int.tdiv_eq_ediv_of_nonneg h2]
   exact dC (by unfold I64;omega)
  rw[ae (fv hx),ae (by unfold fL lim j5;simp;omega),hq]
  exact hrec _ ⟨by dsimp only;omega,by dsimp only;unfold gR j5;simp;omega⟩ (by dsimp only;omega)
 ·rw[ag (fM hx),ae (by unfold fL lim;simp;omega)]
  exact⟨_,rfl⟩
noncomputable def mt (n:Int):List UInt8:=match dQ ((n,()),())with
 |some x=>x.1
 |none=>[]
theorem yN (n:Int)(h0:1<=n)(h1:n<=274877906944):dQ ((n,()),())=some (mt n,()):=by
 obtain⟨t,h⟩:=yO n h0 h1
 unfold mt;rw[h]
theorem De {α:Type}{l:List α}{i:Nat}(h:i<l.length)(v d:α):aR (cF l (i:Int) v) (i:Int) d=v:=by
 unfold aR cF
 rw[Int.toNat_natCast,List.getD_eq_getElem?_getD,List.getElem?_set_self h];rfl
theorem Eu {α:Type}(l:List α)(i:Int)(v w:α):cF (cF l i v) i w=cF l i w:=by
 unfold cF;rw[List.set_set]
theorem Hg {α:Type}(l:List α)(i:Int)(v:α):(cF l i v).length=l.length:=by unfold cF;rw[List.length_set]
theorem Ab {α:Type}(f:Nat->α){l:List α}{j:Nat}(h:j<l.length):cF ((List.range j).map f++l.drop j) (j:Int) (f j)=(List.range (j+1)).map f++l.drop (j+1):=by
 unfold cF
 rw[Int.toNat_natCast,List.set_append,if_neg (by simp),List.length_map,List.length_range,Nat.sub_self,List.drop_eq_getElem_cons h,List.set_cons_zero,List.range_succ,List.map_append,List.append_assoc]
 rfl
noncomputable def mkP (m:Int)(i:Nat):Page:=Page.mk (m+3*(i:Int)) (m+3*(i:Int)+1) (mt (m+3*(i:Int)+2))
noncomputable def mkPs (m:Int)(n:Nat):List Page:=(List.range n).map (mkP m)
theorem wN (m:Int)(l:List Page)(h0:1<=m)(h1:m<=68719476736)(hl:l.length<=1073741824):
  fD ((m,()),l,())=some (m+3*l.length,mkPs m l.length,()):=by
 unfold fD
 dsimp only
 refine(Ret.iter (fun y=>∃j:Nat,j<=l.length/\y=((m+3*(j:Int),(j:Int),()),(List.range j).map (mkP m)++l.drop j,())) (fun y=>l.length-y.1.2.1.toNat) ?_ F _ ⟨0,by omega,by simp⟩ (by unfold F;simp;omega)).eq
 rintro _ rec ⟨j,hj,rfl⟩ hrec
 dsimp only
 have hlen:((List.range j).map (mkP m)++l.drop j).length=l.length:=by rw[List.length_append,List.length_map,List.length_range,List.length_drop];omega
 obtain⟨a,ha⟩:∃a,a=(List.range j).map (mkP m)++l.drop j:=⟨_,rfl⟩
 rw[<-ha]at hlen|-
 simp only[aV,Hg,hlen]
 by_cases h:j<l.length
 ·have hja:j<a.length:=by omega
  have e1:aB .i64 (m+3*(j:Int)) 1=m+3*j+1:=aH
  have e2:aB .i64 (m+3*(j:Int)+1) 1=m+3*j+2:=by rw[aH];omega
  have e3:aB .i64 (m+3*(j:Int)+2) 1=m+3*((j+1:Nat):Int):=by rw[aH];omega
  have hr:inR (j:Int) (l.length:Int)=true:=cA
  rw[ae (fv),hr,aE,aE,e1,e2,yN (m+3*(j:Int)+2) (by omega) (by omega),aa,aE,e3,aH]
  simp only[Eu,De hja]
  refine hrec _ ⟨j+1,by omega,?_⟩ (by dsimp only;omega)
  have:=Ab (mkP m) h
  rw[<-ha]at this
  rw[<-this]
  rfl
 ·have:j=l.length:=by omega
  subst this
  rw[ag (fM),ha]
  exact Ret.some (by rw[List.drop_length,List.append_nil];rfl)
theorem uT (m:Int)(l:List Page)(h0:1<=m)(h1:m<=68719476736)(hl:l.length<=1073741824):
  eU (((),m,()),l,())=some (m+3*l.length,mkPs m l.length,()):=by
 unfold eU
 dsimp only
 rw[wN m l h0 h1 hl,aa]
theorem EV (x:Page)(left:Int)(h0:0<=left)(h1:left<=1048576)(hd:x.data.length<=maxLen):iV ((x,left,()),())=some (if left-x.data.length<0 then -1 else left-x.data.length,()):=by
 unfold iV
 simp only[aV]
 rw[EO (by unfold I64 maxLen at *;omega)]
 by_cases h:left-(x.data.length:Int)<0
 ·rw[ae (fv h),if_pos h]
 ·rw[ag (fM h),if_neg h]
theorem BQ (xs:List Page)(hx:xs.length<=maxLen)(hd:∀x∈xs,x.data.length<=maxLen):∃r:Int,hJ ((xs,1048576,()),())=some (r,())/\(0<=r->xs.length<=1048576):=by
 unfold hJ
 simp only[aV]
 rw[EO (by unfold I64 maxLen at *;omega)]
 by_cases h:1048576-(xs.length:Int)<0
 ·rw[ae (fv h)]
  exact⟨-1,rfl,fun h=>absurd h (by decide)⟩
 ·rw[ag (fM h)]
  refine ng (fun x=>x.1.1=xs/\0<=x.1.2.1/\x.1.2.1<=1048576/\0<=x.1.2.2.1/\x.1.2.2.1<=(xs.length:Int)) (fun x=>xs.length-x.1.2.2.1.toNat) (fun _ o=>∃r:Int,o=some (r,())/\(0<=r->xs.length<=1048576)) ?_ F _ ?_ ?_
  ·rintro⟨⟨ys,left,i,_⟩,_⟩ rec ⟨h2,h3,h4,h0,h1⟩ hrec
   dsimp only at h0 h1 h2 h3 h4 hrec|-
   subst h2
   by_cases hi:i<ys.length
   ·obtain⟨n,rfl⟩:=Int.eq_ofNat_of_zero_le h0
    have hn:n<ys.length:=by omega
    rw[ae (fv hi),ae (cA h0 hi),fp hn,EV _ _ h3 h4 (hd _ (List.getElem_mem hn)),aa]
    dsimp only
    by_cases hl:left-(ys[n].data.length:Int)<0
    ·rw[if_pos hl]
     exact⟨-1,rfl,fun h=>absurd h (by decide)⟩
    ·rw[if_neg hl,ag (fM hl),aH]
     exact hrec _ ⟨rfl,by dsimp only;omega,by dsimp only;omega,by dsimp only;omega,by dsimp only;omega⟩ (by dsimp only;omega)
   ·rw[ag (fM hi)]
    exact⟨left,rfl,fun _=>by omega⟩
  ·exact⟨rfl,by dsimp only;omega,by dsimp only;omega,by simp,by simp⟩
  ·simp[F];omega
theorem zo (xs:List Page)(hx:xs.length<=maxLen)(hd:∀x∈xs,x.data.length<=maxLen):∃r:Int,ge (((xs,()),1048576,()),())=some (r,())/\(0<=r->xs.length<=1048576):=by
 obtain⟨r,h1,h2⟩:=BQ xs hx hd
 unfold ge
 dsimp only
 rw[h1,aa]
 by_cases h:r<0
 ·rw[ae (fv h)];exact⟨-1,rfl,fun h=>absurd h (by decide)⟩
 ·rw[ag (fM h)];exact⟨r,rfl,h2⟩
theorem BX (xs:List Page)(hx:xs.length<=1048576):ia ((xs,()),())=some ((),xs,()):=by
 unfold ia kj
 simp only[aV]
 rw[ae (mC (by omega) (Int.le_refl _)),ae (yy (by omega))]
 refine eD (fun x=>x.1.1=xs/\0<=x.1.2.1/\x.1.2.1<=(xs.length:Int)/\x.2.1=xs.take x.1.2.1.toNat++List.replicate (xs.length-x.1.2.1.toNat) (az .page)) (fun x=>xs.length-x.1.2.1.toNat) (fun _=>some ((),xs,())) ?_ F _ ?_ ?_
 ·rintro⟨⟨ys,i,_⟩,out,_⟩ rec ⟨h2,h0,h1,h3⟩ hrec
  dsimp only at h0 h1 h2 h3 hrec|-
  subst h2
  by_cases hi:i<ys.length
  ·obtain⟨n,rfl⟩:=Int.eq_ofNat_of_zero_le h0
   have hn:n<ys.length:=by omega
   rw[Int.toNat_natCast]at h3
   have hol:out.length=ys.length:=by rw[h3];simp;omega
   rw[ae (fv hi),ae (cA h0 hi),aa,ae (cA h0 (by rw[hol];exact hi)),aH]
   refine hrec _ ⟨rfl,by dsimp only;omega,by dsimp only;omega,?_⟩ (by dsimp only;omega)
   dsimp only
   rw[fp hn,show((n:Int)+1).toNat=n+1 by omega,h3]
   unfold cF
   rw[Int.toNat_natCast,List.set_append_right _ _ (by simp;omega),List.length_take,Nat.min_eq_left (by omega),Nat.sub_self,show ys.length-n=(ys.length-(n+1))+1 by omega,List.replicate_succ,<-List.take_append_getElem hn,List.append_assoc]
   rfl
  ·have:i=ys.length:=by omega
   subst this
   rw[ag (fM hi),h3,Int.toNat_natCast];simp
 ·exact⟨rfl,by simp,by simp,by simp[sM]⟩
 ·simp[F];omega
theorem zq (xs:List Page)(hx:xs.length<=1048576):gg (((xs,()),()),())=some ((),xs,()):=by
 unfold gg
 dsimp only
 rw[BX xs hx,aa]
theorem yk (x:Page):iU ((x,x,()),())=some (true,()):=by
 unfold iU
 dsimp only
 rw[be rfl,be rfl,show eqS x.data x.data=true from decide_eq_true rfl]
 rfl
theorem wb (xs:List Page)(hx:xs.length<=1048576):gY ((xs,xs,()),())=some (true,()):=by
 unfold gY
 simp only[aV]
 rw[be rfl,bE,ak]
 refine eD (fun x=>x.1.1=xs/\x.1.2.1=xs/\0<=x.1.2.2.1/\x.1.2.2.1<=(xs.length:Int)) (fun x=>xs.length-x.1.2.2.1.toNat) (fun _=>some (true,())) ?_ F _ ?_ ?_
 ·rintro⟨⟨ys,zs,i,_⟩,_⟩ rec ⟨h2,h3,h0,h1⟩ hrec
  dsimp only at h0 h1 h2 h3 hrec|-
  subst h2
  subst h3
  by_cases hi:i<zs.length
  ·rw[ae (fv hi),ae (cA h0 hi),ae (cA h0 hi),yk,aa,bE,ak,aH]
   exact hrec _ ⟨rfl,rfl,by dsimp only;omega,by dsimp only;omega⟩ (by dsimp only;omega)
  ·rw[ag (fM hi)]
 ·exact⟨rfl,rfl,by simp,by simp⟩
 ·simp[F];omega
theorem ut (xs:List Page)(hx:xs.length<=1048576):gb (((xs,()),(xs,()),()),())=some (true,()):=by
 unfold gb
 dsimp only
 rw[wb xs hx,aa,bE,ak]
theorem xB (a0 a1 a2 a3 a4 a5 a6 a7 a8 a9 a10 a11 a12 a13 a14 a15:Int):gf ((([a0,a1,a2,a3,a4,a5,a6,a7,a8,a9,a10,a11,a12,a13,a14,a15],()),()),())=some (([a0,a1,a2,a3,a4,a5,a6,a7,a8,a9,a10,a11,a12,a13,a14,a15],()),()):=by kernel_rfl
theorem zp {c:List Int}(h:c.length=16):gf (((c,()),()),())=some ((c,()),()):=by
 match c,h with
 |[a0,a1,a2,a3,a4,a5,a6,a7,a8,a9,a10,a11,a12,a13,a14,a15],_=>exact xB a0 a1 a2 a3 a4 a5 a6 a7 a8 a9 a10 a11 a12 a13 a14 a15
theorem HA {c:List Int}(p f:Int)(h:c.length=16):jE (((c,p,f,()),()),())=some ((c,p,f,()),()):=by
 unfold jE
 dsimp only
 rw[zp h,aa]
theorem ur (c:List Int):fZ (((c,()),(c,()),()),())=some (true,()):=by
 unfold fZ
 dsimp only
 refine(Ret.iter (fun y=>∃i:Nat,i<=16/\y=(((i:Int),()),(c,()),(c,()),())) (fun y=>16-y.1.1.toNat) ?_ F _ ⟨0,by omega,rfl⟩ (by unfold F;simp)).eq
 rintro _ rec ⟨i,hi,rfl⟩ hrec
 dsimp only
 by_cases h:i<16
 ·rw[ae (fv),ae (by simp[inR];omega),ae (by simp[inR];omega),be rfl,bE,ag rfl,aH]
  exact hrec _ ⟨i+1,by omega,rfl⟩ (by simp;omega)
 ·rw[ag (fM)]
  exact Ret.some rfl
theorem A6 (c:List Int)(p f:Int):jC (((c,p,f,()),(c,p,f,()),()),())=some (true,()):=by
 unfold jC
 dsimp only
 rw[ur,aa]
 dsimp only
 rw[bE,ak,be rfl,be rfl,bE,ak,ak]
theorem elWf_i {x:Int}(h:yi .i x):I64 x:=by
 obtain⟨⟨n,e,w⟩,_⟩:=h
 have e:x=n:=by injection e
 rw[e];exact wf64 w
theorem regs_wf {c:List Int}(w:∀x∈c,yi .i x):∀i,I64 (aR c i (az .i)):=fun i=>by
 unfold aR
 rw[List.getD_eq_getElem?_getD]
 cases hci:c[i.toNat]? with
 |none=>exact(by unfold I64;decide:I64 (0:Int))
 |some v=>exact elWf_i (w v (List.mem_of_getElem? hci))
section
variable {c:List Int}{rip fl:Int}{m:List Page}{heap brk:Int}{inp:List UInt8}{pos:Int}{out:List UInt8}{clk seed st cd ft wh:Int}
theorem Hw (hm:m.length<=maxLen)(hd:∀x∈m,x.data.length<=maxLen):∃r:Int,jD ((bx c rip fl m heap brk inp pos out clk seed st cd ft wh,1048576,()),())=some (r,())/\(0<=r->m.length<=1048576):=by
 unfold jD
 dsimp only[bx,p6,p8]
 obtain⟨r,e,hr⟩:=zo m hm hd
 rw[e,aa]
 dsimp only
 by_cases h1:r<0
 ·rw[ae (fv h1)];exact⟨-1,rfl,fun h=>absurd h (by decide)⟩
 ·rw[ag (fM h1)]
  have hm:=hr (by omega)
  by_cases h2:ltI (aT .i64 r (bL inp)) 0=true
  ·rw[ae h2];exact⟨-1,rfl,fun h=>absurd h (by decide)⟩
  ·rw[ag (by simpa using h2)]
   by_cases h3:ltI (aT .i64 (aT .i64 r (bL inp)) (bL out)) 0=true
   ·rw[ae h3];exact⟨-1,rfl,fun h=>absurd h (by decide)⟩
   ·rw[ag (by simpa using h3)];exact⟨_,rfl,fun _=>hm⟩
theorem Hz (h:c.length=16)(hm:m.length<=1048576):fj ((bx c rip fl m heap brk inp pos out clk seed st cd ft wh,()),())=some (bi c rip fl heap brk inp pos out clk seed st cd ft wh,m,()):=by
 unfold fj
 dsimp only[bx]
 rw[HA rip fl h,aa,zq m hm,aa]
theorem A5 (hm:m.length<=1048576):jB ((bx c rip fl m heap brk inp pos out clk seed st cd ft wh,bx c rip fl m heap brk inp pos out clk seed st cd ft wh,()),())=some (true,()):=by
 unfold jB
 dsimp only[bx,p5,p6,p7,p8,p9,p10,p11,p12,p13,p14]
 simp only[A6,ut m hm,aa,bE,ak,be rfl,show eqS inp inp=true from decide_eq_true rfl,show eqS out out=true from decide_eq_true rfl]
theorem Bo (k:Int)(h0:1<=k)(h1:k<=68719476736)(hm:m.length<=1073741824):gZ ((bi c rip fl heap brk inp pos out clk seed st cd ft wh,k,()),m,())=some (k+3*m.length,mkPs k m.length,()):=by
 unfold gZ
 dsimp only
 rw[uT k m h0 h1 hm,aa]
end
def mkIs (m:Int)(n:Nat):List Int:=(List.range n).map fun i=>m+(i:Nat)
theorem Gy (m:Int)(n:Nat):(mkIs m n).length=n:=by simp[mkIs]
theorem yM (m:Int)(l:List Int)(h0:1<=m)(h1:m<=68719476736)(hl:l.length<=1073741824):gd ((m,()),l,())=some (m+l.length,mkIs m l.length,()):=by
 unfold gd
 dsimp only
 refine(Ret.iter (fun y=>∃j:Nat,j<=l.length/\y=((m+(j:Int),(j:Int),()),(List.range j).map (fun i=>m+(i:Nat))++l.drop j,())) (fun y=>l.length-y.1.2.1.toNat) ?_ F _ ⟨0,by omega,by simp⟩ (by unfold F;simp;omega)).eq
 rintro _ rec ⟨j,hj,rfl⟩ hrec
 dsimp only
 have hlen:((List.range j).map (fun i=>m+((i:Nat):Int))++l.drop j).length=l.length:=by rw[List.length_append,List.length_map,List.length_range,List.length_drop];omega
 simp only[aV,hlen]
 by_cases h:j<l.length
 ·rw[ae (fv),ae (cA),aH,aH,Ab (fun i=>m+((i:Nat):Int)) h]
  exact hrec _ ⟨j+1,by omega,by rw[show m+(j:Int)+1=m+((j+1:Nat):Int)by omega];rfl⟩ (by dsimp only;omega)
 ·have:j=l.length:=by omega
  subst this
  rw[ag (fM)]
  exact Ret.some (by rw[List.drop_length,List.append_nil];rfl)
theorem Gx (m:Int){n j:Nat}(h:j<n):aR (mkIs m n) (j:Int) (az .i)=m+(j:Int):=by
 unfold aR mkIs
 rw[Int.toNat_natCast,List.getD_eq_getElem?_getD,List.getElem?_map,List.getElem?_range h];rfl
theorem yw (m:Int)(n:Nat)(h0:1<=m)(h1:m<=68719476736)(hl:n<=1073741824):eT ((mkIs m n,m,()),())=some (m+n,()):=by
 unfold eT
 dsimp only
 refine(Ret.iter (fun y=>∃j:Nat,j<=n/\y=((mkIs m n,m+(j:Int),(j:Int),()),())) (fun y=>n-y.1.2.2.1.toNat) ?_ F _ ⟨0,by omega,by simp⟩ (by unfold F;simp;omega)).eq
 rintro _ rec ⟨j,hj,rfl⟩ hrec
 dsimp only
 simp only[aV,Gy]
 by_cases h:j<n
 ·rw[ae (fv),ae (cA),Gx m h,be rfl,bE,ak,aH,aH]
  exact hrec _ ⟨j+1,by omega,by rw[show m+(j:Int)+1=m+((j+1:Nat):Int)by omega];rfl⟩ (by dsimp only;omega)
 ·have:j=n:=by omega
  subst this
  rw[ag (fM)]
  exact Ret.some rfl
theorem yj (l:List Int)(hl:l.length<=1073741824):fk ((l,l,()),())=some (true,()):=by
 unfold fk
 dsimp only
 rw[be rfl,bE,ak]
 refine(Ret.iter (fun y=>∃j:Nat,j<=l.length/\y=((l,l,(j:Int),()),())) (fun y=>l.length-y.1.2.2.1.toNat) ?_ F _ ⟨0,by omega,rfl⟩ (by unfold F;simp;omega)).eq
 rintro _ rec ⟨j,hj,rfl⟩ hrec
 dsimp only
 simp only[aV]
 by_cases h:j<l.length
 ·rw[ae (fv),ae (cA),ae (cA),be rfl,bE,ak,aH]
  exact hrec _ ⟨j+1,by omega,rfl⟩ (by dsimp only;omega)
 ·rw[ag (fM)]
  exact Ret.some rfl
section
variable {c:List Int}{rip fl:Int}{m:List Page}{heap brk:Int}{inp:List UInt8}{pos:Int}{out:List UInt8}{clk seed st cd ft wh:Int}
theorem t6 (hg:iH c)(hf:I64 fl)(hp:I64 rip)(hc:I64 cd)(hm:m.length<=1048576)(n:Int):
  ∃(l':List Int) (k':Int),l'.length<=1000/\
   gi ((bx c rip fl m heap brk inp pos out clk seed st cd ft wh,n,()),())=some ((l',k',()),())/\
   eQ ((bx c rip fl m heap brk inp pos out clk seed st cd ft wh,n,()),())=some ((k',()),l',()):=by
 have hfu:=Bl (c:=c) (rip:=rip) (heap:=heap) (brk:=brk) (inp:=inp) (pos:=pos) (out:=out) (clk:=clk) (seed:=seed) (st:=st) (ft:=ft) (wh:=wh) hf hc hm n
 dsimp only[bx]at hfu
 unfold gi eQ
 dsimp only[bx]
 rw[hfu,Fy hc hm,aa,aa]
 dsimp only
 by_cases h:xI fl m heap brk inp pos out clk seed st cd ft wh
 rotate_left
 ·rw[if_neg h,decide_eq_false h,bU,aE,ae (by decide)]
  exact⟨[],1,by simp,rfl,rfl⟩
 rw[if_pos h,decide_eq_true h,bE,ak,Du,aa]
 dsimp only
 by_cases h2:0<=n/\n<=400
 rotate_left
 ·rw[if_neg h2,decide_eq_false h2,bU,aE,ae (by decide)]
  exact⟨[],4,by simp,rfl,rfl⟩
 rw[if_pos h2,decide_eq_true h2,bE,ak,ag (by decide)]
 have hcp:=FQ (c:=c) (rip:=rip) (fl:=fl) (heap:=heap) (brk:=brk) (inp:=inp) (pos:=pos) (out:=out) (clk:=clk) (seed:=seed) (st:=st) (cd:=cd) (ft:=ft) (wh:=wh) hm
 dsimp only[bx,bi]at hcp
 rw[hcp,aa]
 dsimp only
 unfold ch
 dsimp only
 refine iterQ (β:=Int×(List Int×Int×Int×Int×Int×List UInt8×Int×List UInt8×Int×Int×Int×Int×Int×Int×Unit)×Unit×List Page×List Int×Unit) (fun x y=>∃(c:List Int) (rip fl:Int) (m:List Page) (brk pos:Int) (out:List UInt8) (clk seed st cd ft wh i:Int) (l:List Int),StOK c rip fl m/\BoxW m heap brk inp pos out clk seed/\0<=i/\i<=n/\l.length<=i.toNat/\
   x=((n,(i,())),(bx c rip fl m heap brk inp pos out clk seed st cd ft wh,(l,())))/\y=((n,(i,())),(bi c rip fl heap brk inp pos out clk seed st cd ft wh,((),(m,(l,()))))))
  (fun x=>(n-x.1.2.1).toNat)
  (fun o1 o2=>∃(l':List Int) (k':Int),l'.length<=1000/\o1=some ((l',k',()),())/\(bnd o2 fun x5=>some ((0,()),x5.2.2.2.2))=some ((k',()),l',())) ?_ F _ _
  ⟨c,rip,fl,m,brk,pos,out,clk,seed,st,cd,ft,wh,0,[],stOK_of hg hf hp h,boxW_of h,by omega,by omega,by simp,rfl,rfl⟩ (by unfold F;dsimp only;omega)
 rintro _ _ r1 r2 ⟨c,rip,fl,m,brk,pos,out,clk,seed,st,cd,ft,wh,i,l,hS,hB,i0,i1,hl,rfl,rfl⟩ hrec
 dsimp only[bx,bi,p10,p11]
 by_cases hlt:i<n
 rotate_left
 ·rw[fM hlt,ak,aa,aa,ak,ak]
  exact⟨l,0,by omega,rfl,rfl⟩
 rw[fv hlt,aE,aa,aa]
 by_cases h1:st=1
 rotate_left
 ·rw[aq h1,ak,ak]
  exact⟨l,0,by omega,rfl,rfl⟩
 have hft:fL l [rip]=true:=gA (by simp;omega)
 rw[be h1,aE,aE,hft,aE]
 obtain⟨c',rip',fl',m',brk',pos',out',clk',seed',st',cd',ft',wh',l',b1,b2,_,e1,e2⟩:=vW (st:=st) (cd:=cd) (ft:=ft) (wh:=wh) hS hB
 dsimp only[bx,bi]at e1 e2
 rw[e1,aa,e2,aa]
 unfold gD
 dsimp only
 rw[hft,aE,aa,aH]
 exact hrec _ _ ⟨c',rip',fl',m',brk',pos',out',clk',seed',st',cd',ft',wh',i+1,gR l [rip],b1,b2,by omega,by omega,by unfold gR;simp;omega,rfl,rfl⟩ (by dsimp only;omega)
end
theorem va (y:VTL.Ty [.agg [.arr .i 16,.int .i64,.int .i64,.list .page,.int .i64,.int .i64,.str,.int .i64,.str,.int .i64,.int .i64,.int .i64,.int .i64,.int .i64,.int .i64],.int .i64])
  (h:VTL.wf [.agg [.arr .i 16,.int .i64,.int .i64,.list .page,.int .i64,.int .i64,.str,.int .i64,.str,.int .i64,.int .i64,.int .i64,.int .i64,.int .i64,.int .i64],.int .i64] y):cw (y,())=some (true,()):=by
 obtain⟨⟨c,rip,fl,ms,heap,brk,inp,pos,out,clk,seed,st,cd,ft,wh,_⟩,n,_⟩:=y
 obtain⟨⟨⟨w0,w1⟩,w2,w3,⟨w4,w5⟩,_,_,_,_,_,_,_,_,w11,_,_,_⟩,_,_⟩:=h
 have w0:c.length=16:=w0
 have w4:ms.length<=maxLen:=w4
 have hg:iH c:=regs_wf w1
 have hf:I64 fl:=wf64 w3
 have hp:I64 rip:=wf64 w2
 have hc:I64 cd:=wf64 w11
 unfold cw
 dsimp only
 obtain⟨r,e,hr⟩:=Hw (c:=c) (rip:=rip) (fl:=fl) (heap:=heap) (brk:=brk) (inp:=inp) (pos:=pos) (out:=out) (clk:=clk) (seed:=seed) (st:=st) (cd:=cd) (ft:=ft) (wh:=wh) w4 (fun x hx=>(CT (w5 x hx)).2.2)
 dsimp only[bx]at e
 rw[e,aa]
 dsimp only
 by_cases h0:r<0
 ·rw[ae (fv h0)]
 rw[ag (fM h0)]
 have hm:=hr (by omega)
 have hto:=Hz (rip:=rip) (fl:=fl) (heap:=heap) (brk:=brk) (inp:=inp) (pos:=pos) (out:=out) (clk:=clk) (seed:=seed) (st:=st) (cd:=cd) (ft:=ft) (wh:=wh) w0 hm
 have hq0:=A5 (c:=c) (rip:=rip) (fl:=fl) (heap:=heap) (brk:=brk) (inp:=inp) (pos:=pos) (out:=out) (clk:=clk) (seed:=seed) (st:=st) (cd:=cd) (ft:=ft) (wh:=wh) hm
 have hmk:=Bo (c:=c) (rip:=rip) (fl:=fl) (heap:=heap) (brk:=brk) (inp:=inp) (pos:=pos) (out:=out) (clk:=clk) (seed:=seed) (st:=st) (cd:=cd) (ft:=ft) (wh:=wh) (m:=ms) 1 (by decide) (by decide) (by omega)
 have q3:ltI (1+3*(ms.length:Int)) 0=false:=fM
 have hcc:∀a:Int,eqI a a=true:=fun a=>be rfl
 obtain⟨l',k',hl',e1,e2⟩:=t6 (heap:=heap) (brk:=brk) (inp:=inp) (pos:=pos) (out:=out) (clk:=clk) (seed:=seed) (st:=st) (ft:=ft) (wh:=wh) hg hf hp hc hm n
 have hq:=yj l' (by omega)
 have hmk':=yM 1 l' (by decide) (by decide) (by omega)
 have hh:=yw 1 l'.length (by decide) (by decide) (by omega)
 have q1:ltI (1+(l'.length:Int)) 0=false:=fM
 dsimp only[bx,bi]at hto e1 e2 hq0 hmk
 rw[hto,aa]
 dsimp only
 rw[e1,aa]
 simp only[aa,e2,hq,hq0,hcc,bE,ak,hmk,hmk',hh,q1,q3]
end Go.Den.G
