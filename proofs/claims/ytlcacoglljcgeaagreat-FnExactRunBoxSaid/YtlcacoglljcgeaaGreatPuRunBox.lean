/- Theory for the proofs of this claim: see its last text. -/
import Derived.Test.YtlcacoglljcgeaaGreatFnRunBox
import Derived.Test.YtlcacoglljcgeaaGreatDenF
import Derived.KernelRfl
import Derived.Laws.MathBits
import Derived.Test.YtlcacoglljcgeaaGreatPbRunBox
namespace Go.Den.G
open Go.Den
set_option maxRecDepth 100000
noncomputable section
theorem szN_all:∀n,n<45->1<=n->∀z∈szL (szK n),(0:Int)<=z:=by decide +kernel
theorem m7.plain {g:List Int}{m:List Page}{c:Int}{l:List Acc}{k:Nat}(hs:(MS.mk g m c l).ok k)(hk:k+4<=1000){x:Ins}{n:Nat}{rip fl nx:Int}{e:MS×Int×Int}(hx:ExV x n)(hn:29<=n)(h:m7 g m c l x rip fl nx e):fR g m c l x rip fl nx e:=by
 obtain⟨S,fl',nx',hr,hR⟩:=h
 exact BA hs hk hx hn hr hR
theorem plain_r {g:List Int}{rip fl:Int}{m:List Page}{x:Ins}{n z:Nat}(hm:MemT m)(hg:iH g)(hI:I64 fl)(hf:bU fl=true)(hx:ExV x n)(hz:x.size=z):
  fR g m 0 [] x rip fl (aA .i64 rip x.len) (exM g rip fl m x n z):=by
 have hs:(MS.mk g m 0 []).ok 0:=⟨hm,Nat.le_refl 0,hg⟩
 have hk:0+4<=1000:=by decide
 have h1:=hx.n1
 have h2:=hx.n2
 have hnx:I64 (aA .i64 rip x.len):=au _
 unfold exM
 dsimp only
 by_cases hmv:mvB n=true
 ·rw[if_pos hmv]
  have hn:=of_decide_eq_true hmv
  rcases hn with rfl|rfl|rfl|rfl|rfl|rfl|rfl|rfl|rfl
  ·exact plain_9 hs hk hx hz
  ·exact He hs hk hx hz
  ·exact Hb hs hk hx hz
  ·exact Hc hs hk hx hz
  ·exact Hd hs hk hx hz
  ·exact(GX hs hk hx).plain hs hk hx (by decide)
  ·exact(GY hs hk hx hz).plain hs hk hx (by decide)
  ·exact(G1 hs hk hx hz).plain hs hk hx (by decide)
  ·exact(G2 hs hk hx hz).plain hs hk hx (by decide)
 ·rw[if_neg hmv]
  by_cases hwd:wdB n=true
  ·rw[if_pos hwd]
   have hn:=of_decide_eq_true hwd
   exact BB hs hk hx hz hI hf (by omega)
  ·rw[if_neg hwd]
   by_cases hfw:fwB n=true
   ·rw[if_pos hfw]
    have hn:=of_decide_eq_true hfw
    rcases hn with rfl|rfl|rfl|rfl|rfl|rfl|rfl|rfl|rfl|rfl|rfl|rfl
    ·exact(GR hs hk hx).plain hs hk hx (by decide)
    ·exact(GS hs hk hx).plain hs hk hx (by decide)
    ·exact(GT hs hk hx hnx).plain hs hk hx (by decide)
    ·exact(GW hs hk hx).plain hs hk hx (by decide)
    ·exact(GU hs hk hx).plain hs hk hx (by decide)
    ·exact(GV hs hk hx).plain hs hk hx (by decide)
    ·exact(G3 hs hk hx).plain hs hk hx (by decide)
    ·exact(G4 hs hk hx).plain hs hk hx (by decide)
    ·exact(G0 hs hk hx).plain hs hk hx (by decide)
    ·exact(G5 hs hk hx).plain hs hk hx (by decide)
    ·exact(G6 hs hk hx).plain hs hk hx (by decide)
    ·exact(GZ hs hk hx).plain hs hk hx (by decide)
   ·rw[if_neg hfw]
    have n1:=of_decide_eq_false (Bool.eq_false_iff.2 hmv)
    have n2:=of_decide_eq_false (Bool.eq_false_iff.2 hwd)
    have n3:=of_decide_eq_false (Bool.eq_false_iff.2 hfw)
    by_cases ha:n<=8\/n=10
    ·exact Ed hs hk hx hz ha
    by_cases hb:n=11\/n=12\/n=18\/n=19
    ·exact Ee hs hk hx hz hI hf hb
    by_cases hc:20<=n/\n<=24
    ·exact y8 hs hk hx hz hI hf hc
    have:n=17:=by omega
    subst this
    exact Bz hs hk hx hz hI hf
def exS (g:List Int)(rip fl:Int)(m:List Page)(r:MS×Int×Int):((List Int×Int×Int×Unit)×(List Page×Unit)×List Acc×Int×Unit)×Unit:=
 if r.1.code≠0 then(((g,rip,fl,()),(m,()),r.1.l,r.1.code,()),())else(((r.1.g,r.2.1,r.2.2,()),(r.1.m,()),r.1.l,0,()),())
theorem exec_r {g:List Int}{rip fl:Int}{m:List Page}{x:Ins}{n z:Nat}(hm:MemT m)(hg:iH g)(hI:I64 fl)(hf:bU fl=true)(hx:ExV x n)(hz:x.size=z):
  im (((g,rip,fl,()),(m,()),x,()),())=some (exS g rip fl m (exM g rip fl m x n z)):=by
 obtain⟨S,fl',nx',hr,h1,h2,h3⟩:=plain_r (rip:=rip) hm hg hI hf hx hz
 generalize exM g rip fl m x n z=e at h1 h2 h3
 unfold im
 dsimp only
 rw[ec,aa]
 dsimp only
 rw[hr,aa]
 unfold MS.r exS
 dsimp only[p5,d5]
 rw[h1,h2]
 by_cases hc:e.1.code=0
 ·obtain⟨hS,rfl,rfl⟩:=h3 hc
  rw[hc,be rfl,bD,ak,iD,hS]
 ·rw[aq hc,bS,aE,if_pos hc]
end
set_option maxRecDepth 100000
abbrev Shz:=Int×Int×Int×Bool×Int×Unit
def shz (sec:Bool)(n:Nat):Shz:=match cP ((sec,(n:Int),()),())with
 |some x=>x.1
 |none=>(0,0,0,false,0,())
theorem Ey:∀n:Nat,n<256->(cP ((false,(n:Int),()),())).isSome=true/\(cP ((true,(n:Int),()),())).isSome=true:=by decide +kernel
theorem yK (sec:Bool){n:Nat}(h:n<256):cP ((sec,(n:Int),()),())=some (shz sec n,()):=by
 have h2:(cP ((sec,(n:Int),()),())).isSome=true:=by cases sec;exact(Ey n h).1;exact(Ey n h).2
 unfold shz
 cases hx:cP ((sec,(n:Int),()),())with
 |none=>rw[hx]at h2;cases h2
 |some x=>rfl
def shR (z:Shz):(Shz×Int×Unit)×Unit:=((if z.2.1=0 then(0,0,0,false,0,())else z,if z.2.1=0 then 11 else 0,()),())
instance decShz:DecidableEq (Int×Int×Int×Bool×Int×Unit):=inferInstance
instance decShz2:DecidableEq ((Int×Int×Int×Bool×Int×Unit)×Int×Unit):=inferInstance
def okSh (sec:Bool)(n:Nat):Bool:=decide (gW ((sec,(n:Int),()),())=some (shR (shz sec n)))
theorem Hn:∀n:Nat,n<256->okSh false n=true:=by decide +kernel
theorem Ho:∀n:Nat,n<256->okSh true n=true:=by decide +kernel
theorem AP (sec:Bool){n:Nat}(h:n<256):gW ((sec,(n:Int),()),())=some (shR (shz sec n)):=by
 cases sec
 ·exact of_decide_eq_true (Hn n h)
 ·exact of_decide_eq_true (Ho n h)
def oH (f:Int):Bool:=decide (f=1\/f=2\/f=4\/f=5\/f=6\/f=11\/f=12\/f=13\/f=17)
theorem Dl:∀n:Nat,n<18->fY (((n:Int),()),())=some (oH n,()):=by decide +kernel
theorem Dm:∀n:Nat,n<18->du (((n:Int),()),())=some (oH n,()):=by decide +kernel
def shP (z:Shz):Bool:=decide (0<=z.1/\z.1<=44/\0<=z.2.1/\z.2.1<18/\0<=z.2.2.1/\z.2.2.1<=7/\(z.2.2.2.2.1=0\/z.2.1=17/\(z.2.2.2.2.1=1\/z.2.2.2.2.1=2\/z.2.2.2.2.1=4))/\(z.2.1=17->z.2.2.2.2.1≠0)/\(0<z.2.2.1->oH z.2.1=true/\z.2.1≠17/\z.1=0)/\(z.1=25->z.2.1=2)/\(z.2.1≠0->z.2.2.1=0->1<=z.1))
theorem Hk:∀n:Nat,n<256->shP (shz false n)=true:=by decide +kernel
theorem Hl:∀n:Nat,n<256->shP (shz true n)=true:=by decide +kernel
theorem Hm (sec:Bool){n:Nat}(h:n<256):shP (shz sec n)=true:=by
 cases sec
 ·exact Hk n h
 ·exact Hl n h
def grp (g d:Nat):Int:=match gl (((g:Int),(d:Int),()),())with
 |some x=>x.1
 |none=>0
theorem yJ:∀g:Nat,g<8->1<=g->∀d:Nat,d<8->gl (((g:Int),(d:Int),()),())=some (grp g d,()):=by decide +kernel
def gpR (o:Int):(Int×Int×Unit)×Unit:=((o,if o=0 then 11 else 0,()),())
def okGp (g d:Nat):Bool:=decide (gV (((g:Int),(d:Int),()),())=some (gpR (grp g d)))
theorem gp_impl:∀g:Nat,g<8->1<=g->∀d:Nat,d<8->okGp g d=true:=by decide +kernel
theorem AM {g d:Nat}(h:g<8)(h1:1<=g)(k:d<8):gV (((g:Int),(d:Int),()),())=some (gpR (grp g d)):=of_decide_eq_true (gp_impl g h h1 d k)
theorem Di:∀g:Nat,g<8->∀d:Nat,d<8->0<=grp g d/\grp g d<=44:=by decide +kernel
def cR (op:Int):Bool:=decide (op=29\/op=30\/op=31\/op=32)
def eK (op:Int):Bool:=decide (op=33\/op=34\/op=37\/op=38\/op=43\/op=44)
theorem Bb:∀n:Nat,n<45->fA (((n:Int),()),())=some ((if cR n=true then(8,true,())else if eK n=true then(0,true,())else(0,false,())),()):=by decide +kernel
def szM (by':Bool)(op:Int)(w:Bool)(x:Int):Int:=if cR op=true then 8 else if eK op=true then 0 else if by'=true then 1 else if x/8%2=1 then 8 else if w=true then 2 else 4
def qI:List Int:=[38,46,54,62,100,101,102,103,240,242,243]
theorem Ha:∀n:Nat,n<256->fH (((n:Int),()),())=some (decide ((n:Int)∈qI/\n≠102),()):=by decide +kernel
section
variable {t:List UInt8}{a c:Int}
theorem CH {x:Int}(nw hr:Bool)(r:_):aQ ((0,()),(t,a,c,nw,x%16,hr,r),())=some (jN x 0,(t,a,c,nw,x%16,hr,r),()):=uk 0 (by decide) nw hr r
theorem dbit1 {x:Int}(nw hr:Bool)(r:_):aQ ((1,()),(t,a,c,nw,x%16,hr,r),())=some (jN x 1,(t,a,c,nw,x%16,hr,r),()):=uk 1 (by decide) nw hr r
theorem dbit2 {x:Int}(nw hr:Bool)(r:_):aQ ((2,()),(t,a,c,nw,x%16,hr,r),())=some (jN x 2,(t,a,c,nw,x%16,hr,r),()):=uk 2 (by decide) nw hr r
theorem dbit3 {x:Int}(nw hr:Bool)(r:_):aQ ((3,()),(t,a,c,nw,x%16,hr,r),())=some (jN x 3,(t,a,c,nw,x%16,hr,r),()):=uk 3 (by decide) nw hr r
theorem lj {x:Int}{k:Nat}(hk:k<4):0<=jN x k/\jN x k<=8/\(x=0->jN x k=0):=by
 rcases ra (x:=x) hk with h|h<;>omega
theorem xB {b:Int}(h0:0<=b)(h1:b<256):dE .i64 1 (b/64)=2^(b/64).toNat:=by
 have:b/64=0\/b/64=1\/b/64=2\/b/64=3:=by omega
 rcases this with h|h|h|h<;>rw[h]<;>decide
theorem lO {α:Type}{o:Option α}{f:Int->Int->α}{p:Int->Int->Prop}(h:Ret o fun y=>∃a c,y=f a c/\p a c):∃a c,o=some (f a c)/\p a c:=by
 obtain⟨y,e,a,c,rfl,h⟩:=h
 exact⟨a,c,e,h⟩
theorem ji {x m z:Int}(hm0:0<=m)(hm:m<256)(nw:Bool)(op z0 z1 z2:Int)(z3:Bool)(z4 rg:Int)(r:_)
  (hl:(t.length:Int)<=1099511627776) (hp:(aI a c).In t):
  ∃a' c',ba ((z,()),(t,a,c,nw,x%16,decide (x≠0),op,z0,z1,z2,z3,z4,m/64,rg,m%8,r),())=
   some (da (plM t x m z (aI a c)).1 (),(t,a',c',nw,x%16,decide (x≠0),op,z0,z1,z2,z3,z4,m/64,rg,m%8,r),())/\aI a' c'=(plM t x m z (aI a c)).2:=by
 have hmd:0<=m/64/\m/64<=3:=by omega
 have hrm:0<=m%8/\m%8<=7:=by omega
 unfold ba plM
 dsimp only[p12,p14]
 generalize m/64=md at hmd|-
 generalize m%8=rm at hrm|-
 obtain⟨e0,e8,ez⟩:=lj (x:=x) (k:=0) (by decide)
 have⟨f0,f8,_⟩:=lj (x:=x) (k:=1) (by decide)
 by_cases h3:md=3
 ·rw[ae (be h3),if_pos h3,CH,aa]
  dsimp only
  rw[aH,yk (by omega) (by omega) (by omega),aa]
  exact⟨a,c,rfl,rfl⟩
 ·rw[ag (aq h3),if_neg h3,CH,aa]
  dsimp only
  unfold Ci
  by_cases h4:rm=4
  ·rw[ae (be h4),if_pos h4]
   obtain⟨a1,c1,hn,hq⟩:=kz 1 (nw,x%16,decide (x≠0),op,z0,z1,z2,z3,z4,md,rg,rm,r) (by decide) (by decide) hl hp
   rw[hn,aa]
   dsimp only
   rw[CH,aa,dbit1,aa]
   dsimp only
   rw[<-hq]
   have hb:=dL t (aI a c) hp
   generalize rdU t 1 (aI a c)=b at hb|-
   obtain⟨b6,b3,b0,_⟩:=bI hb.1 hb.2
   rw[b6,b3,b0,aH,aH,xB hb.1 hb.2]
   refine lO (Ret.bnd (Q:=fun y=>y=Sum.inl ((decide (md=2\/md=0/\b%8=5),()),(t,a1,c1,nw,x%16,decide (x≠0),op,z0,z1,z2,z3,z4,md,rg,rm,r),(0,0,0,0,0,0,0,()),
    (2,0,(if md=0/\b%8=5 then -1 else b%8+jN x 0),(if b/8%8+jN x 1=4 then -1 else b/8%8+jN x 1),(if b/8%8+jN x 1=4 then 1 else 2^(b/64).toNat),0,0,()),())) ?_ ?_)
   ·have hle:leI 0 (b/64)=true:=fu
    by_cases hA:b/8%8+jN x 1=4<;>by_cases hB:md=0<;>by_cases hC:b%8=5<;>
     simp[b0,hle,hA,hB,hC,eqI,aP,br,bnd,aU,Ret]
   ·rintro _ rfl
    rw[ah]
    dsimp only[p12,d6]
    have hin:(aI a1 c1).In t:=by rw[hq];exact hp.adv (by decide)
    by_cases hW:md=2\/md=0/\b%8=5
    ·rw[ae (decide_eq_true hW)]
     obtain⟨a2,c2,hn2,hq2⟩:=fO 4 (nw,x%16,decide (x≠0),op,z0,z1,z2,z3,z4,md,rg,rm,r) (by decide) (by decide) hl hin
     have hd:lF md rm b=4:=by unfold lF;repeat' split
                              all_goals omega
     rw[hn2,aa,hd]
     exact Ret.some ⟨a2,c2,rfl,hq2⟩
    ·rw[ag (decide_eq_false hW)]
     by_cases h1:md=1
     ·rw[ae (be h1)]
      obtain⟨a2,c2,hn2,hq2⟩:=fO 1 (nw,x%16,decide (x≠0),op,z0,z1,z2,z3,z4,md,rg,rm,r) (by decide) (by decide) hl hin
      have hd:lF md rm b=1:=by unfold lF;repeat' split
                               all_goals omega
      rw[hn2,aa,hd]
      exact Ret.some ⟨a2,c2,rfl,hq2⟩
     ·rw[ag (aq h1)]
      have hd:lF md rm b=0:=by unfold lF;repeat' split
                               all_goals omega
      rw[hd]
      exact Ret.some ⟨a1,c1,rfl,rfl⟩
  ·rw[ag (aq h4),if_neg h4]
   refine lO (Ret.bnd (Q:=fun y=>y=Sum.inl ((decide (md=2\/md=0/\rm=5),()),(t,a,c,nw,x%16,decide (x≠0),op,z0,z1,z2,z3,z4,md,rg,rm,r),(0,0,0,0,0,0,0,()),
    (2,0,(if md=0/\rm=5 then 16 else rm+jN x 0),-1,1,0,0,()),())) ?_ ?_)
   ·rw[aH]
    by_cases hB:md=0<;>by_cases hC:rm=5<;>
     simp[hB,hC,eqI,br,bnd,aU,Ret]
   ·rintro _ rfl
    rw[ah]
    dsimp only[p12,d6]
    by_cases hR:rm=5/\md=0
    ·rw[ae (decide_eq_true (.inr ⟨hR.2,hR.1⟩)),if_pos ⟨hR.2,hR.1⟩,if_pos hR]
     obtain⟨a2,c2,hn2,hq2⟩:=fO 4 (nw,x%16,decide (x≠0),op,z0,z1,z2,z3,z4,md,rg,rm,r) (by decide) (by decide) hl hp
     rw[hn2,aa]
     exact Ret.some ⟨a2,c2,rfl,hq2⟩
    ·rw[if_neg (fun g=>hR ⟨g.2,g.1⟩),if_neg hR]
     by_cases hW:md=2
     ·rw[ae (decide_eq_true (.inl hW))]
      obtain⟨a2,c2,hn2,hq2⟩:=fO 4 (nw,x%16,decide (x≠0),op,z0,z1,z2,z3,z4,md,rg,rm,r) (by decide) (by decide) hl hp
      have hd:lF md rm 0=4:=by unfold lF;rw[if_pos hW]
      rw[hn2,aa,hd]
      exact Ret.some ⟨a2,c2,rfl,hq2⟩
     ·rw[ag (decide_eq_false (fun g=>g.elim hW fun g=>hR ⟨g.2,g.1⟩))]
      by_cases h1:md=1
      ·rw[ae (be h1)]
       obtain⟨a2,c2,hn2,hq2⟩:=fO 1 (nw,x%16,decide (x≠0),op,z0,z1,z2,z3,z4,md,rg,rm,r) (by decide) (by decide) hl hp
       have hd:lF md rm 0=1:=by unfold lF;rw[if_neg hW,if_pos h1]
       rw[hn2,aa,hd]
       exact Ret.some ⟨a2,c2,rfl,hq2⟩
      ·rw[ag (aq h1)]
       have hd:lF md rm 0=0:=by unfold lF;repeat' split
                                all_goals omega
       rw[hd]
       exact Ret.some ⟨a,c,rfl,rfl⟩
end
def noD:Opd:=⟨0,0,0,0,0,0,0⟩
def BQ (op:Int):Bool:=decide (op=13\/op=14\/op=15\/op=16\/op=31\/op=32\/op=29)
def nF (t:List UInt8)(op z:Int)(q:Opd×Pos):Opd×Opd×Pos:=
 if BQ op=true then(noD,q.1,q.2)else if op=10 then(q.1,wx (rdS t (gJ 4 z) q.2),adv t (gJ 4 z) q.2)else(q.1,noD,q.2)
def oP (t:List UInt8)(f frm op z x b m:Int)(p:Pos):Opd×Opd×Pos:=
 if f=1 then((plM t x m z p).1,qr (lc x (m/8%8+jN x 2) z),(plM t x m z p).2)
 else if f=2 then(qr (lc x (m/8%8+jN x 2) z),(plM t x m z p).1,(plM t x m z p).2)
 else if f=17 then(qr (lc x (m/8%8+jN x 2) z),(plM t x m frm p).1,(plM t x m frm p).2)
 else if f=3 then(qr 0,wx (rdS t (gJ 4 z) p),adv t (gJ 4 z) p)
 else if f=4 then((plM t x m z p).1,wx (rdS t 1 (plM t x m z p).2),adv t 1 (plM t x m z p).2)
 else if f=5 then((plM t x m z p).1,wx (rdS t (gJ 4 z) (plM t x m z p).2),adv t (gJ 4 z) (plM t x m z p).2)
 else if f=6 then nF t op z (plM t x m z p)
 else if f=7 then(if op=29 then(noD,qr (b%8+jN x 0),p)else(qr (b%8+jN x 0),noD,p))
 else if f=8 then(qr (lc x (b%8+jN x 0) z),wx (rdS t z p),adv t z p)
 else if f=9 then(noD,wx (rdS t 1 p),adv t 1 p)
 else if f=15 then(noD,wx (if op=44 then rdU t 1 p else rdS t 1 p),adv t 1 p)
 else if f=10\/f=16 then(noD,wx (rdS t 4 p),adv t 4 p)
 else if f=11 then((plM t x m z p).1,wx (rdU t 1 (plM t x m z p).2),adv t 1 (plM t x m z p).2)
 else if f=12 then((plM t x m z p).1,wx 1,(plM t x m z p).2)
 else if f=13 then((plM t x m z p).1,qr 1,(plM t x m z p).2)
 else(noD,noD,p)
section
variable {t:List UInt8}{a c:Int}
theorem ym {w:Int}{p:Pos}(h:p.In t)(hw:0<=w):(CP t w p).In t:=by
 unfold CP;split
 ·exact h
 ·exact h.adv hw
theorem zP (mod rm b:Int):0<=lF mod rm b:=by unfold lF;(repeat' split)<;>decide
theorem jT {x m z:Int}{p:Pos}(h:p.In t):(plM t x m z p).2.In t:=by
 unfold plM Ci
 split
 ·exact h
 ·split
  ·exact ym (h.adv (by decide)) (zP ..)
  ·split
   ·exact ym h (show(0:Int)<=4 by decide)
   ·exact ym h (zP ..)
theorem n9 {z:Int}(h:fq z):1<=gJ 4 z/\gJ 4 z<=8:=by
 unfold fq at h
 rcases h with rfl|rfl|rfl|rfl<;>decide
theorem yj {nw:Bool}{rx:Int}{hr:Bool}{q6 q7 q8 q9:Int}{q10:Bool}{q11 q12 q13 q14 q15:Int}{z:Int}(r:_)(hz:fq z)(hl:(t.length:Int)<=1099511627776)(hp:(aI a c).In t):
  ∃a' c',bC ((),(t,a,c,nw,rx,hr,q6,q7,q8,q9,q10,q11,q12,q13,q14,q15,z,r),())=
   some (da (wx (rdS t (gJ 4 z) (aI a c))) (),(t,a',c',nw,rx,hr,q6,q7,q8,q9,q10,q11,q12,q13,q14,q15,z,r),())/\aI a' c'=adv t (gJ 4 z) (aI a c):=by
 obtain⟨a',c',e,h⟩:=fO (gJ 4 z) (nw,rx,hr,q6,q7,q8,q9,q10,q11,q12,q13,q14,q15,z,r) (n9 hz).1 (n9 hz).2 hl hp
 unfold bC cW
 dsimp only[p16]
 rw[e,aa,aa]
 exact⟨a',c',rfl,h⟩
theorem sw1 {α β:Type}{a b:Bool}{r:α}:br a (some (Sum.inl ((a,()),r):Sum ((Bool×Unit)×α) β)) (some (Sum.inl ((b,()),r)))=some (Sum.inl ((a||b,()),r)):=by cases a<;>rfl
theorem sw2 {α β γ:Type}{a b:Bool}{r:α}{y:γ}:br a (some (Sum.inl ((y,a,()),r):Sum ((γ×Bool×Unit)×α) β)) (some (Sum.inl ((y,b,()),r)))=some (Sum.inl ((y,a||b,()),r)):=by cases a<;>rfl
theorem EH (op:Int):(eqI op 13||(eqI op 14||(eqI op 15||(eqI op 16||(eqI op 31||(eqI op 32||eqI op 29))))))=BQ op:=by
 rw[Bool.eq_iff_iff];simp[BQ,eqI]
theorem done_eq {x m z:Int}(hm0:0<=m)(hm:m<256)(nw:Bool)(q6 q7 q8 q9:Int)(q10:Bool)(q11 q13 op:Int)(hz:fq z)(hl:(t.length:Int)<=1099511627776)(hp:(aI a c).In t):
  ∃a' c',cK ((),(t,a,c,nw,x%16,decide (x≠0),q6,q7,q8,q9,q10,q11,m/64,q13,m%8,op,z,0,0,0,0,0,0,0,0,0,0,0,0,0,0,0,0,0,()),())=
   some ((),(t,a',c',nw,x%16,decide (x≠0),q6,q7,q8,q9,q10,q11,m/64,q13,m%8,op,z,0,0,da (nF t op z (plM t x m z (aI a c))).1 (da (nF t op z (plM t x m z (aI a c))).2.1 (0,()))),())/\
   aI a' c'=(nF t op z (plM t x m z (aI a c))).2.2:=by
 obtain⟨a1,c1,e,h⟩:=ji (x:=x) (z:=z) hm0 hm nw q6 q7 q8 q9 q10 q11 q13 (op,z,0,0,0,0,0,0,0,0,0,0,0,0,0,0,0,0,0,()) hl hp
 have hin:(aI a1 c1).In t:=by rw[h];exact jT hp
 unfold cK
 dsimp only[p16,p15]
 rw[e,aa]
 dsimp only
 simp only[sw1,aa,ah,EH]
 unfold nF
 cases hs:BQ op with
 |true=>
  rw[aE,aa,qi,if_pos rfl]
  exact⟨a1,c1,rfl,h⟩
 |false=>
  rw[ak,aa,ah,iD]
  by_cases h10:op=10
  ·rw[ae (be h10),if_pos h10]
   obtain⟨a2,c2,e2,h2⟩:=yj (nw:=nw) (rx:=x%16) (hr:=decide (x≠0)) (q6:=q6) (q7:=q7) (q8:=q8) (q9:=q9) (q10:=q10) (q11:=q11) (q12:=m/64) (q13:=q13) (q14:=m%8) (q15:=op) (0,0,da (plM t x m z (aI a c)).1 (0,0,0,0,0,0,0,0,())) hz hl hin
   refine lO (Ret.bnd (Q:=fun y=>y=_) (Ret.of_eq e2 rfl) ?_)
   rintro _ rfl
   rw[<-h]
   exact Ret.some ⟨a2,c2,rfl,h2⟩
  ·rw[ag (aq h10),if_neg h10]
   exact⟨a1,c1,rfl,h⟩
end
section
variable {t:List UInt8}{a c:Int}
theorem bI7 (b:Int)(h0:0<=b)(h1:b<256):cy .i64 b 7=b%8:=(bI h0 h1).2.2.1
theorem sz18 {z:Int}(h:fq z):1<=z/\z<=8:=by unfold fq at h;omega
theorem wd {x m z f frm b op:Int}(hm0:0<=m)(hm:m<256)(hb0:0<=b)(hb:b<256)(nw:Bool)(z0 z2:Int)(z3:Bool)(hz:(f=3\/f=5\/f=6\/f=8)->fq z)(hl:(t.length:Int)<=1099511627776)(hp:(aI a c).In t):
  ∃a' c',cL ((),(t,a,c,nw,x%16,decide (x≠0),b,z0,f,z2,z3,frm,m/64,m/8%8,m%8,op,z,0,0,0,0,0,0,0,0,0,0,0,0,0,0,0,0,0,()),())=
   some ((),(t,a',c',nw,x%16,decide (x≠0),b,z0,f,z2,z3,frm,m/64,m/8%8,m%8,op,z,0,(if f=17 then frm else 0),da (oP t f frm op z x b m (aI a c)).1 (da (oP t f frm op z x b m (aI a c)).2.1 (0,()))),())/\
   aI a' c'=(oP t f frm op z x b m (aI a c)).2.2:=by
 obtain⟨e0,e8,ez⟩:=lj (x:=x) (k:=0) (by decide)
 obtain⟨g0,g8,gz⟩:=lj (x:=x) (k:=2) (by decide)
 unfold cL oP
 dsimp only[p13,p16,p8,p15,p11,p6]
 rw[dbit2,aa]
 dsimp only
 rw[aH,yk (by omega) (by omega) (by omega),aa]
 dsimp only
 by_cases f1:f=1
 ·rw[ae (be f1),if_pos f1,iN]
  obtain⟨a1,c1,e,h⟩:=ji (x:=x) (z:=z) hm0 hm nw b z0 f z2 z3 frm (m/8%8) (op,z,0,0,0,0,0,0,0,0,0,0,0,0,0,0,0,0,0,()) hl hp
  rw[e,aa]
  exact⟨a1,c1,rfl,h⟩
 rw[ag (aq f1),if_neg f1]
 by_cases f2:f=2
 ·rw[ae (be f2),if_pos f2,iN]
  obtain⟨a1,c1,e,h⟩:=ji (x:=x) (z:=z) hm0 hm nw b z0 f z2 z3 frm (m/8%8) (op,z,0,0,0,0,0,0,0,0,0,0,0,0,0,0,0,0,0,()) hl hp
  rw[e,aa]
  exact⟨a1,c1,rfl,h⟩
 rw[ag (aq f2),if_neg f2]
 by_cases f17:f=17
 ·rw[ae (be f17),if_pos f17,if_pos f17]
  obtain⟨a1,c1,e,h⟩:=ji (x:=x) (z:=frm) hm0 hm nw b z0 f z2 z3 frm (m/8%8) (op,z,0,frm,0,0,0,0,0,0,0,0,0,0,0,0,0,0,0,()) hl hp
  rw[e,aa]
  exact⟨a1,c1,rfl,h⟩
 rw[ag (aq f17),if_neg f17,if_neg f17]
 by_cases f3:f=3
 ·rw[ae (be f3),if_pos f3]
  obtain⟨a2,c2,e2,h2⟩:=yj (nw:=nw) (rx:=x%16) (hr:=decide (x≠0)) (q6:=b) (q7:=z0) (q8:=f) (q9:=z2) (q10:=z3) (q11:=frm) (q12:=m/64) (q13:=m/8%8) (q14:=m%8) (q15:=op) (0,0,da (qr 0) (0,0,0,0,0,0,0,0,())) (hz (by omega)) hl hp
  refine lO (Ret.bnd (Q:=fun y=>y=(da (qr 0) (),())) (Ret.some rfl) ?_)
  rintro _ rfl
  refine Ret.bnd (Q:=fun y=>y=_) (Ret.of_eq e2 rfl) ?_
  rintro _ rfl
  exact Ret.some ⟨a2,c2,rfl,h2⟩
 rw[ag (aq f3),if_neg f3]
 by_cases f4:f=4
 ·rw[ae (be f4),if_pos f4]
  obtain⟨a1,c1,e,h⟩:=ji (x:=x) (z:=z) hm0 hm nw b z0 f z2 z3 frm (m/8%8) (op,z,0,0,0,0,0,0,0,0,0,0,0,0,0,0,0,0,0,()) hl hp
  have hin:(aI a1 c1).In t:=by rw[h];exact jT hp
  obtain⟨a2,c2,e2,h2⟩:=fO 1 (nw,x%16,decide (x≠0),b,z0,f,z2,z3,frm,m/64,m/8%8,m%8,op,z,0,0,da (plM t x m z (aI a c)).1 (0,0,0,0,0,0,0,0,())) (by decide) (by decide) hl hin
  rw[e,aa]
  refine lO (Ret.bnd (Q:=fun y=>y=_) (Ret.of_eq e2 rfl) ?_)
  rintro _ rfl
  rw[<-h]
  exact Ret.some ⟨a2,c2,rfl,h2⟩
 rw[ag (aq f4),if_neg f4]
 by_cases f5:f=5
 ·rw[ae (be f5),if_pos f5]
  obtain⟨a1,c1,e,h⟩:=ji (x:=x) (z:=z) hm0 hm nw b z0 f z2 z3 frm (m/8%8) (op,z,0,0,0,0,0,0,0,0,0,0,0,0,0,0,0,0,0,()) hl hp
  have hin:(aI a1 c1).In t:=by rw[h];exact jT hp
  obtain⟨a2,c2,e2,h2⟩:=yj (nw:=nw) (rx:=x%16) (hr:=decide (x≠0)) (q6:=b) (q7:=z0) (q8:=f) (q9:=z2) (q10:=z3) (q11:=frm) (q12:=m/64) (q13:=m/8%8) (q14:=m%8) (q15:=op) (0,0,da (plM t x m z (aI a c)).1 (0,0,0,0,0,0,0,0,())) (hz (by omega)) hl hin
  rw[e,aa]
  refine lO (Ret.bnd (Q:=fun y=>y=_) (Ret.of_eq e2 rfl) ?_)
  rintro _ rfl
  rw[<-h]
  exact Ret.some ⟨a2,c2,rfl,h2⟩
 rw[ag (aq f5),if_neg f5]
 by_cases f6:f=6
 ·rw[ae (be f6),if_pos f6]
  obtain⟨a1,c1,e,h⟩:=done_eq (x:=x) (z:=z) hm0 hm nw b z0 f z2 z3 frm (m/8%8) op (hz (by omega)) hl hp
  rw[e,aa]
  exact⟨a1,c1,rfl,h⟩
 rw[ag (aq f6),if_neg f6]
 by_cases f7:f=7
 ·rw[ae (be f7),if_pos f7,CH,aa,bI7 b hb0 hb]
  dsimp only
  rw[aH]
  by_cases ho:op=29
  ·rw[if_pos ho,be ho]
   exact⟨a,c,rfl,rfl⟩
  ·rw[if_neg ho,aq ho]
   exact⟨a,c,rfl,rfl⟩
 rw[ag (aq f7),if_neg f7]
 by_cases f8:f=8
 ·rw[ae (be f8),if_pos f8,CH,aa,bI7 b hb0 hb]
  dsimp only
  rw[aH,yk (by omega) (by omega) (by omega),aa]
  obtain⟨s1,s8⟩:=sz18 (hz (by omega))
  obtain⟨a2,c2,e2,h2⟩:=fO z (nw,x%16,decide (x≠0),b,z0,f,z2,z3,frm,m/64,m/8%8,m%8,op,z,0,0,da (qr (lc x (b%8+jN x 0) z)) (0,0,0,0,0,0,0,0,())) s1 s8 hl hp
  refine lO (Ret.bnd (Q:=fun y=>y=_) (Ret.of_eq e2 rfl) ?_)
  rintro _ rfl
  exact Ret.some ⟨a2,c2,rfl,h2⟩
 rw[ag (aq f8),if_neg f8]
 by_cases f9:f=9
 ·rw[ae (be f9),if_pos f9]
  obtain⟨a2,c2,e2,h2⟩:=fO 1 (nw,x%16,decide (x≠0),b,z0,f,z2,z3,frm,m/64,m/8%8,m%8,op,z,0,0,0,0,0,0,0,0,0,0,0,0,0,0,0,0,0,()) (by decide) (by decide) hl hp
  rw[e2,aa]
  exact⟨a2,c2,rfl,h2⟩
 rw[ag (aq f9),if_neg f9]
 by_cases f15:f=15
 ·rw[ae (be f15),if_pos f15]
  obtain⟨a2,c2,e2,h2⟩:=kz 1 (nw,x%16,decide (x≠0),b,z0,f,z2,z3,frm,m/64,m/8%8,m%8,op,z,0,0,0,0,0,0,0,0,0,0,0,0,0,0,0,0,0,()) (by decide) (by decide) hl hp
  rw[e2,aa]
  dsimp only
  by_cases ho:op=44
  ·rw[if_pos ho,be ho,bD,ak,aa,ah]
   exact⟨a2,c2,rfl,h2⟩
  ·rw[if_neg ho,aq ho,bS,aE,kY _ _ (by decide) (by decide),aa,aa,ah]
   exact⟨a2,c2,rfl,h2⟩
 rw[ag (aq f15),if_neg f15]
 simp only[sw2,aa,ah]
 by_cases f10:f=10\/f=16
 ·rw[ae (by simpa[eqI]using f10),if_pos f10]
  obtain⟨a2,c2,e2,h2⟩:=fO 4 (nw,x%16,decide (x≠0),b,z0,f,z2,z3,frm,m/64,m/8%8,m%8,op,z,0,0,0,0,0,0,0,0,0,0,0,0,0,0,0,0,0,()) (by decide) (by decide) hl hp
  rw[e2,aa]
  exact⟨a2,c2,rfl,h2⟩
 rw[ag (by simpa[eqI]using f10),if_neg f10]
 by_cases f11:f=11
 ·rw[ae (be f11),if_pos f11]
  obtain⟨a1,c1,e,h⟩:=ji (x:=x) (z:=z) hm0 hm nw b z0 f z2 z3 frm (m/8%8) (op,z,0,0,0,0,0,0,0,0,0,0,0,0,0,0,0,0,0,()) hl hp
  have hin:(aI a1 c1).In t:=by rw[h];exact jT hp
  obtain⟨a2,c2,e2,h2⟩:=kz 1 (nw,x%16,decide (x≠0),b,z0,f,z2,z3,frm,m/64,m/8%8,m%8,op,z,0,0,da (plM t x m z (aI a c)).1 (0,0,0,0,0,0,0,0,())) (by decide) (by decide) hl hin
  rw[e,aa]
  refine lO (Ret.bnd (Q:=fun y=>y=_) (Ret.of_eq e2 rfl) ?_)
  rintro _ rfl
  rw[<-h]
  exact Ret.some ⟨a2,c2,rfl,h2⟩
 rw[ag (aq f11),if_neg f11]
 by_cases f12:f=12
 ·rw[ae (be f12),if_pos f12]
  obtain⟨a1,c1,e,h⟩:=ji (x:=x) (z:=z) hm0 hm nw b z0 f z2 z3 frm (m/8%8) (op,z,0,0,0,0,0,0,0,0,0,0,0,0,0,0,0,0,0,()) hl hp
  rw[e,aa]
  exact⟨a1,c1,rfl,h⟩
 rw[ag (aq f12),if_neg f12]
 by_cases f13:f=13
 ·rw[ae (be f13),if_pos f13]
  obtain⟨a1,c1,e,h⟩:=ji (x:=x) (z:=z) hm0 hm nw b z0 f z2 z3 frm (m/8%8) (op,z,0,0,0,0,0,0,0,0,0,0,0,0,0,0,0,0,0,()) hl hp
  rw[e,aa]
  exact⟨a1,c1,rfl,h⟩
 rw[ag (aq f13),if_neg f13]
 exact⟨a,c,rfl,rfl⟩
end
section
variable {t:List UInt8}{a c x:Int}{w:Bool}
theorem wi (hx:om x):bm ((0,()),(t,a,x,w,c,()),())=some (jN x 0,(t,a,x,w,c,()),()):=zg hx 0 (by decide)
theorem ext_s1 (hx:om x):bm ((1,()),(t,a,x,w,c,()),())=some (jN x 1,(t,a,x,w,c,()),()):=zg hx 1 (by decide)
theorem ext_s2 (hx:om x):bm ((2,()),(t,a,x,w,c,()),())=some (jN x 2,(t,a,x,w,c,()),()):=zg hx 2 (by decide)
theorem oq {z:Int}(hz:fq z)(hl:(t.length:Int)<=1099511627776)(hp:(aI a c).In t):
  ∃a' c',bN ((z,()),(t,a,x,w,c,()),())=some (da (wx (rdS t (gJ 4 z) (aI a c))) (),(t,a',x,w,c',()),())/\aI a' c'=adv t (gJ 4 z) (aI a c):=by
 have e4:gJ z 4=gJ 4 z:=by unfold fq at hz;rcases hz with rfl|rfl|rfl|rfl<;>decide
 obtain⟨a',c',e,h⟩:=gN (x:=x) (w:=w) (gJ 4 z) (n9 hz).1 (n9 hz).2 hl hp
 unfold bN
 dsimp only
 rw[e4,e,aa]
 exact⟨a',c',rfl,h⟩
theorem BJ {b:Int}(h0:0<=b)(h1:b<256):aj .u64 (b/64)=b/64:=cH
theorem BO {md rm:Int}(hx:om x)(hrm:0<=rm/\rm<=7)(hl:(t.length:Int)<=1099511627776)(hp:(aI a c).In t):
  ∃a' c',dS ((md,rm,()),(t,a,x,w,c,()),())=some (da (Ci t x md rm (aI a c)).1 (),(t,a',x,w,c',()),())/\aI a' c'=(Ci t x md rm (aI a c)).2:=by
 obtain⟨e0,e8,ez⟩:=lj (x:=x) (k:=0) (by decide)
 obtain⟨f0,f8,_⟩:=lj (x:=x) (k:=1) (by decide)
 unfold dS Ci
 rw[wi hx,aa]
 dsimp only[d6]
 by_cases h4:rm=4
 ·rw[ae (be h4),if_pos h4]
  obtain⟨a1,c1,hn,hq⟩:=lv (x:=x) (w:=w) hl hp
  have hin:(aI a1 c1).In t:=by rw[hq];exact hp.adv (by decide)
  rw[hn,aa]
  dsimp only
  rw[wi hx,aa,ext_s1 hx,aa]
  dsimp only
  rw[<-hq]
  have hb:=dL t (aI a c) hp
  generalize rdU t 1 (aI a c)=b at hb|-
  rw[dH hb.1,fU hb.1 (by decide) (by omega),fU hb.1 (by decide) (by omega),dH,aH,aH,BJ hb.1 hb.2,xB hb.1 hb.2]
  have hle:leI 0 (b/64)=true:=fu
  refine lO (Ret.bnd (Q:=fun y=>∃a2 c2,y=Sum.inl ((md,()),(t,a2,x,w,c2,()),(0,0,0,0,0,0,0,()),
    (2,0,(if md=0/\b%8=5 then -1 else b%8+jN x 0),(if b/8%8+jN x 1=4 then -1 else b/8%8+jN x 1),(if b/8%8+jN x 1=4 then 1 else 2^(b/64).toNat),(if md=0/\b%8=5 then rdS t 4 (aI a1 c1)else 0),0,()),())/\
    aI a2 c2=if md=0/\b%8=5 then adv t 4 (aI a1 c1)else aI a1 c1) ?_ ?_)
  ·refine Ret.bnd (Q:=fun y=>y=Sum.inl ((md,b,()),(t,a1,x,w,c1,()),(0,0,0,0,0,0,0,()),
    (2,0,b%8+jN x 0,(if b/8%8+jN x 1=4 then -1 else b/8%8+jN x 1),(if b/8%8+jN x 1=4 then 1 else 2^(b/64).toNat),0,0,()),())) ?_ ?_
   ·by_cases hA:b/8%8+jN x 1=4<;>simp[hle,hA,eqI,aP,br,Ret]
   ·rintro _ rfl
    rw[ah]
    dsimp only
    rw[dH hb.1]
    by_cases hC:b%8=5
    ·rw[ae (be hC),aa]
     by_cases hB:md=0
     ·rw[ae (be hB)]
      simp only[if_pos (show md=0/\b%8=5 from⟨hB,hC⟩)]
      obtain⟨a2,c2,hn2,hq2⟩:=gN (x:=x) (w:=w) 4 (by decide) (by decide) hl hin
      rw[hn2,aa,aa,ah]
      exact Ret.some ⟨a2,c2,rfl,hq2⟩
     ·rw[ag (aq hB),aa,ah]
      simp only[if_neg (show ¬(md=0/\b%8=5)from fun g=>hB g.1)]
      exact Ret.some ⟨a1,c1,rfl,rfl⟩
    ·rw[ag (aq hC),aa,ak,aa,ah]
     simp only[if_neg (show ¬(md=0/\b%8=5)from fun g=>hC g.2)]
     exact Ret.some ⟨a1,c1,rfl,rfl⟩
  ·rintro _ ⟨a2,c2,rfl,h2⟩
   rw[ah]
   dsimp only
   by_cases hBC:md=0/\b%8=5
   ·have hd:lF md rm b=4:=by unfold lF;rw[iN,iN,iP]
    rw[if_pos hBC]at h2
    rw[if_pos hBC,if_pos hBC,aq (show md≠1 by omega),ak,aa,ah]
    dsimp only
    rw[aq (show md≠2 by omega),ak,hd]
    exact Ret.some ⟨a2,c2,rfl,h2⟩
   ·rw[if_neg hBC]at h2
    rw[if_neg hBC,if_neg hBC]
    have hin2:(aI a2 c2).In t:=by rw[h2];exact hin
    by_cases m1:md=1
    ·have hd:lF md rm b=1:=by unfold lF;rw[iN,if_pos m1]
     obtain⟨a3,c3,hn3,hq3⟩:=gN (x:=x) (w:=w) 1 (by decide) (by decide) hl hin2
     rw[be m1,aE,hn3,aa,aa,ah]
     dsimp only
     rw[aq (show md≠2 by omega),ak,hd,<-h2]
     exact Ret.some ⟨a3,c3,rfl,hq3⟩
    ·rw[aq m1,ak,aa,ah]
     dsimp only
     by_cases m2:md=2
     ·have hd:lF md rm b=4:=by unfold lF;rw[if_pos m2]
      obtain⟨a3,c3,hn3,hq3⟩:=gN (x:=x) (w:=w) 4 (by decide) (by decide) hl hin2
      rw[be m2,aE,hn3,aa,hd,<-h2]
      exact Ret.some ⟨a3,c3,rfl,hq3⟩
     ·have hd:lF md rm b=0:=by unfold lF;rw[if_neg m2,if_neg m1,iN]
      rw[aq m2,ak,hd]
      exact Ret.some ⟨a2,c2,rfl,h2⟩
 ·rw[ag (aq h4),if_neg h4]
  refine lO (Ret.bnd (Q:=fun y=>∃a2 c2,y=Sum.inl ((md,()),(t,a2,x,w,c2,()),(0,0,0,0,0,0,0,()),
    (2,0,(if rm=5/\md=0 then 16 else rm+jN x 0),-1,1,(if rm=5/\md=0 then rdS t 4 (aI a c)else 0),0,()),())/\
    aI a2 c2=if rm=5/\md=0 then adv t 4 (aI a c)else aI a c) ?_ ?_)
  ·by_cases hR:rm=5/\md=0
   ·rw[ae (be hR.1),aa,be hR.2,aE,if_pos hR,if_pos hR,if_pos hR]
    obtain⟨a2,c2,hn2,hq2⟩:=gN (x:=x) (w:=w) 4 (by decide) (by decide) hl hp
    rw[hn2,aa,aa,ah]
    exact Ret.some ⟨a2,c2,rfl,hq2⟩
   ·rw[if_neg hR,if_neg hR,if_neg hR]
    refine Ret.bnd (Q:=fun y=>y=false) ?_ ?_
    ·by_cases h5:rm=5
     ·rw[ae (be h5)]
      exact Ret.some (aq (fun g=>hR ⟨h5,g⟩))
     ·rw[ag (aq h5)]
      exact Ret.some rfl
    ·rintro _ rfl
     rw[ak,aa,ah,aH]
     exact Ret.some ⟨a,c,rfl,rfl⟩
  ·rintro _ ⟨a2,c2,rfl,h2⟩
   rw[ah]
   dsimp only
   by_cases hR:rm=5/\md=0
   ·rw[if_pos hR]at h2
    rw[if_pos hR,if_pos hR,if_pos hR,aq (show md≠1 by omega),ak,aa,ah]
    dsimp only
    rw[aq (show md≠2 by omega),ak]
    exact Ret.some ⟨a2,c2,rfl,h2⟩
   ·rw[if_neg hR]at h2
    rw[if_neg hR,if_neg hR,if_neg hR]
    have hin2:(aI a2 c2).In t:=by rw[h2];exact hp
    by_cases m1:md=1
    ·have hd:lF md rm 0=1:=by unfold lF;rw[iN,if_pos m1]
     obtain⟨a3,c3,hn3,hq3⟩:=gN (x:=x) (w:=w) 1 (by decide) (by decide) hl hin2
     rw[be m1,aE,hn3,aa,aa,ah]
     dsimp only
     rw[aq (show md≠2 by omega),ak,hd,<-h2]
     exact Ret.some ⟨a3,c3,rfl,hq3⟩
    ·rw[aq m1,ak,aa,ah]
     dsimp only
     by_cases m2:md=2
     ·have hd:lF md rm 0=4:=by unfold lF;rw[if_pos m2]
      obtain⟨a3,c3,hn3,hq3⟩:=gN (x:=x) (w:=w) 4 (by decide) (by decide) hl hin2
      rw[be m2,aE,hn3,aa,hd,<-h2]
      exact Ret.some ⟨a3,c3,rfl,hq3⟩
     ·have hd:lF md rm 0=0:=by unfold lF;rw[if_neg m2,if_neg m1,iN]
      rw[aq m2,ak,hd]
      exact Ret.some ⟨a2,c2,rfl,h2⟩
end
section
variable {t:List UInt8}{a c x:Int}{w:Bool}
theorem sOne_eq (y:Ins)(o:Opd)(h1:y.dst=noD)(h2:y.src=noD):i7 ((y,da o (),()),())=some (if BQ y.op=true then⟨y.op,y.size,y.cond,y.frm,noD,o,y.len⟩else⟨y.op,y.size,y.cond,y.frm,o,noD,y.len⟩,()):=by
 unfold i7
 dsimp only
 simp only[sw1,aa,ah,EH]
 cases hs:BQ y.op with
 |true=>
  rw[aE,aa,qi,if_pos rfl]
  obtain⟨_,_,_,_,d,e,_⟩:=y
  dsimp only at h1 h2
  subst h1 h2;rfl
 |false=>
  rw[ak,aa,ah,iD]
  obtain⟨_,_,_,_,d,e,_⟩:=y
  dsimp only at h1 h2
  subst h1 h2;rfl
theorem EE {m z f frm op cd:Int}(hx:om x)(hm0:0<=m)(hm:m<256)(b:Int)(z0 z2:Int)(z3:Bool)(hf:oH f=true)(hz:(f=5\/f=6)->fq z)(hl:(t.length:Int)<=1099511627776)(hp:(aI a c).In t):
  ∃a' c',ed ((⟨op,z,cd,frm,noD,noD,0⟩,(z0,f,z2,z3,frm,()),m,()),(t,a,x,w,c,()),())=
   some (⟨op,z,cd,frm,(oP t f frm op z x b m (aI a c)).1,(oP t f frm op z x b m (aI a c)).2.1,0⟩,(t,a',x,w,c',()),())/\aI a' c'=(oP t f frm op z x b m (aI a c)).2.2:=by
 obtain⟨e0,e8,ez⟩:=lj (x:=x) (k:=0) (by decide)
 obtain⟨g0,g8,gz⟩:=lj (x:=x) (k:=2) (by decide)
 unfold ed
 dsimp only
 obtain⟨Z,hZ⟩:∃Z,Z=if f=17 then frm else z:=⟨_,rfl⟩
 have hm8:kG .i64 m 8=m/8:=fU hm0 (by decide) (by omega)
 have hm64:kG .i64 m 64=m/64:=fU hm0 (by decide) (by omega)
 have hr8:fv m 8=m%8:=dH hm0
 have hr88:fv (m/8) 8=m/8%8:=dH
 refine lO (Ret.bnd (Q:=fun y=>y=Sum.inl ((m,Z,()),(t,a,x,w,c,()),dX ⟨op,z,cd,frm,noD,noD,0⟩ (),(z0,f,z2,z3,frm,()),(0,0,0,0,0,0,0,0,0,0,0,0,0,0,0,0,0,0,0,()),())) ?_ ?_)
 ·by_cases h17:f=17
  ·rw[ae (be h17)];exact Ret.some (by rw[hZ,if_pos h17])
  ·rw[ag (aq h17)];exact Ret.some (by rw[hZ,if_neg h17])
 ·rintro _ rfl
  rw[ah]
  dsimp only
  rw[ext_s2 hx,aa,hm8,hm64,hr8,hr88]
  dsimp only
  rw[aH,zk (by omega) (by omega),aa]
  refine Ret.bnd (Q:=fun y=>∃a1 c1,y=Sum.inl ((),(t,a1,x,w,c1,()),dX ⟨op,z,cd,frm,noD,noD,0⟩ (),(z0,f,z2,z3,frm,()),(0,0,0,0,0,0,0,0,0,0,0,0,0,0,0,0,0,0,0,()),
   da (qr (lc x (m/8%8+jN x 2) z)) (),da (plM t x m Z (aI a c)).1 (),())/\aI a1 c1=(plM t x m Z (aI a c)).2) ?_ ?_
  ·unfold plM
   by_cases h3:m/64=3
   ·rw[ae (be h3),if_pos h3,wi hx,aa]
    dsimp only
    rw[aH,zk (by omega) (by omega),aa]
    exact Ret.some ⟨a,c,rfl,rfl⟩
   ·rw[ag (aq h3),if_neg h3]
    obtain⟨a1,c1,e,h⟩:=BO (w:=w) (md:=m/64) (rm:=m%8) hx (by omega) hl hp
    rw[e,aa]
    exact Ret.some ⟨a1,c1,rfl,h⟩
  ·rintro _ ⟨a1,c1,rfl,h⟩
   have hin:(aI a1 c1).In t:=by rw[h];exact jT hp
   rw[ah]
   dsimp only[p5,p6,d5]
   unfold oP
   by_cases f1:f=1
   ·rw[ae (be f1),if_pos f1]
    rw[iN]at hZ
    subst hZ
    exact Ret.some ⟨a1,c1,rfl,h⟩
   rw[ag (aq f1),if_neg f1]
   simp only[sw2,aa,ah]
   by_cases f2:f=2
   ·rw[if_pos f2,ae (by simp[eqI,f2])]
    rw[iN]at hZ
    subst hZ
    exact Ret.some ⟨a1,c1,rfl,h⟩
   rw[if_neg f2]
   by_cases f17:f=17
   ·rw[if_pos f17,ae (by simp[eqI,f17])]
    rw[if_pos f17]at hZ
    subst hZ
    exact Ret.some ⟨a1,c1,rfl,h⟩
   rw[if_neg f17,ag (by simp[eqI,f17,f2])]
   rw[if_neg f17]at hZ
   subst hZ
   rw[if_neg (show ¬f=3 by rintro rfl;revert hf;decide)]
   by_cases f4:f=4
   ·rw[if_pos f4,ae (be f4)]
    obtain⟨a2,c2,e2,h2⟩:=oq (x:=x) (w:=w) (z:=1) (.inl rfl) hl hin
    rw[e2,aa,<-h]
    exact Ret.some ⟨a2,c2,rfl,h2⟩
   rw[if_neg f4,ag (aq f4)]
   by_cases f5:f=5
   ·rw[if_pos f5,ae (be f5)]
    obtain⟨a2,c2,e2,h2⟩:=oq (x:=x) (w:=w) (z:=Z) (hz (.inl f5)) hl hin
    refine Ret.bnd (Q:=fun y=>y=_) (Ret.of_eq e2 rfl) ?_
    rintro _ rfl
    rw[<-h]
    exact Ret.some ⟨a2,c2,rfl,h2⟩
   rw[if_neg f5,ag (aq f5)]
   by_cases f11:f=11
   ·rw[ae (be f11),iN,iN,iN,iN,iN,iN,if_pos f11]
    obtain⟨a2,c2,e2,h2⟩:=lv (x:=x) (w:=w) hl hin
    rw[e2,aa,<-h]
    exact Ret.some ⟨a2,c2,rfl,h2⟩
   rw[ag (aq f11)]
   by_cases f12:f=12
   ·rw[ae (be f12),iN,iN,iN,iN,iN,iN,iN,if_pos f12]
    exact Ret.some ⟨a1,c1,rfl,h⟩
   rw[ag (aq f12)]
   by_cases f13:f=13
   ·rw[ae (be f13),iN,iN,iN,iN,iN,iN,iN,iN,if_pos f13]
    exact Ret.some ⟨a1,c1,rfl,h⟩
   rw[ag (aq f13)]
   have f6:f=6:=by
    unfold oH at hf
    have:=of_decide_eq_true hf
    omega
   rw[if_pos f6]
   refine Ret.bnd (Q:=fun y=>y=_) (Ret.of_eq (sOne_eq ⟨op,Z,cd,frm,noD,noD,0⟩ _ rfl rfl) rfl) ?_
   rintro _ rfl
   unfold nF
   dsimp only
   cases hs:BQ op with
   |true=>
    rw[if_pos rfl,if_pos rfl]
    dsimp only
    rw[aq (show op≠10 by rintro rfl;revert hs;decide),ak]
    exact Ret.some ⟨a1,c1,rfl,h⟩
   |false=>
    rw[iD,iD]
    dsimp only
    by_cases h10:op=10
    ·rw[if_pos h10,be h10,aE]
     obtain⟨a2,c2,e2,h2⟩:=oq (x:=x) (w:=w) (z:=Z) (hz (.inr f6)) hl hin
     rw[e2,aa,<-h]
     exact Ret.some ⟨a2,c2,rfl,h2⟩
    ·rw[if_neg h10,aq h10,ak]
     exact Ret.some ⟨a1,c1,rfl,h⟩
theorem EF {m z f frm op cd:Int}(hx:om x){b:Int}(hb0:0<=b)(z0 z2:Int)(z3:Bool)(hf:oH f=false)(hz:(f=3\/f=8)->fq z)(hl:(t.length:Int)<=1099511627776)(hp:(aI a c).In t):
  ∃a' c',ef ((⟨op,z,cd,frm,noD,noD,0⟩,(z0,f,z2,z3,frm,()),b,()),(t,a,x,w,c,()),())=
   some (⟨op,z,cd,frm,(oP t f frm op z x b m (aI a c)).1,(oP t f frm op z x b m (aI a c)).2.1,0⟩,(t,a',x,w,c',()),())/\aI a' c'=(oP t f frm op z x b m (aI a c)).2.2:=by
 obtain⟨e0,e8,ez⟩:=lj (x:=x) (k:=0) (by decide)
 have hM:¬(f=1\/f=2\/f=4\/f=5\/f=6\/f=11\/f=12\/f=13\/f=17):=by unfold oH at hf;exact of_decide_eq_false hf
 have hr8:fv b 8=b%8:=dH hb0
 unfold ef oP
 dsimp only
 rw[if_neg (show ¬f=1 by omega),if_neg (show ¬f=2 by omega),if_neg (show ¬f=17 by omega)]
 by_cases f3:f=3
 ·rw[if_pos f3,ae (be f3)]
  obtain⟨a2,c2,e2,h2⟩:=oq (x:=x) (w:=w) (z:=z) (hz (.inl f3)) hl hp
  rw[e2,aa]
  exact⟨a2,c2,rfl,h2⟩
 rw[if_neg f3,ag (aq f3),if_neg (show ¬f=4 by omega),if_neg (show ¬f=5 by omega),if_neg (show ¬f=6 by omega)]
 by_cases f7:f=7
 ·rw[if_pos f7,ae (be f7),wi hx,aa,hr8]
  dsimp only
  rw[aH]
  by_cases ho:op=29
  ·rw[if_pos ho,be ho];exact⟨a,c,rfl,rfl⟩
  ·rw[if_neg ho,aq ho];exact⟨a,c,rfl,rfl⟩
 rw[if_neg f7,ag (aq f7)]
 by_cases f8:f=8
 ·rw[if_pos f8,ae (be f8),wi hx,aa,hr8]
  dsimp only
  rw[aH,zk (by omega) (by omega),aa]
  obtain⟨s1,s8⟩:=sz18 (hz (.inr f8))
  obtain⟨a2,c2,e2,h2⟩:=gN (x:=x) (w:=w) z s1 s8 hl hp
  rw[e2,aa]
  exact⟨a2,c2,rfl,h2⟩
 rw[if_neg f8,ag (aq f8)]
 by_cases f9:f=9
 ·rw[if_pos f9,ae (be f9)]
  obtain⟨a2,c2,e2,h2⟩:=oq (x:=x) (w:=w) (z:=1) (.inl rfl) hl hp
  rw[e2,aa]
  exact⟨a2,c2,rfl,h2⟩
 rw[if_neg f9,ag (aq f9)]
 simp only[sw2,aa,ah]
 by_cases f10:f=10\/f=16
 ·rw[if_neg (show ¬f=15 by omega),if_pos f10,ae (by simpa[eqI]using f10)]
  obtain⟨a2,c2,e2,h2⟩:=oq (x:=x) (w:=w) (z:=4) (.inr (.inr (.inl rfl))) hl hp
  rw[e2,aa]
  exact⟨a2,c2,rfl,h2⟩
 rw[ag (by simpa[eqI]using f10)]
 by_cases f15:f=15
 ·rw[if_pos f15,ae (be f15)]
  obtain⟨a2,c2,e2,h2⟩:=oq (x:=x) (w:=w) (z:=1) (.inl rfl) hl hp
  rw[e2,aa]
  refine lO ?_
  by_cases ho:op=44
  ·subst ho
   rw[if_pos rfl]
   have hr:=dL t (aI a c) hp
   have hzz:=bw (iF 7 (by decide) (rdU t 1 (aI a c))) 1 rfl
   rw[EU hr.1 hr.2,show((1:Nat):Int)=1 from rfl]at hzz
   refine Ret.mono (Ret.of_eq (x:=(⟨44,z,cd,frm,noD,wx (rdU t 1 (aI a c)),0⟩,(t,a2,x,w,c2,()),())) ?_ rfl) (fun y hy=>⟨a2,c2,hy.symm,h2⟩)
   show bnd (an ((sx 7 (rdU t 1 (aI a c)),1,()),())) _=_
   rw[hzz,aa]
   rfl
  ·rw[if_neg ho]
   refine Ret.mono (Ret.of_eq (x:=(⟨op,z,cd,frm,noD,wx (rdS t 1 (aI a c)),0⟩,(t,a2,x,w,c2,()),())) ?_ rfl) (fun y hy=>⟨a2,c2,hy.symm,h2⟩)
   show br (eqI op 44) _ _=_
   rw[aq ho]
   rfl
 rw[if_neg f15,ag (aq f15),if_neg f10,if_neg (show ¬f=11 by omega),if_neg (show ¬f=12 by omega),if_neg (show ¬f=13 by omega)]
 exact⟨a,c,rfl,rfl⟩
end
def pkB (t:List UInt8)(p:Pos):Int:=match p with
 | .ok a=>if a<t.length then eH t a else -1
 | .error _=> -1
def wdM (t:List UInt8)(p:Pos):Bool:=decide (pkB t p=102)
def p1M (t:List UInt8)(p:Pos):Pos:=if wdM t p=true then adv t 1 p else p
def p2M (t:List UInt8)(p:Pos):Pos:=exb (p1M t p) fun a=>if pkB t (p1M t p)∈qI then .error 10 else .ok a
def hxM (t:List UInt8)(p:Pos):Bool:=decide (64<=pkB t (p2M t p)/\pkB t (p2M t p)<=79)
def xM (t:List UInt8)(p:Pos):Int:=if hxM t p=true then pkB t (p2M t p)else 0
def p3M (t:List UInt8)(p:Pos):Pos:=if hxM t p=true then adv t 1 (p2M t p)else p2M t p
def vM (t:List UInt8)(p:Pos):Bool:=decide (rdU t 1 (p3M t p)=15)
def p5M (t:List UInt8)(p:Pos):Pos:=if vM t p=true then adv t 1 (adv t 1 (p3M t p))else adv t 1 (p3M t p)
def bM (t:List UInt8)(p:Pos):Int:=if vM t p=true then rdU t 1 (adv t 1 (p3M t p))else rdU t 1 (p3M t p)
def zM (t:List UInt8)(p:Pos):Shz:=shz (vM t p) (bM t p).toNat
def p6M (t:List UInt8)(p:Pos):Pos:=exb (p5M t p) fun a=>if(zM t p).2.1=0 then .error 11 else .ok a
theorem Hh (t:List UInt8)(p:Pos):om (xM t p):=by
 unfold xM om
 split
 ·rename_i h
  unfold hxM at h
  exact .inr (of_decide_eq_true h)
 ·exact .inl rfl
theorem zU {t:List UInt8}{p:Pos}{q:Int->Prop}[DecidablePred q]{k:Int}(h:p.In t):Pos.In (exb p fun a=>if q a then .error k else .ok a) t:=by
 intro a ha
 cases p with
 |error c=>cases ha
 |ok b=>
  unfold exb at ha
  dsimp only at ha
  split at ha
  ·cases ha
  ·exact h a (by cases ha;rfl)
theorem Aq {t:List UInt8}{p:Pos}(h:p.In t):(p1M t p).In t:=by unfold p1M;split;exact h.adv (by decide);exact h
theorem qe {t:List UInt8}{p:Pos}(h:p.In t):(p2M t p).In t:=zU (q:=fun _=>pkB t (p1M t p)∈qI) (Aq h)
theorem Ar {t:List UInt8}{p:Pos}(h:p.In t):(p3M t p).In t:=by unfold p3M;split;exact(qe h).adv (by decide);exact qe h
theorem xd {t:List UInt8}{p:Pos}(h:p.In t):(adv t 1 (p3M t p)).In t:=(Ar h).adv (by decide)
theorem p5M_in {t:List UInt8}{p:Pos}(h:p.In t):(p5M t p).In t:=by unfold p5M;split;exact(xd h).adv (by decide);exact xd h
theorem xe {t:List UInt8}{p:Pos}(h:p.In t):(p6M t p).In t:=zU (q:=fun _=>(zM t p).2.1=0) (p5M_in h)
theorem lg {t:List UInt8}{p:Pos}(h:p.In t):0<=bM t p/\bM t p<256:=by
 unfold bM;split
 ·exact dL t _ (xd h)
 ·exact dL t _ (Ar h)
theorem At {t:List UInt8}{p:Pos}(hp:p.In t)(h:0<=pkB t p):rdU t 1 p=pkB t p/\∃a,p= .ok a/\a+1<=t.length/\adv t 1 p= .ok (a+1):=by
 cases p with
 |error _=>unfold pkB at h;dsimp only at h;omega
 |ok a=>
  obtain⟨h0,h1⟩:=hp a rfl
  unfold pkB at h|-
  unfold rdU adv exb
  dsimp only at h|-
  by_cases hl:a<t.length
  ·rw[if_pos hl,iP,iP,DS h0 hl]
   exact⟨rfl,a,rfl,by omega,rfl⟩
  ·rw[if_neg hl]at h;omega
section
variable {t:List UInt8}{a c:Int}
theorem uu {lo hi:Int}(r:_)(h0:0<=lo)(hp:(aI a c).In t):ce ((lo,hi,()),(t,a,c,r),())=some (decide (lo<=pkB t (aI a c)/\pkB t (aI a c)<=hi),(t,a,c,r),()):=by
 unfold ce
 dsimp only
 by_cases hc:c=0
 ·subst hc
  obtain⟨p0,p1⟩:=hp a dx
  rw[dx,ae (be rfl)]
  by_cases hl:a<t.length
  ·have hpk:pkB t (.ok a)=eH t a:=if_pos hl
   rw[ae (fP (by rw[bb];exact hl)),ae (cI p0 (by rw[bb];exact hl)),hpk,xL (by have:=lh t a;omega) (by have:=lh t a;omega),bE,aa]
  ·have hpk:pkB t (.ok a)= -1:=if_neg hl
   rw[ag (fL (by rw[bb];exact hl)),hpk,dF]
 ·have hpk:pkB t (.error c)= -1:=rfl
  rw[ag (aq hc),cT hc,hpk,dF]
theorem wa (r:_)(hp:(aI a c).In t):cJ ((),(t,a,c,r),())=some (decide (pkB t (aI a c)∈qI),(t,a,c,r),()):=by
 unfold cJ
 dsimp only
 refine(eD (fun y=>∃i:Nat,i<=11/\y=((11,(i:Int),()),(t,a,c,r),qI,())) (fun y=>11-y.1.2.1.toNat) (fun y=>some (decide (pkB t (aI a c)∈qI.drop y.1.2.1.toNat),(t,a,c,r),())) ?_ F _ ⟨0,by omega,rfl⟩ (by unfold F;dsimp only;omega)).trans rfl
 rintro _ rec ⟨i,hi,rfl⟩ hrec
 dsimp only
 by_cases h:i<11
 ·have hL:i<qI.length:=h
  rw[ae (fP),ae (cI (by omega) (by rw[bb];omega)),fp hL]
  have hnn:0<=qI[i]:=by
   have:∀y∈qI,(0:Int)<=y:=by decide
   exact this _ (List.getElem_mem hL)
  rw[uu r hnn hp,aa]
  dsimp only
  rw[Int.toNat_natCast,List.drop_eq_getElem_cons hL]
  by_cases e:pkB t (aI a c)=qI[i]
  ·rw[ae (dT),decide_eq_true (by rw[e];exact List.mem_cons_self)]
  ·rw[ag (dF),aH,hrec ((11,(i:Int)+1,()),(t,a,c,r),qI,()) ⟨i+1,by omega,rfl⟩ (by dsimp only;omega)]
   dsimp only
   rw[show((i:Int)+1).toNat=i+1 by omega]
   have hm:∀l:List Int,(pkB t (aI a c)∈qI[i]::l)=(pkB t (aI a c)∈l):=fun l=>by rw[List.mem_cons,eq_false e,false_or]
   simp only[hm]
 ·have:i=11:=by omega
  subst this
  rw[ag (fL)]
  simp[qI]
theorem we (r:_)(hl:(t.length:Int)<=1099511627776)(hp:(aI a c).In t):
  ∃a' c',cM ((),(t,a,c,false,0,false,r),())=some ((),(t,a',c',wdM t (aI a c),xM t (aI a c)%16,decide (xM t (aI a c)≠0),r),())/\aI a' c'=p3M t (aI a c):=by
 unfold cM
 dsimp only
 rw[uu _ (by decide) hp,aa]
 dsimp only
 refine lO (Ret.bnd (Q:=fun y=>∃a1 c1,y=Sum.inl ((),(t,a1,c1,wdM t (aI a c),0,false,r),())/\aI a1 c1=p1M t (aI a c)) ?_ ?_)
 ·unfold p1M wdM
  by_cases h:pkB t (aI a c)=102
  ·rw[decide_eq_true (show 102<=pkB t (aI a c)/\pkB t (aI a c)<=102 by omega),aE,decide_eq_true h,if_pos rfl]
   obtain⟨a1,c1,e,h1⟩:=kz 1 (true,0,false,r) (by decide) (by decide) hl hp
   rw[e,aa]
   exact Ret.some ⟨a1,c1,rfl,h1⟩
  ·rw[decide_eq_false (show ¬(102<=pkB t (aI a c)/\pkB t (aI a c)<=102)by omega),ak,decide_eq_false h,iD]
   exact Ret.some ⟨a,c,rfl,rfl⟩
 ·rintro _ ⟨a1,c1,rfl,h1⟩
  have hin1:(aI a1 c1).In t:=by rw[h1];exact Aq hp
  rw[ah]
  dsimp only[d6]
  rw[wa _ hin1,aa]
  dsimp only
  rw[iv,aa]
  dsimp only
  have h2:aI a1 (if decide (pkB t (aI a1 c1)∈qI)=true/\c1=0 then 10 else c1)=p2M t (aI a c):=by
   rw[Fh (by decide)]
   unfold p2M
   rw[<-h1]
   simp only[decide_eq_true_eq]
  generalize (if decide (pkB t (aI a1 c1)∈qI)=true/\c1=0 then(10:Int)else c1)=c2 at h2|-
  have hin2:(aI a1 c2).In t:=by rw[h2];exact qe hp
  rw[uu _ (by decide) hin2,aa]
  dsimp only
  rw[h2]
  unfold p3M xM hxM
  by_cases h:64<=pkB t (p2M t (aI a c))/\pkB t (p2M t (aI a c))<=79
  ·rw[decide_eq_true h,aE,if_pos rfl,if_pos rfl]
   obtain⟨a3,c3,e,h3⟩:=kz 1 (wdM t (aI a c),0,true,r) (by decide) (by decide) hl hin2
   have hrd:=(At hin2 (by rw[h2];omega)).1
   rw[e,aa,hrd,h2,decide_eq_true (show pkB t (p2M t (aI a c))≠0 by omega)]
   dsimp only
   rw[(bI (show 0<=pkB t (p2M t (aI a c))by omega) (by omega)).2.2.2]
   exact Ret.some ⟨a3,c3,rfl,by rw[h3,h2]⟩
  ·rw[decide_eq_false h,ak,iD,iD]
   exact Ret.some ⟨a1,c2,rfl,h2⟩
end
def yz (z:Shz):Bool:=decide (0<z.2.2.1)
def mM (t:List UInt8)(p:Pos):Int:=if oH (zM t p).2.1=true then rdU t 1 (p6M t p)else 0
def p7M (t:List UInt8)(p:Pos):Pos:=if oH (zM t p).2.1=true then adv t 1 (p6M t p)else p6M t p
def opM (t:List UInt8)(p:Pos):Int:=if yz (zM t p)=true then grp (zM t p).2.2.1.toNat (mM t p/8%8).toNat else(zM t p).1
def p8M (t:List UInt8)(p:Pos):Pos:=exb (p7M t p) fun a=>if yz (zM t p)=true/\opM t p=0 then .error 11 else .ok a
def zsM (t:List UInt8)(p:Pos):Int:=szM (zM t p).2.2.2.1 (opM t p) (wdM t p) (xM t p)
def qx (w by':Bool)(frm op z m:Int):Int:=
 if(w=true/\(cR op=true\/eK op=true\/by'=true))\/(frm=4/\z≠8)\/((frm=1\/frm=2)/\z<=frm)then 10 else if op=25/\m/64=3 then 12 else 0
def p9M (t:List UInt8)(p:Pos):Pos:=exb (p8M t p) fun a=>if qx (wdM t p) (zM t p).2.2.2.1 (zM t p).2.2.2.2.1 (opM t p) (zsM t p) (mM t p)≠0 then .error (qx (wdM t p) (zM t p).2.2.2.1 (zM t p).2.2.2.2.1 (opM t p) (zsM t p) (mM t p))else .ok a
def oM (t:List UInt8)(p:Pos):Opd×Opd×Pos:=oP t (zM t p).2.1 (zM t p).2.2.2.2.1 (opM t p) (zsM t p) (xM t p) (bM t p) (mM t p) (p9M t p)
def cdM (t:List UInt8)(p:Pos):Int:=if opM t p=33\/opM t p=35\/opM t p=36 then bM t p%16 else 0
def nY (t:List UInt8)(at0:Int):Ins×Int:=match(oM t (.ok at0)).2.2 with
 | .ok a=>(⟨opM t (.ok at0),zsM t (.ok at0),cdM t (.ok at0),(zM t (.ok at0)).2.2.2.2.1,(oM t (.ok at0)).1,(oM t (.ok at0)).2.1,a-at0⟩,0)
 | .error c=>(uq,c)
theorem sB {t:List UInt8}{p:Pos}(h:p.In t):shP (zM t p)=true:=Hm _ (by have:=lg h;omega)
theorem mg {t:List UInt8}{p:Pos}(h:p.In t):0<=mM t p/\mM t p<256:=by
 unfold mM;split
 ·exact dL t _ (xe h)
 ·omega
theorem xc {t:List UInt8}{p:Pos}(h:p.In t):0<=opM t p/\opM t p<=44:=by
 have hz:=of_decide_eq_true (sB h)
 have hm:=mg h
 unfold opM;split
 ·exact Di _ (by omega) _ (by omega)
 ·exact⟨hz.1,hz.2.1⟩
section
variable {t:List UInt8}{a c:Int}
theorem mS {a c a':Int}(h:aI a c= .ok a'):a=a'/\c=0:=by
 unfold aI at h
 by_cases hc:c=0
 ·rw[if_pos hc]at h;cases h;exact⟨rfl,hc⟩
 ·rw[if_neg hc]at h;cases h
theorem mR {a c k:Int}(h:aI a c= .error k):c=k/\c≠0:=by
 unfold aI at h
 by_cases hc:c=0
 ·rw[if_pos hc]at h;cases h
 ·rw[if_neg hc]at h;cases h;exact⟨rfl,hc⟩
theorem rd_ok {p:Pos}{n:Int}(h:rdU t n p≠0):∃b,adv t n p= .ok b:=by
 unfold rdU at h
 unfold adv exb
 cases p with
 |error _=>exact absurd rfl h
 |ok b=>
  dsimp only at h|-
  by_cases hl:b+n<=t.length
  ·rw[if_pos hl];exact⟨_,rfl⟩
  ·rw[if_neg hl]at h;exact absurd rfl h
theorem ut (q:Pos)(nw:Bool)(rx:Int)(hr:Bool)(r:_)(hl:(t.length:Int)<=1099511627776)(hq:q.In t)(hp:aI a c=p3M t q):
  Ret (cE ((),(t,a,c,nw,rx,hr,0,0,0,0,false,0,0,0,0,0,r),())) fun y=>
   aI y.2.1.2.1 y.2.1.2.2.1=p6M t q/\∀e,p6M t q= .ok e->y=((),(t,e,0,nw,rx,hr,bM t q,(zM t q).1,(zM t q).2.1,(zM t q).2.2.1,(zM t q).2.2.2.1,(zM t q).2.2.2.2.1,0,0,0,(zM t q).1,r),()):=by
 have hin:(aI a c).In t:=by rw[hp];exact Ar hq
 unfold cE
 dsimp only[p5,p6,d7]
 obtain⟨a1,c1,e1,h1⟩:=kz 1 (nw,rx,hr,0,0,0,0,false,0,0,0,0,0,r) (by decide) (by decide) hl hin
 rw[e1,aa]
 dsimp only
 rw[hp]at h1|-
 have hin1:(aI a1 c1).In t:=by rw[h1];exact xd hq
 have hx3:(br (eqI (rdU t 1 (p3M t q)) 15) (some (eqI c1 0)) (some false))=some (vM t q):=by
  unfold vM
  by_cases h:rdU t 1 (p3M t q)=15
  ·obtain⟨b,hb⟩:=rd_ok (t:=t) (p:=p3M t q) (n:=1) (by omega)
   have hc:c1=0:=(mS (h1.trans hb)).2
   rw[ae (be h),be hc,decide_eq_true h]
  ·rw[ag (aq h),decide_eq_false h]
 rw[hx3,aa]
 refine Ret.bnd (Q:=fun y=>∃a2 c2,y=Sum.inl ((vM t q,()),(t,a2,c2,nw,rx,hr,bM t q,0,0,0,false,0,0,0,0,0,r),())/\aI a2 c2=p5M t q) ?_ ?_
 ·unfold p5M bM
  cases hs:vM t q with
  |true=>
   obtain⟨a2,c2,e2,h2⟩:=kz 1 (nw,rx,hr,rdU t 1 (p3M t q),0,0,0,false,0,0,0,0,0,r) (by decide) (by decide) hl hin1
   rw[aE,e2,aa,if_pos rfl,if_pos rfl,h1]
   exact Ret.some ⟨a2,c2,rfl,by rw[h2,h1]⟩
  |false=>
   rw[ak,iD,iD]
   exact Ret.some ⟨a1,c1,rfl,h1⟩
 ·rintro _ ⟨a2,c2,rfl,h2⟩
  rw[ah]
  dsimp only[p6,p5,p12,p13,p14,d16]
  by_cases hc:c2=0
  ·subst hc
   have hbr:=lg hq
   have hS:=AP (vM t q) (show(bM t q).toNat<256 by omega)
   rw[Int.toNat_of_nonneg hbr.1]at hS
   rw[show aP (eqI 0 0)=false from rfl,ak,hS,aa]
   dsimp only[shR]
   rw[iv,aa]
   have h6:p6M t q=if(zM t q).2.1=0 then .error 11 else .ok a2:=by
    unfold p6M;rw[<-h2];rfl
   show Ret (some _) _
   refine Ret.some ?_
   dsimp only
   change aI a2 (if aP (eqI (if(zM t q).2.1=0 then 11 else 0) 0)=true/\(0:Int)=0 then(if(zM t q).2.1=0 then 11 else 0)else 0)=p6M t q/\_
   rw[h6]
   by_cases hz:(zM t q).2.1=0
   ·simp only[if_pos hz]
    exact⟨rfl,fun e he=>by cases he⟩
   ·simp only[if_neg hz]
    refine⟨rfl,fun e he=>?_⟩
    cases he
    have hz':¬(shz (vM t q) (bM t q).toNat).2.1=0:=hz
    simp only[if_neg hz']
    rfl
  ·rw[aq hc,bS,aE]
   refine Ret.some ?_
   dsimp only
   have h6:p6M t q= .error c2:=by unfold p6M;rw[<-h2,cT hc];rfl
   rw[h6,cT hc]
   exact⟨rfl,fun e he=>by cases he⟩
end
section
variable {t:List UInt8}{a c:Int}
theorem wl {op:Int}(h:0<=op/\op<=44):fA ((op,()),())=some ((if cR op=true then(8,true,())else if eK op=true then(0,true,())else(0,false,())),()):=by
 obtain⟨n,rfl⟩:=Int.eq_ofNat_of_zero_le h.1
 exact Bb n (by omega)
theorem yA {f:Int}(h:0<=f/\f<18):fY ((f,()),())=some (oH f,()):=by
 obtain⟨n,rfl⟩:=Int.eq_ofNat_of_zero_le h.1
 exact Dl n (by omega)
theorem CO (q:Pos)(e:Int)(nw:Bool)(rx:Int)(hr:Bool)(r:_)(hl:(t.length:Int)<=1099511627776)(hq:q.In t)(hp:p6M t q= .ok e):
  Ret (dC ((),(t,e,0,nw,rx,hr,bM t q,(zM t q).1,(zM t q).2.1,(zM t q).2.2.1,(zM t q).2.2.2.1,(zM t q).2.2.2.2.1,0,0,0,(zM t q).1,r),())) fun y=>
   aI y.2.1.2.1 y.2.1.2.2.1=p8M t q/\∀e,p8M t q= .ok e->y=((),(t,e,0,nw,rx,hr,bM t q,(zM t q).1,(zM t q).2.1,(zM t q).2.2.1,(zM t q).2.2.2.1,(zM t q).2.2.2.2.1,mM t q/64,mM t q/8%8,mM t q%8,opM t q,r),()):=by
 have hin:(aI e 0).In t:=by rw[dx,<-hp];exact xe hq
 have hz:=of_decide_eq_true (sB hq)
 have hm:=mg hq
 unfold dC
 dsimp only[p8,p9,d15,d16]
 rw[yA ⟨hz.2.2.1,hz.2.2.2.1⟩]
 rw[show aP (eqI 0 0)=false from rfl,ak,aa,aa]
 cases hM:oH (zM t q).2.1 with
 |false=>
  rw[bS,aE]
  have hg:yz (zM t q)=false:=decide_eq_false fun g=>by
   have:=(hz.2.2.2.2.2.2.2.2.1 g).1
   rw[hM]at this;cases this
  have e1:mM t q=0:=by unfold mM;rw[hM,iD]
  have e2:opM t q=(zM t q).1:=by unfold opM;rw[hg,iD]
  have e3:p8M t q= .ok e:=by unfold p8M p7M;rw[hM,hg,iD,hp];simp[exb]
  refine Ret.some ⟨?_,fun e' he=>?_⟩
  ·rw[e3];rfl
  ·rw[e3]at he;cases he
   rw[e1,e2]
   rfl
 |true=>
  obtain⟨a1,c1,ee,h1⟩:=kz 1 (nw,rx,hr,bM t q,(zM t q).1,(zM t q).2.1,(zM t q).2.2.1,(zM t q).2.2.2.1,(zM t q).2.2.2.2.1,0,0,0,(zM t q).1,r) (by decide) (by decide) hl hin
  have e1:mM t q=rdU t 1 (aI e 0):=by unfold mM;rw[hM,if_pos rfl,hp];rfl
  have e7:p7M t q=aI a1 c1:=by unfold p7M;rw[hM,if_pos rfl,hp,h1];rfl
  rw[bD,ak,ee,<-e1,aa]
  dsimp only
  obtain⟨b6,b3,b0,_⟩:=bI hm.1 hm.2
  rw[b6,b3,b0]
  by_cases hg:0<(zM t q).2.2.1
  ·have hgB:yz (zM t q)=true:=decide_eq_true hg
   rw[ae (fP hg),aa]
   have e8:p8M t q=exb (aI a1 c1) fun a=>if opM t q=0 then .error 11 else .ok a:=by
    unfold p8M;rw[e7,hgB];simp only[true_and]
   by_cases hc:c1=0
   ·subst hc
    have hgo:=AM (g:=(zM t q).2.2.1.toNat) (d:=(mM t q/8%8).toNat) (by omega) (by omega) (by omega)
    rw[Int.toNat_of_nonneg (by omega),Int.toNat_of_nonneg (by omega)]at hgo
    have eo:grp (zM t q).2.2.1.toNat (mM t q/8%8).toNat=opM t q:=by unfold opM;rw[hgB,if_pos rfl]
    rw[eo]at hgo
    rw[be rfl,aE,hgo,aa]
    dsimp only[gpR]
    rw[iv,aa]
    refine Ret.some ?_
    rw[dx]at e8
    unfold exb at e8
    dsimp only at e8|-
    rw[e8]
    by_cases ho:opM t q=0
    ·simp only[if_pos ho]
     exact⟨rfl,fun e he=>by cases he⟩
    ·simp only[if_neg ho]
     refine⟨rfl,fun e he=>?_⟩
     cases he
     rfl
   ·rw[aq hc,ak]
    refine Ret.some ?_
    rw[cT hc]at e8
    unfold exb at e8
    dsimp only at e8|-
    rw[e8,cT hc]
    exact⟨rfl,fun e he=>by cases he⟩
  ·have hgB:yz (zM t q)=false:=decide_eq_false hg
   have e2:opM t q=(zM t q).1:=by unfold opM;rw[hgB,iD]
   have e8:p8M t q=aI a1 c1:=by
    unfold p8M;rw[e7,hgB]
    cases aI a1 c1<;>simp[exb]
   rw[ag (fL hg),aa,ak]
   refine Ret.some ?_
   dsimp only
   rw[e8]
   refine⟨rfl,fun e he=>?_⟩
   obtain⟨rfl,rfl⟩:=mS he
   rw[e2]
theorem ext3 (x:Int):aP (eqI (jN x 3) 0)=decide (x/8%2=1):=by
 rw[Bool.eq_iff_iff,GI,eq_nf,decide_eq_true_eq]
 unfold jN
 rw[show(2:Int)^3=8 from rfl]
 omega
theorem FZ {x m z1 f g frm op b:Int}{nw by':Bool}{zz rg rm:Int}{e:Int}(r:_)(ho:0<=op/\op<=44)(hsz:zz=szM by' op nw x):
  ∃c',dP ((),(t,e,0,nw,x%16,decide (x≠0),b,z1,f,g,by',frm,m/64,rg,rm,op,0,r),())=
   some ((),(t,e,c',nw,x%16,decide (x≠0),b,z1,f,g,by',frm,m/64,rg,rm,op,zz,r),())/\c'=qx nw by' frm op zz m:=by
 unfold dP
 dsimp only[p15,p10,d17,sZ]
 rw[wl ho,aa]
 have fin:∀o:Option _,Ret o (fun y=>∃c',y=((),(t,e,c',nw,x%16,decide (x≠0),b,z1,f,g,by',frm,m/64,rg,rm,op,zz,r),())/\c'=qx nw by' frm op zz m)->∃c',o=some ((),(t,e,c',nw,x%16,decide (x≠0),b,z1,f,g,by',frm,m/64,rg,rm,op,zz,r),())/\c'=qx nw by' frm op zz m:=by
  rintro o ⟨y,e,c',rfl,h⟩
  exact⟨c',e,h⟩
 refine fin _ (Ret.bnd (Q:=fun y=>y=Sum.inl ((cR op||eK op,()),(t,e,0,nw,x%16,decide (x≠0),b,z1,f,g,by',frm,m/64,rg,rm,op,zz,r),())) ?_ ?_)
 ·unfold szM at hsz
  cases h8:cR op with
  |true=>
   rw[h8,if_pos rfl]at hsz
   rw[if_pos rfl,hsz]
   exact Ret.some rfl
  |false=>
   rw[h8,iD]at hsz
   rw[iD]
   cases h0:eK op with
   |true=>
    rw[h0,if_pos rfl]at hsz
    rw[if_pos rfl,hsz]
    exact Ret.some rfl
   |false=>
    rw[h0,iD]at hsz
    rw[iD]
    dsimp only
    rw[ak]
    cases hb:by' with
    |true=>
     rw[hb,if_pos rfl]at hsz
     rw[aE,aa,ah,hsz]
     exact Ret.some rfl
    |false=>
     rw[hb,iD]at hsz
     rw[ak,dbit3,aa]
     dsimp only
     rw[ext3]
     by_cases h3:x/8%2=1
     ·rw[if_pos h3]at hsz
      rw[decide_eq_true h3,aE,aa,ah,aa,ah,hsz]
      exact Ret.some rfl
     ·rw[if_neg h3]at hsz
      rw[decide_eq_false h3,ak]
      cases hw:nw with
      |true=>
       rw[hw,if_pos rfl]at hsz
       rw[aE,aa,ah,aa,ah,aa,ah,hsz]
       exact Ret.some rfl
      |false=>
       rw[hw,iD]at hsz
       rw[ak,aa,ah,aa,ah,aa,ah,hsz]
       exact Ret.some rfl
 ·rintro _ rfl
  rw[ah]
  dsimp only[p10,p11,p16,p15,p12]
  have h13:(br nw (bnd (br (cR op||eK op) (some true) (some by')) fun x12=>some x12) (some false))=some (nw&&(cR op||eK op||by')):=by
   cases nw<;>cases cR op<;>cases eK op<;>cases by'<;>rfl
  rw[h13,aa,iv,aa]
  dsimp only
  have h15:(br (eqI frm 4) (some (aP (eqI zz 8))) (some false))=some (eqI frm 4&&aP (eqI zz 8)):=by cases eqI frm 4<;>rfl
  rw[h15,aa,iv,aa]
  dsimp only
  rw[bE,aa]
  dsimp only
  have h19:(br (eqI op 25) (some (eqI (m/64) 3)) (some false))=some (eqI op 25&&eqI (m/64) 3):=by cases eqI op 25<;>rfl
  refine Ret.mono (Q:=fun y=>y=((),(t,e,qx nw by' frm op zz m,nw,x%16,decide (x≠0),b,z1,f,g,by',frm,m/64,rg,rm,op,zz,r),())) ?_ (fun y hy=>⟨_,hy,rfl⟩)
  have step:∀u:Bool,(u=true↔(frm=1\/frm=2)/\zz<=frm)->
    (if(eqI op 25&&eqI (m/64) 3)=true/\(if u=true/\(if(eqI frm 4&&aP (eqI zz 8))=true/\(if(nw&&(cR op||eK op||by'))=true/\(0:Int)=0 then(10:Int)else 0)=0 then(10:Int)else(if(nw&&(cR op||eK op||by'))=true/\(0:Int)=0 then(10:Int)else 0))=0 then(10:Int)else(if(eqI frm 4&&aP (eqI zz 8))=true/\(if(nw&&(cR op||eK op||by'))=true/\(0:Int)=0 then(10:Int)else 0)=0 then(10:Int)else(if(nw&&(cR op||eK op||by'))=true/\(0:Int)=0 then(10:Int)else 0)))=0 then(12:Int)else
     (if u=true/\(if(eqI frm 4&&aP (eqI zz 8))=true/\(if(nw&&(cR op||eK op||by'))=true/\(0:Int)=0 then(10:Int)else 0)=0 then(10:Int)else(if(nw&&(cR op||eK op||by'))=true/\(0:Int)=0 then(10:Int)else 0))=0 then(10:Int)else(if(eqI frm 4&&aP (eqI zz 8))=true/\(if(nw&&(cR op||eK op||by'))=true/\(0:Int)=0 then(10:Int)else 0)=0 then(10:Int)else(if(nw&&(cR op||eK op||by'))=true/\(0:Int)=0 then(10:Int)else 0))))=qx nw by' frm op zz m:=fun u hu=>by
   have e1:(eqI op 25&&eqI (m/64) 3)=true↔op=25/\m/64=3:=by simp[eqI]
   have e2:(eqI frm 4&&aP (eqI zz 8))=true↔frm=4/\zz≠8:=by simp[eqI,aP]
   have e3:(nw&&(cR op||eK op||by'))=true↔(nw=true/\(cR op=true\/eK op=true\/by'=true)):=by simp[or_assoc]
   unfold qx
   simp only[hu,e1,e2,e3,and_true]
   by_cases p:(nw=true/\(cR op=true\/eK op=true\/by'=true))
   ·simp[p]
   ·simp only[p,if_false,and_true,false_or]
    by_cases p2:frm=4/\zz≠8
    ·simp[p2]
    ·simp only[p2,if_false,and_true,false_or]
     by_cases p3:(frm=1\/frm=2)/\zz<=frm
     ·simp[p3]
     ·simp only[p3,if_false,and_true]
  by_cases hfr:frm=1\/frm=2
  ·have hd:decide (1<=frm/\frm<=2)=true:=dT
   rw[hd,aE,iv,aa]
   dsimp only
   rw[h19,aa,iv,aa]
   dsimp only
   have hs:=step (leI zz frm) (by rw[H2];exact⟨fun h=>⟨hfr,h⟩,fun h=>h.2⟩)
   exact Ret.some (by rw[hs])
  ·have hd:decide (1<=frm/\frm<=2)=false:=dF
   rw[hd,ak,iv,aa]
   dsimp only
   rw[h19,aa,iv,aa]
   dsimp only
   have hs:=step false ⟨fun h=>(by cases h),fun h=>absurd h.1 hfr⟩
   exact Ret.some (by rw[hs])
end
section
variable {t:List UInt8}
theorem p7M_in {q:Pos}(h:q.In t):(p7M t q).In t:=by unfold p7M;split;exact(xe h).adv (by decide);exact xe h
theorem p8M_in {q:Pos}(h:q.In t):(p8M t q).In t:=zU (q:=fun _=>yz (zM t q)=true/\opM t q=0) (p7M_in h)
theorem tT {q:Pos}(h:q.In t):(p9M t q).In t:=zU (q:=fun _=>qx (wdM t q) (zM t q).2.2.2.1 (zM t q).2.2.2.2.1 (opM t q) (zsM t q) (mM t q)≠0) (p8M_in h)
theorem EW (by' w:Bool)(op x:Int):(eK op=false->fq (szM by' op w x))/\(eK op=true->szM by' op w x=0):=by
 unfold szM fq
 cases h8:cR op<;>cases h0:eK op<;>cases by'<;>cases w<;>by_cases h3:x/8%2=1<;>simp[h3]
 all_goals
  unfold cR at h8
  unfold eK at h0
  have:=of_decide_eq_true h8
  have:=of_decide_eq_true h0
  omega
def needF (sec:Bool)(n:Nat):Bool:=decide (((shz sec n).2.1=3\/(shz sec n).2.1=5\/(shz sec n).2.1=6\/(shz sec n).2.1=8)->((shz sec n).2.2.1=0->eK (shz sec n).1=false)/\∀d:Nat,d<8->eK (grp (shz sec n).2.2.1.toNat d)=false)
theorem needF_F:∀n:Nat,n<256->needF false n=true:=by decide +kernel
theorem needF_T:∀n:Nat,n<256->needF true n=true:=by decide +kernel
theorem DZ (sec:Bool){n:Nat}(h:n<256):needF sec n=true:=by
 cases sec
 ·exact needF_F n h
 ·exact needF_T n h
theorem ov {q:Pos}(h:q.In t)(hf:(zM t q).2.1=3\/(zM t q).2.1=5\/(zM t q).2.1=6\/(zM t q).2.1=8):fq (zsM t q):=by
 have hb:=lg h
 have hm:=mg h
 have hn:=of_decide_eq_true (DZ (vM t q) (show(bM t q).toNat<256 by omega)) hf
 refine(EW _ _ _ _).1 ?_
 unfold opM
 cases hg:yz (zM t q)with
 |true=>rw[if_pos rfl];exact hn.2 _ (by omega)
 |false=>
  rw[iD]
  have hz:=of_decide_eq_true (sB h)
  have:¬0<(zM t q).2.2.1:=of_decide_eq_false hg
  exact hn.1 (show(zM t q).2.2.1=0 by omega)
theorem frm_17 {q:Pos}(h:q.In t):(if(zM t q).2.1=17 then(zM t q).2.2.2.2.1 else 0)=(zM t q).2.2.2.2.1:=by
 have hz:=of_decide_eq_true (sB h)
 split
 ·rfl
 ·omega
theorem je {n c:Int}{p:Pos}(h:p= .error c):adv t n p= .error c:=by rw[h];rfl
theorem exb_err {f:Int->Except Int Int}{c:Int}{p:Pos}(h:p= .error c):exb p f= .error c:=by rw[h];rfl
theorem Ic {q:Pos}{c:Int}(h:p3M t q= .error c):p6M t q= .error c:=by
 unfold p6M p5M
 rw[je h,je rfl]
 split<;>rfl
theorem Eb {q:Pos}{c:Int}(h:p6M t q= .error c):p8M t q= .error c:=by
 unfold p8M p7M
 rw[h,je rfl]
 split<;>rfl
theorem xf {q:Pos}{c:Int}(h:p8M t q= .error c):p9M t q= .error c:=by unfold p9M;exact exb_err h
theorem uv {w c:Int}{p:Pos}(h:p= .error c):CP t w p= .error c:=by
 unfold CP;split
 ·exact h
 ·exact je h
theorem kU {x m z c:Int}{p:Pos}(h:p= .error c):(plM t x m z p).2= .error c:=by
 unfold plM Ci
 split
 ·exact h
 ·split
  ·exact uv (je h)
  ·split
   ·exact uv (w:=4) h
   ·exact uv h
theorem Ap {f frm op z x b m c:Int}{p:Pos}(h:p= .error c):(oP t f frm op z x b m p).2.2= .error c:=by
 unfold oP
 by_cases f1:f=1
 ·rw[if_pos f1]
  exact kU h
 rw[if_neg f1]
 by_cases f2:f=2
 ·rw[if_pos f2]
  exact kU h
 rw[if_neg f2]
 by_cases f17:f=17
 ·rw[if_pos f17]
  exact kU h
 rw[if_neg f17]
 by_cases f3:f=3
 ·rw[if_pos f3]
  exact je h
 rw[if_neg f3]
 by_cases f4:f=4
 ·rw[if_pos f4]
  exact je (kU h)
 rw[if_neg f4]
 by_cases f5:f=5
 ·rw[if_pos f5]
  exact je (kU h)
 rw[if_neg f5]
 by_cases f6:f=6
 ·rw[if_pos f6]
  unfold nF
  cases BQ op
  ·rw[iD]
   by_cases ho:op=10
   ·rw[if_pos ho]
    exact je (kU h)
   ·rw[if_neg ho]
    exact kU h
  ·rw[if_pos rfl]
   exact kU h
 rw[if_neg f6]
 by_cases f7:f=7
 ·rw[if_pos f7]
  by_cases ho:op=29
  ·rw[if_pos ho]
   exact h
  ·rw[if_neg ho]
   exact h
 rw[if_neg f7]
 by_cases f8:f=8
 ·rw[if_pos f8]
  exact je h
 rw[if_neg f8]
 by_cases f9:f=9
 ·rw[if_pos f9]
  exact je h
 rw[if_neg f9]
 by_cases f15:f=15
 ·rw[if_pos f15]
  exact je h
 rw[if_neg f15]
 by_cases f10:f=10\/f=16
 ·rw[if_pos f10]
  exact je h
 rw[if_neg f10]
 by_cases f11:f=11
 ·rw[if_pos f11]
  exact je (kU h)
 rw[if_neg f11]
 by_cases f12:f=12
 ·rw[if_pos f12]
  exact kU h
 rw[if_neg f12]
 by_cases f13:f=13
 ·rw[if_pos f13]
  exact kU h
 rw[if_neg f13]
 exact h
theorem zN {at0 c:Int}(h:p9M t (.ok at0)= .error c):nY t at0=(uq,c):=by
 have:(oM t (.ok at0)).2.2= .error c:=Ap h
 unfold nY
 rw[this]
theorem yg {at0 e:Int}(h:(oM t (.ok at0)).2.2= .ok e):nY t at0=(⟨opM t (.ok at0),zsM t (.ok at0),cdM t (.ok at0),(zM t (.ok at0)).2.2.2.2.1,(oM t (.ok at0)).1,(oM t (.ok at0)).2.1,e-at0⟩,0):=by
 unfold nY
 rw[h]
theorem y6 {f frm op z x b m:Int}{p:Pos}(h:p.In t)(hz:(f=3\/f=5\/f=6\/f=8)->fq z):(oP t f frm op z x b m p).2.2.In t:=by
 unfold oP
 by_cases f1:f=1
 ·rw[if_pos f1]
  exact jT h
 rw[if_neg f1]
 by_cases f2:f=2
 ·rw[if_pos f2]
  exact jT h
 rw[if_neg f2]
 by_cases f17:f=17
 ·rw[if_pos f17]
  exact jT h
 rw[if_neg f17]
 by_cases f3:f=3
 ·rw[if_pos f3]
  exact h.adv (Int.le_trans (by decide) (n9 (hz (.inl f3))).1)
 rw[if_neg f3]
 by_cases f4:f=4
 ·rw[if_pos f4]
  exact(jT h).adv (by decide)
 rw[if_neg f4]
 by_cases f5:f=5
 ·rw[if_pos f5]
  exact(jT h).adv (Int.le_trans (by decide) (n9 (hz (.inr (.inl f5)))).1)
 rw[if_neg f5]
 by_cases f6:f=6
 ·rw[if_pos f6]
  unfold nF
  cases BQ op
  ·rw[iD]
   by_cases ho:op=10
   ·rw[if_pos ho]
    exact(jT h).adv (Int.le_trans (by decide) (n9 (hz (.inr (.inr (.inl f6))))).1)
   ·rw[if_neg ho]
    exact jT h
  ·rw[if_pos rfl]
   exact jT h
 rw[if_neg f6]
 by_cases f7:f=7
 ·rw[if_pos f7]
  by_cases ho:op=29
  ·rw[if_pos ho]
   exact h
  ·rw[if_neg ho]
   exact h
 rw[if_neg f7]
 by_cases f8:f=8
 ·rw[if_pos f8]
  exact h.adv (by have:=sz18 (hz (.inr (.inr (.inr f8))));omega)
 rw[if_neg f8]
 by_cases f9:f=9
 ·rw[if_pos f9]
  exact h.adv (by decide)
 rw[if_neg f9]
 by_cases f15:f=15
 ·rw[if_pos f15]
  exact h.adv (by decide)
 rw[if_neg f15]
 by_cases f10:f=10\/f=16
 ·rw[if_pos f10]
  exact h.adv (by decide)
 rw[if_neg f10]
 by_cases f11:f=11
 ·rw[if_pos f11]
  exact(jT h).adv (by decide)
 rw[if_neg f11]
 by_cases f12:f=12
 ·rw[if_pos f12]
  exact jT h
 rw[if_neg f12]
 by_cases f13:f=13
 ·rw[if_pos f13]
  exact jT h
 rw[if_neg f13]
 exact h
theorem jW {y:Int}(h:y≠0):aP (eqI y 0)=true:=by rw[aq h];rfl
theorem CJ {at0:Int}(hl:(t.length:Int)<=1099511627776)(h0:0<=at0)(h1:at0<=t.length):iS ((t,at0,()),())=some (((nY t at0).1,(nY t at0).2,()),()):=by
 have hq:Pos.In (.ok at0) t:=fun a ha=>by cases ha;exact⟨h0,h1⟩
 have bad:∀ {c},c≠0->p9M t (.ok at0)= .error c->(some (((uq,c,()),()):(Ins×Int×Unit)×Unit))=some (((nY t at0).1,(nY t at0).2,()),()):=fun _ h=>by rw[zN h]
 unfold iS
 dsimp only[p5,d6]
 obtain⟨a1,c1,e1,g1⟩:=we (t:=t) (a:=at0) (c:=0) (0,0,0,0,false,0,0,0,0,0,0,0,0,0,0,0,0,0,0,0,0,0,0,0,0,0,0,0,()) hl hq
 rw[e1,aa]
 dsimp only
 rw[dx]at g1|-
 by_cases n1:c1≠0
 ·rw[jW n1,aE]
  rw[cT n1]at g1
  exact bad n1 (xf (Eb (Ic g1.symm)))
 obtain rfl:c1=0:=Decidable.not_not.1 n1
 rw[show aP (eqI 0 0)=false from rfl,ak]
 obtain⟨y2,e2,g2,k2⟩:=ut (.ok at0) (wdM t (.ok at0)) (xM t (.ok at0)%16) (decide (xM t (.ok at0)≠0)) (0,0,0,0,0,0,0,0,0,0,0,0,0,0,0,0,0,0,()) hl hq g1
 rw[e2,aa]
 cases h6:p6M t (.ok at0)with
 |error c=>
  rw[h6]at g2
  obtain⟨rfl,n2⟩:=mR g2
  rw[jW n2,aE]
  exact bad n2 (xf (Eb h6))
 |ok a2=>
 obtain rfl:=k2 a2 h6
 dsimp only
 rw[show aP (eqI 0 0)=false from rfl,ak]
 obtain⟨y3,e3,g3,k3⟩:=CO (.ok at0) a2 (wdM t (.ok at0)) (xM t (.ok at0)%16) (decide (xM t (.ok at0)≠0)) (0,0,0,0,0,0,0,0,0,0,0,0,0,0,0,0,0,0,()) hl hq h6
 refine(Ret.bnd (Q:=fun y=>y=y3) (Ret.of_eq e3 rfl) ?_).eq
 rintro _ rfl
 cases h8:p8M t (.ok at0)with
 |error c=>
  rw[h8]at g3
  obtain⟨rfl,n3⟩:=mR g3
  rw[jW n3,aE]
  exact Ret.of_eq (bad n3 (xf h8)) rfl
 |ok a3=>
 obtain rfl:=k3 a3 h8
 dsimp only[p12,p13,p14,p15]
 rw[show aP (eqI 0 0)=false from rfl,ak]
 obtain⟨c4,e4,k4⟩:=FZ (t:=t) (x:=xM t (.ok at0)) (m:=mM t (.ok at0)) (z1:=(zM t (.ok at0)).1) (f:=(zM t (.ok at0)).2.1) (g:=(zM t (.ok at0)).2.2.1) (frm:=(zM t (.ok at0)).2.2.2.2.1) (op:=opM t (.ok at0)) (b:=bM t (.ok at0)) (nw:=wdM t (.ok at0)) (by':=(zM t (.ok at0)).2.2.2.1) (zz:=zsM t (.ok at0)) (rg:=mM t (.ok at0)/8%8) (rm:=mM t (.ok at0)%8) (e:=a3) (0,0,0,0,0,0,0,0,0,0,0,0,0,0,0,0,0,()) (xc hq) rfl
 refine Ret.bnd (Q:=fun y=>y=_) (Ret.of_eq e4 rfl) ?_
 rintro _ rfl
 dsimp only[p16]
 have h9:p9M t (.ok at0)=if c4≠0 then .error c4 else .ok a3:=by unfold p9M;rw[h8,k4];rfl
 by_cases n4:c4≠0
 ·rw[jW n4,aE]
  rw[if_pos n4]at h9
  exact Ret.of_eq (bad n4 h9) rfl
 obtain rfl:c4=0:=Decidable.not_not.1 n4
 rw[if_neg n4]at h9
 rw[show aP (eqI 0 0)=false from rfl,ak]
 have hm:=mg hq
 have hb:=lg hq
 have hin9:(aI a3 0).In t:=by rw[dx,<-h9];exact tT hq
 obtain⟨a5,c5,e5,g5⟩:=wd (x:=xM t (.ok at0)) (z:=zsM t (.ok at0)) (f:=(zM t (.ok at0)).2.1) (frm:=(zM t (.ok at0)).2.2.2.2.1) (op:=opM t (.ok at0)) hm.1 hm.2 hb.1 hb.2 (wdM t (.ok at0)) (zM t (.ok at0)).1 (zM t (.ok at0)).2.2.1 (zM t (.ok at0)).2.2.2.1 (ov hq) hl hin9
 rw[frm_17 hq,dx,<-h9]at e5
 rw[dx,<-h9]at g5
 refine Ret.bnd (Q:=fun y=>y=_) (Ret.of_eq e5 rfl) ?_
 rintro _ rfl
 change aI a5 c5=(oM t (.ok at0)).2.2 at g5
 dsimp only[p16,p18,d18,p15]
 by_cases n5:c5≠0
 ·rw[jW n5,aE]
  rw[cT n5]at g5
  refine Ret.some ?_
  unfold nY
  rw[<-g5]
  rfl
 obtain rfl:c5=0:=Decidable.not_not.1 n5
 rw[dx]at g5
 rw[show aP (eqI 0 0)=false from rfl,ak,yg g5.symm]
 have hin5:0<=a5/\a5<=t.length:=(y6 (tT hq) (ov hq)) a5 g5.symm
 simp only[sw2,aa,ah]
 have hb15:=(bI hb.1 hb.2).2.2.2
 unfold cdM
 by_cases ho:opM t (.ok at0)=33\/opM t (.ok at0)=35\/opM t (.ok at0)=36
 ·rw[if_pos ho,show(eqI (opM t (.ok at0)) 33||(eqI (opM t (.ok at0)) 35||eqI (opM t (.ok at0)) 36))=true by simpa[eqI]using ho,aE,aa,ah]
  dsimp only
  rw[bn,<-hb15]
  exact Ret.some rfl
 ·rw[if_neg ho,show(eqI (opM t (.ok at0)) 33||(eqI (opM t (.ok at0)) 35||eqI (opM t (.ok at0)) 36))=false by simpa[eqI]using ho,ak,aa,ah]
  dsimp only
  rw[bn]
  exact Ret.some rfl
end
section
variable {t:List UInt8}
theorem qa {b:Int}(h0:0<=b)(h1:b<256):fH ((b,()),())=some (decide (b∈qI/\b≠102),()):=by
 obtain⟨n,rfl⟩:=Int.eq_ofNat_of_zero_le h0
 rw[Ha n (by omega)]
 have:((n:Int)≠102)↔n≠102:=by omega
 simp only[this]
theorem oQ {p:Pos}{a:Int}(hp:p.In t)(h:adv t 1 p= .ok a):pkB t p=rdU t 1 p:=by
 cases p with
 |error _=>cases h
 |ok b=>
  unfold adv exb at h
  dsimp only at h
  by_cases hl:b+1<=t.length
  ·exact(At hp (by unfold pkB;dsimp only;rw[iP];exact(lh t b).1)).1.symm
  ·rw[if_neg hl]at h;cases h
theorem xi {p:Pos}{a c:Int}(hp:p= .ok a)(h:adv t 1 p= .error c):pkB t p= -1/\rdU t 1 p=0:=by
 subst hp
 unfold adv exb at h
 unfold pkB rdU
 dsimp only at h|-
 by_cases hl:a+1<=t.length
 ·rw[if_pos hl]at h;cases h
 ·rw[iN,if_neg hl];exact⟨rfl,rfl⟩
def xN:Shz:=(0,0,0,false,0,())
theorem Hp {at0:Int}(hl:(t.length:Int)<=1099511627776)(h0:0<=at0)(h1:at0<=t.length):
  Ret (eX ((),(t,at0,0,false,0,()),())) fun y=>aI y.2.1.2.1 y.2.1.2.2.2.2.1=p6M t (.ok at0)/\
   ∀e,p6M t (.ok at0)= .ok e->y=((zM t (.ok at0),bM t (.ok at0),()),(t,e,xM t (.ok at0),wdM t (.ok at0),0,()),()):=by
 have hq:Pos.In (.ok at0) t:=fun a ha=>by cases ha;exact⟨h0,h1⟩
 obtain⟨q,hqq⟩:∃q:Pos,q= .ok at0:=⟨_,rfl⟩
 unfold eX
 obtain⟨a1,c1,e1,g1⟩:=lv (t:=t) (a:=at0) (c:=0) (x:=0) (w:=false) hl hq
 rw[e1,aa]
 dsimp only
 rw[dx]at g1|-
 rw[<-hqq]at g1 hq|-
 refine Ret.iter (fun x=>(∃a c,x=((rdU t 1 q,()),(t,a,0,false,c,()),xN,())/\aI a c=adv t 1 q)\/
   (∃a c,x=((rdU t 1 (p1M t q),()),(t,a,0,true,c,()),xN,())/\aI a c=adv t 1 (p1M t q)/\wdM t q=true)\/
   (∃a,x=((0,()),(t,a,0,true,10,()),xN,())/\p2M t q= .error 10))
  (fun x=>(if x.2.1.2.2.2.1=true then 0 else 2)+(if x.2.1.2.2.2.2.1=0 then 1 else 0)) ?_ F _ (.inl ⟨a1,c1,rfl,g1⟩) (by unfold F;dsimp only;split<;>split<;>omega)
 intro x rec hI hrec
 have hcase:(∃a c w,x=((rdU t 1 (p2M t q),()),(t,a,0,w,c,()),xN,())/\aI a c=adv t 1 (p2M t q)/\(∀e,p2M t q= .ok e->w=wdM t q)/\(c=0->¬rdU t 1 (p2M t q)∈qI))\/
   (∃a w p,x=((rdU t 1 p,()),(t,a,0,w,0,()),xN,())/\p.In t/\aI a 0=adv t 1 p/\rdU t 1 p∈qI/\(w=false/\p=q\/w=true/\p=p1M t q/\wdM t q=true)):=by
  rcases hI with ⟨a,c,rfl,h⟩|⟨a,c,rfl,h,hw⟩|⟨a,rfl,h⟩
  ·by_cases hs:c=0/\rdU t 1 q∈qI
   ·obtain⟨rfl,hs⟩:=hs
    exact .inr ⟨a,false,q,rfl,hq,h,hs,.inl ⟨rfl,rfl⟩⟩
   ·have hpk:¬pkB t q∈qI:=by
     by_cases hc:c=0
     ·subst hc
      rw[oQ hq h.symm];exact fun g=>hs ⟨rfl,g⟩
     ·rw[cT hc]at h
      rw[(xi hqq h.symm).1];decide
    have hw:wdM t q=false:=decide_eq_false fun g=>hpk (by rw[g];decide)
    have e1:p1M t q=q:=by unfold p1M;rw[hw,iD]
    have e2:p2M t q=q:=by
     unfold p2M;rw[e1,hqq];unfold exb;dsimp only;rw[if_neg (by rw[hqq]at hpk;exact hpk)]
    refine .inl ⟨a,c,false,by rw[e2],by rw[e2];exact h,fun _ _=>hw.symm,fun hc=>?_⟩
    rw[e2];exact fun g=>hs ⟨hc,g⟩
  ·by_cases hs:c=0/\rdU t 1 (p1M t q)∈qI
   ·obtain⟨rfl,hs⟩:=hs
    exact .inr ⟨a,true,p1M t q,rfl,Aq hq,h,hs,.inr ⟨rfl,rfl,hw⟩⟩
   ·have hp1:p1M t q=adv t 1 q:=by unfold p1M;rw[hw,if_pos rfl]
    have hpk:¬pkB t (p1M t q)∈qI:=by
     by_cases hc:c=0
     ·subst hc
      rw[oQ (Aq hq) h.symm];exact fun g=>hs ⟨rfl,g⟩
     ·rw[cT hc]at h
      cases hp:p1M t q with
      |error _=>unfold pkB;dsimp only;decide
      |ok a'=>rw[(xi rfl (hp▸h.symm)).1];decide
    have e2:p2M t q=p1M t q:=by
     unfold p2M
     cases hp:p1M t q with
     |error _=>rfl
     |ok a'=>rw[hp]at hpk;unfold exb;dsimp only;rw[if_neg hpk]
    refine .inl ⟨a,c,true,by rw[e2],by rw[e2];exact h,fun _ _=>hw.symm,fun hc=>?_⟩
    rw[e2];exact fun g=>hs ⟨hc,g⟩
  ·refine .inl ⟨a,10,true,by rw[h];rfl,by rw[h];rfl,fun e he=>?_,fun hc=>?_⟩
   ·rw[h]at he;cases he
   ·cases hc
 rcases hcase with ⟨a,c,w,rfl,hpos,hw,hend⟩|⟨a,w,p,rfl,hpin,hpos,hpf,hS⟩
 ·have hb2:=dL t (p2M t q) (qe hq)
  have hb3:=dL t (p3M t q) (Ar hq)
  dsimp only
  refine Ret.bnd (Q:=fun y=>y=false) ?_ ?_
  ·by_cases hc:c=0
   ·have hn:=hend hc
    rw[be hc,aE,aq (fun g=>hn (by rw[g];decide)),ak,qa hb2.1 hb2.2,aa,aa,decide_eq_false (fun g=>hn g.1)]
    exact Ret.some rfl
   ·rw[aq hc,ak];exact Ret.some rfl
  rintro _ rfl
  rw[ak]
  refine Ret.bnd (Q:=fun y=>y=hxM t q) ?_ ?_
  ·by_cases hc:c=0
   ·subst hc
    rw[be rfl,aE,fU hb2.1 (by decide) (by omega)]
    refine Ret.some ?_
    unfold hxM
    rw[oQ (qe hq) hpos.symm,Bool.eq_iff_iff,nJ,decide_eq_true_eq]
    omega
   ·rw[aq hc,ak]
    refine Ret.some ?_
    symm
    refine decide_eq_false fun g=>?_
    obtain⟨_,_,_,_,hk⟩:=At (qe hq) (show 0<=pkB t (p2M t q)by omega)
    rw[hk,cT hc]at hpos
    cases hpos
  rintro _ rfl
  refine Ret.bnd (Q:=fun y=>∃a c,y=Sum.inl ((rdU t 1 (p3M t q),()),(t,a,xM t q,w,c,()),xN,())/\aI a c=adv t 1 (p3M t q)) ?_ ?_
  ·cases hh:hxM t q with
   |true=>
    have hg:64<=pkB t (p2M t q)/\pkB t (p2M t q)<=79:=of_decide_eq_true hh
    obtain⟨hk,_⟩:=At (qe hq) (show 0<=pkB t (p2M t q)by omega)
    have hin:(aI a c).In t:=by rw[hpos];exact(qe hq).adv (by decide)
    obtain⟨a3,c3,e3,g3⟩:=lv (x:=rdU t 1 (p2M t q)) (w:=w) hl hin
    have e4:p3M t q=adv t 1 (p2M t q):=by unfold p3M;rw[hh,if_pos rfl]
    have e5:xM t q=rdU t 1 (p2M t q):=by unfold xM;rw[hh,if_pos rfl,hk]
    rw[aE,e3,aa]
    exact Ret.some ⟨a3,c3,by rw[e4,e5,hpos],by rw[e4,g3,hpos]⟩
   |false=>
    have e4:p3M t q=p2M t q:=by unfold p3M;rw[hh,iD]
    have e5:xM t q=0:=by unfold xM;rw[hh,iD]
    rw[ak]
    exact Ret.some ⟨a,c,by rw[e4,e5],by rw[e4,hpos]⟩
  rintro _ ⟨a3,c3,rfl,h3⟩
  rw[ah]
  dsimp only
  have hin3:(aI a3 c3).In t:=by rw[h3];exact xd hq
  refine Ret.bnd (Q:=fun y=>y=vM t q) ?_ ?_
  ·by_cases hc:c3=0
   ·rw[be hc,aE];exact Ret.some rfl
   ·rw[aq hc,ak]
    refine Ret.some ?_
    symm
    refine decide_eq_false fun g=>?_
    obtain⟨b,hb⟩:=rd_ok (t:=t) (p:=p3M t q) (n:=1) (by omega)
    exact hc (mS (h3.trans hb)).2
  rintro _ rfl
  refine Ret.bnd (Q:=fun y=>∃a c,y=Sum.inl ((bM t q,vM t q,()),(t,a,xM t q,w,c,()),xN,())/\aI a c=p5M t q) ?_ ?_
  ·unfold bM p5M
   cases hs:vM t q with
   |true=>
    obtain⟨a4,c4,e4,g4⟩:=lv (x:=xM t q) (w:=w) hl hin3
    rw[aE,e4,aa,if_pos rfl,if_pos rfl]
    exact Ret.some ⟨a4,c4,by rw[h3],by rw[g4,h3]⟩
   |false=>
    rw[ak,iD,iD]
    exact Ret.some ⟨a3,c3,rfl,h3⟩
  rintro _ ⟨a5,c5,rfl,h5⟩
  rw[ah]
  dsimp only
  have hbr:=lg hq
  have hS:=yK (vM t q) (show(bM t q).toNat<256 by omega)
  rw[Int.toNat_of_nonneg hbr.1]at hS
  rw[hS,aa]
  dsimp only
  have h6:aI a5 (if(zM t q).2.1=0 then(if c5=0 then 11 else c5)else c5)=p6M t q:=by
   unfold p6M
   rw[<-h5]
   by_cases hc:c5=0
   ·subst hc
    by_cases hz:(zM t q).2.1=0
    ·rw[if_pos hz,if_pos rfl,dx];unfold exb;dsimp only;rw[if_pos hz];rfl
    ·rw[if_neg hz,dx];unfold exb;dsimp only;rw[if_neg hz]
   ·rw[if_neg hc,cT hc]
    split<;>exact cT hc
  refine Ret.bnd (Q:=fun y=>y=Sum.inl ((bM t q,()),(t,a5,xM t q,w,(if(zM t q).2.1=0 then(if c5=0 then 11 else c5)else c5),()),xN,zM t q,())) ?_ ?_
  ·by_cases hz:(zM t q).2.1=0
   ·have hz':(shz (vM t q) (bM t q).toNat).2.1=0:=hz
    rw[be hz',aE,qM,aa,if_pos hz]
    exact Ret.some rfl
   ·have hz':¬(shz (vM t q) (bM t q).toNat).2.1=0:=hz
    rw[aq hz',ak,if_neg hz]
    exact Ret.some rfl
  rintro _ rfl
  rw[ah]
  refine Ret.some ⟨h6,fun e he=>?_⟩
  rw[he]at h6
  obtain⟨ha,hc⟩:=mS h6
  have hwe:w=wdM t q:=by
   cases hp:p2M t q with
   |ok e'=>exact hw e' hp
   |error k=>
    exfalso
    have:p3M t q= .error k:=by unfold p3M hxM;rw[hp];rw[show pkB t (.error k)= -1 from rfl,iD]
    rw[Ic this]at he
    cases he
  dsimp only
  rw[hc,ha,hwe]
 ·have hb:=dL t p hpin
  dsimp only at hrec|-
  refine Ret.bnd (Q:=fun y=>y=true) ?_ ?_
  ·rw[be rfl,aE]
   by_cases h102:rdU t 1 p=102
   ·rw[be h102,aE,aa];exact Ret.some rfl
   ·rw[aq h102,ak,qa hb.1 hb.2,aa,aa,decide_eq_true ⟨hpf,h102⟩];exact Ret.some rfl
  rintro _ rfl
  rw[aE]
  have hpk:pkB t p=rdU t 1 p:=oQ hpin hpos.symm
  by_cases hgo:rdU t 1 p=102/\w=false
  ·
   obtain⟨h102,rfl⟩:=hgo
   obtain rfl:p=q:=by
    rcases hS with ⟨_,g⟩|⟨g,_⟩
    ·exact g
    ·cases g
   have hwd:wdM t p=true:=decide_eq_true (by rw[hpk];exact h102)
   have e1:p1M t p=adv t 1 p:=by unfold p1M;rw[hwd,if_pos rfl]
   have hin:(aI a 0).In t:=by rw[hpos];exact hpin.adv (by decide)
   obtain⟨a3,c3,e3,g3⟩:=lv (x:=0) (w:=true) hl hin
   rw[be h102,bD,ak,aa,ak,aa,ah]
   dsimp only
   rw[e3,aa]
   refine hrec _ (.inr (.inl ⟨a3,c3,by rw[e1,hpos],by rw[g3,hpos,e1],hwd⟩)) ?_
   dsimp only
   rw[if_pos rfl,if_neg (show ¬false=true by decide),if_pos rfl]
   split<;>omega
  ·refine Ret.bnd (Q:=fun y=>y=true) ?_ ?_
   ·by_cases h102:rdU t 1 p=102
    ·have hw:w=true:=by
      cases w with
      |true=>rfl
      |false=>exact absurd ⟨h102,rfl⟩ hgo
     rw[be h102,bD,ak]
     exact Ret.some hw
    ·rw[aq h102,bS,aE];exact Ret.some rfl
   rintro _ rfl
   rw[aE,qM,aa,aa,ah,if_pos rfl]
   dsimp only
   have h2:p2M t q= .error 10:=by
    rcases hS with ⟨rfl,rfl⟩|⟨rfl,rfl,hwd⟩
    ·have hwd:wdM t p=false:=decide_eq_false fun g=>hgo ⟨by rw[<-hpk];exact g,rfl⟩
     have e1:p1M t p=p:=by unfold p1M;rw[hwd,iD]
     unfold p2M
     rw[e1,hpk,hqq]
     rw[hqq]at hpf
     unfold exb
     dsimp only
     rw[if_pos hpf]
    ·unfold p2M
     rw[hpk]
     cases hp:p1M t q with
     |error k=>rw[hp]at hpos;cases hpos
     |ok e=>rw[hp]at hpf;unfold exb;dsimp only;rw[if_pos hpf]
   obtain⟨a3,c3,e3,g3⟩:=lv (t:=t) (a:=a) (c:=10) (x:=0) (w:=true) hl (fun e he=>by cases he)
   rw[e3,aa]
   have hc3:c3=10:=(mR (g3.trans (show adv t 1 (aI a 10)= .error 10 from rfl))).1
   subst hc3
   refine hrec _ (.inr (.inr ⟨a3,rfl,h2⟩)) ?_
   dsimp only
   rw[if_pos rfl,if_neg (show ¬(10:Int)=0 by decide),if_pos rfl]
   split<;>omega
end
section
variable {t:List UInt8}{a c x:Int}{w:Bool}
theorem nK {f:Int}(h:0<=f/\f<18):du ((f,()),())=some (oH f,()):=by
 obtain⟨n,rfl⟩:=Int.eq_ofNat_of_zero_le h.1
 exact Dm n (by omega)
theorem sw4 {α β γ:Type}{a b:Bool}{r:α}{y:γ}:br a (some (Sum.inl ((y,a,()),r):Sum ((γ×Bool×Unit)×α) β)) (some (Sum.inl ((y,b,()),r)))=some (Sum.inl ((y,a||b,()),r)):=by cases a<;>rfl
theorem HV (op:Int):(eqI op 29||(eqI op 30||(eqI op 31||eqI op 32)))=cR op:=by rw[Bool.eq_iff_iff];simp[cR,eqI]
theorem HU (op:Int):(eqI op 33||(eqI op 34||(eqI op 37||(eqI op 38||(eqI op 43||eqI op 44)))))=eK op:=by rw[Bool.eq_iff_iff];simp[eK,eqI]
theorem bit3 {x:Int}(hx:om x):aO ((x,3,()),())=some (x/8%2,()):=by
 rw[mH _ _ (by decide) (by decide)]
 have h1:x%2^64=x:=Int.emod_eq_of_lt (by unfold om at hx;omega) (by unfold om at hx;omega)
 rw[h1];rfl
theorem Ht (z:Shz)(op:Int)(hx:om x):eY ((z,op,()),(t,a,x,w,c,()),())=some (szM z.2.2.2.1 op w x,(t,a,x,w,c,()),()):=by
 unfold eY
 dsimp only
 simp only[sw4,aa,ah,HV]
 unfold szM
 cases h8:cR op with
 |true=>rw[aE,if_pos rfl]
 |false=>
  rw[ak,iD]
  simp only[sw1,aa,ah,HU]
  cases h0:eK op with
  |true=>rw[aE,aa,qi,if_pos rfl]
  |false=>
   rw[ak,aa,ah,iD]
   dsimp only
   cases hb:z.2.2.2.1 with
   |true=>rw[aE,if_pos rfl]
   |false=>
    rw[ak,iD,bit3 hx,aa]
    by_cases h3:x/8%2=1
    ·rw[if_pos h3,be h3,aE]
    ·rw[if_neg h3,aq h3,ak]
     cases w<;>rfl
theorem Hx (z:Shz)(op:Int):ig ((z,op,()),())=some (!(cR op||eK op||z.2.2.2.1),()):=by
 unfold ig
 dsimp only
 simp only[sw1,aa,ah]
 have e:(eqI op 29||(eqI op 30||(eqI op 31||(eqI op 32||(eqI op 33||(eqI op 34||(eqI op 37||(eqI op 38||(eqI op 43||eqI op 44)))))))))=(cR op||eK op):=by
  rw[<-HV,<-HU];simp only[Bool.or_assoc]
 rw[e]
 cases h:(cR op||eK op)with
 |true=>rw[aE,aa,qi];rfl
 |false=>rw[ak,aa,ah];rfl
theorem EI (y:Ins)(z:Shz)(hf:z.2.2.2.2.1=0\/z.2.2.2.2.1=1\/z.2.2.2.2.1=2\/z.2.2.2.2.1=4)(m:Int):
  gm ((y,z,w,()),())=some (decide (qx w z.2.2.2.1 z.2.2.2.2.1 y.op y.size m≠10),()):=by
 unfold gm
 dsimp only
 refine(Ret.bnd (Q:=fun u=>u=(w&&(cR y.op||eK y.op||z.2.2.2.1))) ?_ ?_).eq
 ·cases w with
  |true=>rw[aE,Hx,aa];exact Ret.some (by rw[kF];simp)
  |false=>rw[ak];exact Ret.some rfl
 rintro _ rfl
 unfold qx
 have e3:(w&&(cR y.op||eK y.op||z.2.2.2.1))=true↔(w=true/\(cR y.op=true\/eK y.op=true\/z.2.2.2.1=true)):=by simp[or_assoc]
 by_cases p:(w&&(cR y.op||eK y.op||z.2.2.2.1))=true
 ·rw[p,aE,if_pos (.inl (e3.1 p))]
  exact Ret.some rfl
 ·rw[Bool.not_eq_true]at p
  rw[p,ak]
  have p':¬(w=true/\(cR y.op=true\/eK y.op=true\/z.2.2.2.1=true)):=fun g=>by rw[e3.2 g]at p;cases p
  by_cases h4:z.2.2.2.2.1=4
  ·rw[ae (be h4)]
   refine Ret.some ?_
   congr 1
   by_cases h8:y.size=8
   ·rw[if_neg (fun g=>g.elim p' (by omega)),be h8]
    split<;>rfl
   ·rw[if_pos (.inr (.inl ⟨h4,h8⟩)),aq h8];rfl
  ·rw[ag (aq h4)]
   by_cases h0:z.2.2.2.2.1=0
   ·rw[ae (be h0),aa,if_neg (fun g=>g.elim p' (by omega))]
    refine Ret.some ?_
    congr 1
    split<;>rfl
   ·rw[ag (aq h0),aa]
    refine Ret.some ?_
    congr 1
    by_cases hs:y.size<=z.2.2.2.2.1
    ·rw[if_pos (.inr (.inr ⟨by omega,hs⟩)),fL];rfl
    ·rw[if_neg (fun g=>g.elim p' (by omega)),fP]
     split<;>rfl
theorem FN {w by':Bool}{frm op z m:Int}(h:qx w by' frm op z m≠10):qx w by' frm op z m=if op=25/\m/64=3 then 12 else 0:=by
 unfold qx at h|-
 split
 ·rename_i g;rw[if_pos g]at h;exact absurd rfl h
 ·rfl
end
section
variable {t:List UInt8}
theorem wI {at0:Int}(hl:(t.length:Int)<=1099511627776)(h0:0<=at0)(h1:at0<=t.length):fG ((t,at0,()),())=some (((nY t at0).1,(nY t at0).2,()),()):=by
 have hq:Pos.In (.ok at0) t:=fun a ha=>by cases ha;exact⟨h0,h1⟩
 have bad:∀ {c},p9M t (.ok at0)= .error c->(some (((uq,c,()),()):(Ins×Int×Unit)×Unit))=some (((nY t at0).1,(nY t at0).2,()),()):=fun h=>by rw[zN h]
 have hz:=of_decide_eq_true (sB hq)
 have hm:=mg hq
 have hb:=lg hq
 have hx:=Hh t (.ok at0)
 unfold fG
 dsimp only
 obtain⟨y2,e2,g2,k2⟩:=Hp hl h0 h1
 refine(Ret.bnd (Q:=fun y=>y=y2) (Ret.of_eq e2 rfl) ?_).eq
 rintro _ rfl
 cases h6:p6M t (.ok at0)with
 |error c=>
  rw[h6]at g2
  obtain⟨rfl,n2⟩:=mR g2
  rw[jW n2,aE]
  exact Ret.of_eq (bad (xf (Eb h6))) rfl
 |ok a2=>
 obtain rfl:=k2 a2 h6
 have hin6:(aI a2 0).In t:=by rw[dx,<-h6];exact xe hq
 dsimp only
 rw[show aP (eqI 0 0)=false from rfl,ak,nK ⟨hz.2.2.1,hz.2.2.2.1⟩,aa]
 dsimp only
 refine Ret.bnd (Q:=fun y=>∃a c o,y=Sum.inl ((at0,bM t (.ok at0),mM t (.ok at0),()),(0,0,0,0,0,0,0,0,0,0,0,0,0,0,0,0,0,0,0,()),(t,a,xM t (.ok at0),wdM t (.ok at0),c,()),zM t (.ok at0),(o,0,0,(zM t (.ok at0)).2.2.2.2.1,0,0,0,0,0,0,0,0,0,0,0,0,0,0,0,()),())/\aI a c=p8M t (.ok at0)/\(c=0->o=opM t (.ok at0))) ?_ ?_
 ·cases hM:oH (zM t (.ok at0)).2.1 with
  |false=>
   have hg:yz (zM t (.ok at0))=false:=decide_eq_false fun g=>by
    have:=(hz.2.2.2.2.2.2.2.2.1 g).1
    rw[hM]at this;cases this
   have e1:mM t (.ok at0)=0:=by unfold mM;rw[hM,iD]
   have e2:opM t (.ok at0)=(zM t (.ok at0)).1:=by unfold opM;rw[hg,iD]
   have e3:p8M t (.ok at0)= .ok a2:=by unfold p8M p7M;rw[hM,hg,iD,h6];simp[exb]
   rw[ak]
   exact Ret.some ⟨a2,0,opM t (.ok at0),by rw[e1,e2],by rw[e3];rfl,fun _=>rfl⟩
  |true=>
   obtain⟨a4,c4,e4,g4⟩:=lv (x:=xM t (.ok at0)) (w:=wdM t (.ok at0)) hl hin6
   have e1:mM t (.ok at0)=rdU t 1 (aI a2 0):=by unfold mM;rw[hM,if_pos rfl,h6];rfl
   have e7:p7M t (.ok at0)=aI a4 c4:=by unfold p7M;rw[hM,if_pos rfl,h6,g4];rfl
   rw[aE,e4,<-e1,aa]
   dsimp only
   rw[fU hm.1 (by decide) (by omega),dH]
   by_cases hg:0<(zM t (.ok at0)).2.2.1
   ·have hgB:yz (zM t (.ok at0))=true:=decide_eq_true hg
    have e8:p8M t (.ok at0)=exb (aI a4 c4) fun a=>if opM t (.ok at0)=0 then .error 11 else .ok a:=by
     unfold p8M;rw[e7,hgB];simp only[true_and]
    have eo:grp (zM t (.ok at0)).2.2.1.toNat (mM t (.ok at0)/8%8).toNat=opM t (.ok at0):=by unfold opM;rw[hgB,if_pos rfl]
    by_cases hc:c4=0
    ·subst hc
     have hgo:=yJ (zM t (.ok at0)).2.2.1.toNat (by omega) (by omega) (mM t (.ok at0)/8%8).toNat (by omega)
     rw[Int.toNat_of_nonneg (by omega),Int.toNat_of_nonneg (by omega),eo]at hgo
     rw[be rfl,aE,aa,fP hg,aE,hgo,aa]
     dsimp only
     rw[dx]at e8
     unfold exb at e8
     dsimp only at e8
     by_cases ho:opM t (.ok at0)=0
     ·rw[if_pos ho]at e8
      rw[be ho,aE,qM,aa,aa,ah,if_pos rfl]
      exact Ret.some ⟨a4,11,opM t (.ok at0),rfl,by rw[e8];rfl,fun _=>rfl⟩
     ·rw[if_neg ho]at e8
      rw[aq ho,ak,aa,ah]
      exact Ret.some ⟨a4,0,opM t (.ok at0),rfl,by rw[e8];rfl,fun _=>rfl⟩
    ·rw[cT hc]at e8
     unfold exb at e8
     dsimp only at e8
     rw[aq hc,ak,aa,ak,aa,ah]
     exact Ret.some ⟨a4,c4,(zM t (.ok at0)).1,rfl,by rw[e8,cT hc],fun g=>absurd g hc⟩
   ·have hgB:yz (zM t (.ok at0))=false:=decide_eq_false hg
    have e2:opM t (.ok at0)=(zM t (.ok at0)).1:=by unfold opM;rw[hgB,iD]
    have e8:p8M t (.ok at0)=aI a4 c4:=by
     unfold p8M;rw[e7,hgB]
     cases aI a4 c4<;>simp[exb]
    refine Ret.bnd (Q:=fun y=>y=false) ?_ ?_
    ·rw[fL hg]
     cases eqI c4 0
     ·rw[ak];exact Ret.some rfl
     ·rw[aE];exact Ret.some rfl
    rintro _ rfl
    rw[ak,aa,ah]
    exact Ret.some ⟨a4,c4,opM t (.ok at0),by rw[e2],by rw[e8],fun _=>rfl⟩
 rintro _ ⟨a8,c8,o8,rfl,g8,k8⟩
 rw[ah]
 dsimp only
 cases h8:p8M t (.ok at0)with
 |error c=>
  rw[h8]at g8
  obtain⟨rfl,n3⟩:=mR g8
  rw[jW n3,aE]
  exact Ret.of_eq (bad (xf h8)) rfl
 |ok a3=>
 rw[h8]at g8
 obtain⟨rfl,rfl⟩:=mS g8
 obtain rfl:=k8 rfl
 rw[show aP (eqI 0 0)=false from rfl,ak,Ht _ _ hx,aa]
 dsimp only
 rw[EI _ _ (by omega) (mM t (.ok at0)),aa]
 have h9:p9M t (.ok at0)=if qx (wdM t (.ok at0)) (zM t (.ok at0)).2.2.2.1 (zM t (.ok at0)).2.2.2.2.1 (opM t (.ok at0)) (zsM t (.ok at0)) (mM t (.ok at0))≠0 then .error (qx (wdM t (.ok at0)) (zM t (.ok at0)).2.2.2.1 (zM t (.ok at0)).2.2.2.2.1 (opM t (.ok at0)) (zsM t (.ok at0)) (mM t (.ok at0)))else .ok a8:=by unfold p9M;rw[h8];rfl
 have hsz:szM (zM t (.ok at0)).2.2.2.1 (opM t (.ok at0)) (wdM t (.ok at0)) (xM t (.ok at0))=zsM t (.ok at0):=rfl
 rw[hsz]
 dsimp only
 by_cases hb10:qx (wdM t (.ok at0)) (zM t (.ok at0)).2.2.2.1 (zM t (.ok at0)).2.2.2.2.1 (opM t (.ok at0)) (zsM t (.ok at0)) (mM t (.ok at0))=10
 ·rw[hb10,if_pos (by decide)]at h9
  rw[decide_eq_false (fun g=>g hb10),bS,aE]
  exact Ret.of_eq (bad h9) rfl
 rw[FN hb10]at h9
 rw[decide_eq_true hb10,bD,ak,fU hm.1 (by decide) (by omega)]
 refine Ret.bnd (Q:=fun y=>y=decide (opM t (.ok at0)=25/\mM t (.ok at0)/64=3)) ?_ ?_
 ·by_cases ho:opM t (.ok at0)=25
  ·rw[be ho,aE];exact Ret.some (by simp[eqI,ho])
  ·rw[aq ho,ak];exact Ret.some (by simp[ho])
 rintro _ rfl
 by_cases hlea:opM t (.ok at0)=25/\mM t (.ok at0)/64=3
 ·rw[if_pos hlea,if_pos (by decide)]at h9
  rw[decide_eq_true hlea,aE]
  exact Ret.of_eq (bad h9) rfl
 rw[if_neg hlea,iD]at h9
 rw[decide_eq_false hlea,ak]
 have hin9:(aI a8 0).In t:=by rw[dx,<-h9];exact tT hq
 simp only[AT,aa]
 refine Ret.bnd (Q:=fun y=>y=Sum.inl ((at0,bM t (.ok at0),mM t (.ok at0),()),(0,0,0,0,0,0,0,0,0,0,0,0,0,0,0,0,0,0,0,()),(t,a8,xM t (.ok at0),wdM t (.ok at0),0,()),zM t (.ok at0),(opM t (.ok at0),zsM t (.ok at0),cdM t (.ok at0),(zM t (.ok at0)).2.2.2.2.1,0,0,0,0,0,0,0,0,0,0,0,0,0,0,0,()),())) ?_ ?_
 ·unfold cdM
  by_cases ho:opM t (.ok at0)=33\/opM t (.ok at0)=35\/opM t (.ok at0)=36
  ·rw[if_pos ho,show(eqI (opM t (.ok at0)) 33||eqI (opM t (.ok at0)) 35||eqI (opM t (.ok at0)) 36)=true by simp[eqI];omega,aE,dH hb.1]
   exact Ret.some rfl
  ·rw[if_neg ho,show(eqI (opM t (.ok at0)) 33||eqI (opM t (.ok at0)) 35||eqI (opM t (.ok at0)) 36)=false by simp[eqI];omega,ak]
   exact Ret.some rfl
 rintro _ rfl
 rw[ah]
 dsimp only
 rw[nK ⟨hz.2.2.1,hz.2.2.2.1⟩,aa]
 dsimp only
 refine Ret.bnd (Q:=fun y=>∃a c,y=Sum.inl ((at0,()),(0,0,0,0,0,0,0,0,0,0,0,0,0,0,0,0,0,0,0,()),(t,a,xM t (.ok at0),wdM t (.ok at0),c,()),dX ⟨opM t (.ok at0),zsM t (.ok at0),cdM t (.ok at0),(zM t (.ok at0)).2.2.2.2.1,(oM t (.ok at0)).1,(oM t (.ok at0)).2.1,0⟩ (),())/\aI a c=(oM t (.ok at0)).2.2) ?_ ?_
 ·unfold oM
  have e9:p9M t (.ok at0)=aI a8 0:=h9
  rw[e9]
  cases hM:oH (zM t (.ok at0)).2.1 with
  |true=>
   obtain⟨a5,c5,e5,g5⟩:=EE (w:=wdM t (.ok at0)) (z:=zsM t (.ok at0)) (f:=(zM t (.ok at0)).2.1) (frm:=(zM t (.ok at0)).2.2.2.2.1) (op:=opM t (.ok at0)) (cd:=cdM t (.ok at0)) hx hm.1 hm.2 (bM t (.ok at0)) (zM t (.ok at0)).1 (zM t (.ok at0)).2.2.1 (zM t (.ok at0)).2.2.2.1 hM (fun h=>ov hq (by omega)) hl hin9
   rw[aE]
   refine Ret.bnd (Q:=fun y=>y=_) (Ret.of_eq e5 rfl) ?_
   rintro _ rfl
   exact Ret.some ⟨a5,c5,rfl,g5⟩
  |false=>
   obtain⟨a5,c5,e5,g5⟩:=EF (w:=wdM t (.ok at0)) (m:=mM t (.ok at0)) (z:=zsM t (.ok at0)) (f:=(zM t (.ok at0)).2.1) (frm:=(zM t (.ok at0)).2.2.2.2.1) (op:=opM t (.ok at0)) (cd:=cdM t (.ok at0)) hx hb.1 (zM t (.ok at0)).1 (zM t (.ok at0)).2.2.1 (zM t (.ok at0)).2.2.2.1 hM (fun h=>ov hq (by omega)) hl hin9
   rw[ak]
   refine Ret.bnd (Q:=fun y=>y=_) (Ret.of_eq e5 rfl) ?_
   rintro _ rfl
   exact Ret.some ⟨a5,c5,rfl,g5⟩
 rintro _ ⟨a5,c5,rfl,g5⟩
 rw[ah]
 dsimp only
 by_cases n5:c5≠0
 ·rw[jW n5,aE]
  rw[cT n5]at g5
  refine Ret.some ?_
  unfold nY
  rw[<-g5]
  rfl
 obtain rfl:c5=0:=Decidable.not_not.1 n5
 rw[dx]at g5
 have hin5:0<=a5/\a5<=t.length:=(y6 (tT hq) (ov hq)) a5 g5.symm
 rw[show aP (eqI 0 0)=false from rfl,ak,yg g5.symm,bn]
 exact Ret.some rfl
end
def Pos.Bd (p:Pos)(lo hi:Int):Prop:=∀a,p= .ok a->lo<=a/\a<=hi
section
variable {t:List UInt8}{lo hi:Int}
theorem Pos.Bd.adv {p:Pos}(h:p.Bd lo hi)(n:Int):Pos.Bd (Go.Den.G.adv t n p) (lo+n) (hi+n):=by
 intro a ha
 cases p with
 |error _=>cases ha
 |ok b=>
  obtain⟨h1,h2⟩:=h b rfl
  unfold Go.Den.G.adv exb at ha
  dsimp only at ha
  split at ha
  ·cases ha;omega
  ·cases ha
theorem Pos.Bd.mono {p:Pos}(h:p.Bd lo hi){lo' hi':Int}(h1:lo'<=lo)(h2:hi<=hi'):p.Bd lo' hi':=fun a ha=>by
 have:=h a ha;omega
theorem zT {p:Pos}{q:Int->Prop}[DecidablePred q]{k:Int}(h:p.Bd lo hi):Pos.Bd (exb p fun a=>if q a then .error k else .ok a) lo hi:=by
 intro a ha
 cases p with
 |error c=>cases ha
 |ok b=>
  unfold exb at ha
  dsimp only at ha
  split at ha
  ·cases ha
  ·exact h a (by cases ha;rfl)
theorem p1M_bd {q:Pos}(h:q.Bd lo hi):(p1M t q).Bd lo (hi+1):=by
 unfold p1M;split
 ·exact(h.adv 1).mono (by omega) (by omega)
 ·exact h.mono (by omega) (by omega)
theorem p3M_bd {q:Pos}(h:q.Bd lo hi):(p3M t q).Bd lo (hi+2):=by
 have h2:(p2M t q).Bd lo (hi+1):=zT (q:=fun _=>pkB t (p1M t q)∈qI) (p1M_bd h)
 unfold p3M;split
 ·exact(h2.adv 1).mono (by omega) (by omega)
 ·exact h2.mono (by omega) (by omega)
theorem p6M_bd {q:Pos}(h:q.Bd lo hi):(p6M t q).Bd (lo+1) (hi+4):=by
 refine zT (q:=fun _=>(zM t q).2.1=0) ?_
 have h3:=p3M_bd (t:=t) h
 unfold p5M;split
 ·exact((h3.adv 1).adv 1).mono (by omega) (by omega)
 ·exact(h3.adv 1).mono (by omega) (by omega)
theorem p9M_bd {q:Pos}(h:q.Bd lo hi):(p9M t q).Bd (lo+1) (hi+5):=by
 refine zT (q:=fun _=>qx (wdM t q) (zM t q).2.2.2.1 (zM t q).2.2.2.2.1 (opM t q) (zsM t q) (mM t q)≠0) (zT (q:=fun _=>yz (zM t q)=true/\opM t q=0) ?_)
 have h6:=p6M_bd (t:=t) h
 unfold p7M;split
 ·exact(h6.adv 1).mono (by omega) (by omega)
 ·exact h6.mono (by omega) (by omega)
theorem CS (mod rm b:Int):0<=lF mod rm b/\lF mod rm b<=4:=by unfold lF;(repeat' split)<;>decide
theorem yl {w:Int}{p:Pos}(h:p.Bd lo hi)(hw:0<=w/\w<=4):(CP t w p).Bd lo (hi+4):=by
 unfold CP;split
 ·exact h.mono (by omega) (by omega)
 ·exact(h.adv w).mono (by omega) (by omega)
theorem mP {x m z:Int}{p:Pos}(h:p.Bd lo hi):(plM t x m z p).2.Bd lo (hi+5):=by
 unfold plM Ci
 split
 ·exact h.mono (by omega) (by omega)
 ·split
  ·exact(yl (h.adv 1) (CS ..)).mono (by omega) (by omega)
  ·split
   ·exact(yl (w:=4) h (by decide)).mono (by omega) (by omega)
   ·exact(yl h (CS ..)).mono (by omega) (by omega)
theorem yB {z:Int}(h:fq z):1<=gJ 4 z/\gJ 4 z<=4:=by
 unfold fq at h
 rcases h with rfl|rfl|rfl|rfl<;>decide
theorem opsM_bd {f frm op z x b m:Int}{p:Pos}(h:p.Bd lo hi)(hz:(f=3\/f=5\/f=6\/f=8)->fq z):(oP t f frm op z x b m p).2.2.Bd lo (hi+9):=by
 unfold oP
 by_cases f1:f=1
 ·rw[if_pos f1]
  exact(mP h).mono (by omega) (by omega)
 rw[if_neg f1]
 by_cases f2:f=2
 ·rw[if_pos f2]
  exact(mP h).mono (by omega) (by omega)
 rw[if_neg f2]
 by_cases f17:f=17
 ·rw[if_pos f17]
  exact(mP h).mono (by omega) (by omega)
 rw[if_neg f17]
 by_cases f3:f=3
 ·rw[if_pos f3]
  have:=yB (hz (.inl f3))
  exact(h.adv (gJ 4 z)).mono (by omega) (by omega)
 rw[if_neg f3]
 by_cases f4:f=4
 ·rw[if_pos f4]
  exact((mP h).adv 1).mono (by omega) (by omega)
 rw[if_neg f4]
 by_cases f5:f=5
 ·rw[if_pos f5]
  have:=yB (hz (.inr (.inl f5)))
  exact((mP h).adv (gJ 4 z)).mono (by omega) (by omega)
 rw[if_neg f5]
 by_cases f6:f=6
 ·rw[if_pos f6]
  unfold nF
  cases BQ op
  ·rw[iD]
   by_cases ho:op=10
   ·rw[if_pos ho]
    have:=yB (hz (.inr (.inr (.inl f6))))
    exact((mP h).adv (gJ 4 z)).mono (by omega) (by omega)
   ·rw[if_neg ho]
    exact(mP h).mono (by omega) (by omega)
  ·rw[if_pos rfl]
   exact(mP h).mono (by omega) (by omega)
 rw[if_neg f6]
 by_cases f7:f=7
 ·rw[if_pos f7]
  by_cases ho:op=29
  ·rw[if_pos ho]
   exact h.mono (by omega) (by omega)
  ·rw[if_neg ho]
   exact h.mono (by omega) (by omega)
 rw[if_neg f7]
 by_cases f8:f=8
 ·rw[if_pos f8]
  have:=sz18 (hz (.inr (.inr (.inr f8))))
  exact(h.adv z).mono (by omega) (by omega)
 rw[if_neg f8]
 by_cases f9:f=9
 ·rw[if_pos f9]
  exact(h.adv 1).mono (by omega) (by omega)
 rw[if_neg f9]
 by_cases f15:f=15
 ·rw[if_pos f15]
  exact(h.adv 1).mono (by omega) (by omega)
 rw[if_neg f15]
 by_cases f10:f=10\/f=16
 ·rw[if_pos f10]
  exact(h.adv 4).mono (by omega) (by omega)
 rw[if_neg f10]
 by_cases f11:f=11
 ·rw[if_pos f11]
  exact((mP h).adv 1).mono (by omega) (by omega)
 rw[if_neg f11]
 by_cases f12:f=12
 ·rw[if_pos f12]
  exact(mP h).mono (by omega) (by omega)
 rw[if_neg f12]
 by_cases f13:f=13
 ·rw[if_pos f13]
  exact(mP h).mono (by omega) (by omega)
 rw[if_neg f13]
 exact h.mono (by omega) (by omega)
theorem decLen {at0 e:Int}(h0:0<=at0)(h1:at0<=t.length)(h:(oM t (.ok at0)).2.2= .ok e):at0+1<=e/\e<=at0+14/\e<=t.length:=by
 have hq:Pos.In (.ok at0) t:=fun a ha=>by cases ha;exact⟨h0,h1⟩
 have hb:Pos.Bd (.ok at0) at0 at0:=fun a ha=>by cases ha;omega
 have:=opsM_bd (p9M_bd (t:=t) hb) (ov hq) e h
 have:=y6 (tT hq) (ov hq) e h
 omega
end
theorem zw (m:Nat):((2^m:Nat):Int)=(2:Int)^m:=by simp
theorem Hy (m:Nat)(hm:m<=63)(v:Int): -(2:Int)^m<=sx m v/\sx m v<2^m:=by
 unfold sx
 have hp:(0:Int)<2^(m+1):=Int.pow_pos (by decide)
 have h1:=Int.emod_nonneg v (Int.ne_of_gt hp)
 have h2:=Int.emod_lt_of_pos v hp
 have hd:(2:Int)^(m+1)=2^m*2:=Int.pow_succ 2 m
 have hb:v%2^64/2^m%2=v%2^(m+1)/2^m:=by
  have h64:(2:Int)^(m+1)*2^(63-m)=2^64:=by rw[<-Int.pow_add];congr 1;omega
  have h1:v%2^(m+1)=v%2^64%2^(m+1):=by
   rw[Int.emod_emod_of_dvd]
   exact⟨2^(63-m),h64.symm⟩
  rw[h1,Int.pow_succ 2 m]
  have hu:=bt v
  rw[<-hu]
  rw[<-zw m]
  have h2:((2^m:Nat):Int)*2=((2^m*2:Nat):Int):=by simp
  rw[h2]
  rw[<-Int.natCast_ediv,<-Int.natCast_emod,<-Int.natCast_ediv,Nat.mod_mul_right_div_self]
  simp
 rw[hb]
 have hpm:(0:Int)<2^m:=Int.pow_pos (by decide)
 generalize v%2^(m+1)=r at*
 by_cases hs:(2:Int)^m<=r
 ·have hq:r/2^m=1:=by
   rw[Int.ediv_eq_iff_of_pos hpm];omega
  rw[hq,if_pos rfl];omega
 ·have hq:r/2^m=0:=Int.ediv_eq_zero_of_lt h1 (by omega)
  rw[hq,iD];omega
theorem sx7_id {u:Int}(h0: -128<=u)(h1:u<128):sx 7 u=u:=by
 unfold sx;rw[show(2:Int)^(7+1)=256 from rfl,show(2:Int)^7=128 from rfl,show(2:Int)^64=18446744073709551616 from rfl];split<;>omega
theorem sx15_id {u:Int}(h0: -32768<=u)(h1:u<32768):sx 15 u=u:=by
 unfold sx;rw[show(2:Int)^(15+1)=65536 from rfl,show(2:Int)^15=32768 from rfl,show(2:Int)^64=18446744073709551616 from rfl];split<;>omega
theorem ET {u:Int}(h0: -2147483648<=u)(h1:u<2147483648):sx 31 u=u:=by
 unfold sx;rw[show(2:Int)^(31+1)=4294967296 from rfl,show(2:Int)^31=2147483648 from rfl,show(2:Int)^64=18446744073709551616 from rfl];split<;>omega
section
variable {t:List UInt8}
theorem Ek {w:Int}(hw:w=1\/w=2\/w=4)(p:Pos): -(2:Int)^(8*w-1).toNat<=rdS t w p/\rdS t w p<2^(8*w-1).toNat:=Hy _ (by omega) _
theorem za (p:Pos): -128<=rdS t 1 p/\rdS t 1 p<128:=Ek (.inl rfl) p
theorem rdS2_bd (p:Pos): -32768<=rdS t 2 p/\rdS t 2 p<32768:=Ek (.inr (.inl rfl)) p
theorem zb (p:Pos): -2147483648<=rdS t 4 p/\rdS t 4 p<2147483648:=Ek (.inr (.inr rfl)) p
theorem yw {u z:Int}(hz:fq z):yu u z=true↔(z=1/\ -128<=u/\u<128)\/(z=2/\ -32768<=u/\u<32768)\/((z=4\/z=8)/\ -2147483648<=u/\u<2147483648):=by
 unfold yu fitsB
 rw[nJ]
 have h7: -128<=sx 7 u/\sx 7 u<128:=Hy 7 (by decide) u
 have h15: -32768<=sx 15 u/\sx 15 u<32768:=Hy 15 (by decide) u
 have h31: -2147483648<=sx 31 u/\sx 31 u<2147483648:=Hy 31 (by decide) u
 rcases hz with rfl|rfl|rfl|rfl
 ·show sx 7 u=u↔_
  constructor
  ·intro h;omega
  ·intro h;exact sx7_id (by omega) (by omega)
 ·show sx 15 u=u↔_
  constructor
  ·intro h;omega
  ·intro h;exact sx15_id (by omega) (by omega)
 ·show sx 31 u=u↔_
  constructor
  ·intro h;omega
  ·intro h;exact ET (by omega) (by omega)
 ·show sx 31 u=u↔_
  constructor
  ·intro h;omega
  ·intro h;exact ET (by omega) (by omega)
theorem n7 {z:Int}(hz:fq z)(p:Pos):yu (rdS t (gJ 4 z) p) z=true:=by
 rw[yw hz]
 have h1:=za (t:=t) p
 have h2:=rdS2_bd (t:=t) p
 have h4:=zb (t:=t) p
 rcases hz with rfl|rfl|rfl|rfl
 ·exact .inl ⟨rfl,h1⟩
 ·exact .inr (.inl ⟨rfl,h2⟩)
 ·exact .inr (.inr ⟨.inl rfl,h4⟩)
 ·exact .inr (.inr ⟨.inr rfl,h4⟩)
theorem uD {z:Int}(hz:fq z)(p:Pos):yu (rdS t 1 p) z=true:=by
 rw[yw hz]
 have h1:=za (t:=t) p
 unfold fq at hz
 omega
theorem tn {z:Int}(hz:fq z):yu 0 z=true:=by
 rw[yw hz]
 unfold fq at hz
 omega
def oOK (x z:Int)(o:Opd):Prop:=rV o z/\(x=0->¬sQ o z)/\(x≠0->¬Fy o)
theorem yX {x n z:Int}(h0:0<=n)(h15:n<=15)(h7:x=0->n<=7):oOK x z (qr (lc x n z)):=by
 unfold oOK rV sQ Fy opB Ig noP sd qr lc
 dsimp only
 split<;>refine⟨?_,?_,?_⟩<;>omega
theorem yV {x n z:Int}(h0:0<=n)(h15:n<=15)(h7:x=0->n<=7)(hz:z≠1\/n<=3):oOK x z (qr n):=by
 unfold oOK rV sQ Fy opB Ig noP sd qr
 dsimp only
 refine⟨?_,?_,?_⟩<;>omega
theorem j6 {x n z:Int}:oOK x z (wx n):=by
 unfold oOK rV sQ Fy opB Ig noP sd wx Cj
 dsimp only
 refine⟨?_,?_,?_⟩<;>omega
theorem mL {x z:Int}:oOK x z noD:=by
 unfold oOK rV sQ Fy opB Ig noP sd noD Cj
 dsimp only
 refine⟨?_,?_,?_⟩<;>omega
theorem yW {x z b i s d:Int}(h1:Cj 2 0 b i s d 0)(h2:x=0->(b<=7\/b=16)/\i<=7):oOK x z (memD b i s d):=by
 refine⟨.inr (.inl h1),fun hx hr=>?_,fun _ hn=>?_⟩
 ·have:=h2 hx
  clear h1
  unfold sQ Ig memD at hr
  dsimp only at hr
  omega
 ·unfold Fy noP memD at hn
  dsimp only at hn
  omega
theorem CQ {mod rm b:Int}(p:Pos): -2147483648<=Ch t (lF mod rm b) p/\Ch t (lF mod rm b) p<=2147483647:=by
 have h1:=za (t:=t) p
 have h4:=zb (t:=t) p
 have hw:lF mod rm b=0\/lF mod rm b=1\/lF mod rm b=4:=by unfold lF;(repeat' split)<;>decide
 unfold Ch
 rcases hw with h|h|h<;>rw[h]
 ·rw[if_pos rfl];omega
 ·rw[iD];omega
 ·rw[iD];omega
theorem Ef {b:Int}(h0:0<=b)(h1:b<256):(2:Int)^(b/64).toNat=1\/(2:Int)^(b/64).toNat=2\/(2:Int)^(b/64).toNat=4\/(2:Int)^(b/64).toNat=8:=by
 have:b/64=0\/b/64=1\/b/64=2\/b/64=3:=by omega
 rcases this with h|h|h|h<;>rw[h]<;>decide
theorem memM_ok {x mod rm z:Int}{p:Pos}(hp:p.In t)(hrm:0<=rm/\rm<=7):oOK x z (Ci t x mod rm p).1:=by
 have hb:=dL t p hp
 obtain⟨e0,e8,ez⟩:=lj (x:=x) (k:=0) (by decide)
 obtain⟨f0,f8,fz⟩:=lj (x:=x) (k:=1) (by decide)
 have e2:=ra (x:=x) (k:=1) (by decide)
 have hpw:=Ef hb.1 hb.2
 unfold Ci
 split
 ·refine yW ?_ ?_
  ·have hd:=CQ (t:=t) (mod:=mod) (rm:=rm) (b:=rdU t 1 p) (adv t 1 p)
   generalize Ch t (lF mod rm (rdU t 1 p)) (adv t 1 p)=d at hd|-
   generalize (2:Int)^(rdU t 1 p/64).toNat=s at hpw|-
   unfold Cj
   split<;>split<;>omega
  ·intro h
   split<;>split<;>omega
 ·split
  ·refine yW ?_ (fun _=>by omega)
   have h4: -2147483648<=Ch t 4 p/\Ch t 4 p<=2147483647:=by
    have:=zb (t:=t) p
    unfold Ch;rw[iD];omega
   generalize Ch t 4 p=d at h4|-
   unfold Cj;omega
  ·refine yW ?_ (fun _=>by omega)
   have hd:=CQ (t:=t) (mod:=mod) (rm:=rm) (b:=0) p
   generalize Ch t (lF mod rm 0) p=d at hd|-
   unfold Cj;omega
theorem plM_ok {x m z:Int}{p:Pos}(hp:p.In t):oOK x z (plM t x m z p).1:=by
 obtain⟨e0,e8,ez⟩:=lj (x:=x) (k:=0) (by decide)
 unfold plM
 split
 ·exact yX (by omega) (by omega) (by omega)
 ·exact memM_ok hp (by omega)
theorem Au (t:List UInt8)(x m z:Int)(p:Pos):((plM t x m z p).1.kind=1\/(plM t x m z p).1.kind=2)/\(plM t x m z p).1.imm=0/\(m/64≠3->(plM t x m z p).1.kind=2):=by
 unfold plM Ci
 split
 ·exact⟨.inl rfl,rfl,fun h=>absurd (by assumption) h⟩
 ·split
  ·exact⟨.inr rfl,rfl,fun _=>rfl⟩
  ·split
   ·exact⟨.inr rfl,rfl,fun _=>rfl⟩
   ·exact⟨.inr rfl,rfl,fun _=>rfl⟩
end
def BU (f op:Int)(by':Bool):Prop:=
 (f=1/\(1<=op/\op<=10\/op=28))\/(f=2/\(1<=op/\op<=9\/(op=17\/op=25\/op=36)/\by'=false))\/(f=3/\(1<=op/\op<=8\/op=10))\/(f=4/\1<=op/\op<=8)\/(f=5/\1<=op/\op<=9)
def BV (f op:Int)(by':Bool)(frm:Int):Prop:=
 (f=17/\by'=false/\(op=26/\(frm=1\/frm=2)\/op=27/\(frm=1\/frm=2\/frm=4)))\/(f=6/\(10<=op/\op<=16\/op=18\/op=19\/29<=op/\op<=32\/op=35/\by'=true))\/(f=7/\(op=29\/op=30))\/(f=8/\op=9)
def BW (f op:Int):Prop:=
 (f=9/\(op=32\/op=33))\/(f=15/\(op=29\/op=44))\/(f=10/\31<=op/\op<=33)\/(f=16/\op=29)\/((f=11\/f=12\/f=13)/\20<=op/\op<=24)
def BX (f op:Int)(by':Bool):Prop:=
 f=14/\(op=34\/op=37\/op=38\/op=43\/(op=39\/op=40)/\by'=false\/(op=41\/op=42)/\by'=true)
instance (f op:Int) (b:Bool):Decidable (BU f op b):=by unfold BU;infer_instance
instance (f op:Int) (b:Bool) (r:Int):Decidable (BV f op b r):=by unfold BV;infer_instance
instance (f op:Int):Decidable (BW f op):=by unfold BW;infer_instance
instance (f op:Int) (b:Bool):Decidable (BX f op b):=by unfold BX;infer_instance
def tabB (f op:Int)(by':Bool)(frm:Int):Bool:=decide ((BU f op by'\/BV f op by' frm\/BW f op\/BX f op by')/\(f≠17->frm=0))
def tabC (sec:Bool)(n:Nat):Bool:=
 decide ((shz sec n).2.1=0)||(if 0<(shz sec n).2.2.1 then(List.range 8).all fun d=>decide (grp (shz sec n).2.2.1.toNat d=0)||tabB (shz sec n).2.1 (grp (shz sec n).2.2.1.toNat d) (shz sec n).2.2.2.1 (shz sec n).2.2.2.2.1
  else tabB (shz sec n).2.1 (shz sec n).1 (shz sec n).2.2.2.1 (shz sec n).2.2.2.2.1)
theorem tab_F:∀n:Nat,n<256->tabC false n=true:=by decide +kernel
theorem tab_T:∀n:Nat,n<256->tabC true n=true:=by decide +kernel
theorem tab_all (sec:Bool){n:Nat}(h:n<256):tabC sec n=true:=by
 cases sec
 ·exact tab_F n h
 ·exact tab_T n h
section
variable {t:List UInt8}
theorem CX {p:Pos}{q:Int->Prop}[DecidablePred q]{k e:Int}(h:(exb p fun a=>if q a then .error k else .ok a:Except Int Int)= .ok e):p= .ok e/\¬q e:=by
 cases p with
 |error c=>cases h
 |ok b=>
  unfold exb at h
  dsimp only at h
  split at h
  ·cases h
  ·rename_i hn
   cases h;exact⟨rfl,hn⟩
theorem adv_ok {p:Pos}{n e:Int}(h:adv t n p= .ok e):∃b,p= .ok b/\b+n<=t.length/\e=b+n:=by
 cases p with
 |error c=>cases h
 |ok b=>
  unfold adv exb at h
  dsimp only at h
  split at h
  ·cases h;exact⟨b,rfl,by assumption,rfl⟩
  ·cases h
theorem CI {q:Pos}{e:Int}(hq:q.In t)(h:(oM t q).2.2= .ok e):
  tabB (zM t q).2.1 (opM t q) (zM t q).2.2.2.1 (zM t q).2.2.2.2.1=true/\qx (wdM t q) (zM t q).2.2.2.1 (zM t q).2.2.2.2.1 (opM t q) (zsM t q) (mM t q)=0:=by
 have hb:=lg hq
 have hm:=mg hq
 cases h9:p9M t q with
 |error c=>rw[show(oM t q).2.2= .error c from Ap h9]at h;cases h
 |ok a9=>
  obtain⟨h8,hbad⟩:=CX (q:=fun _=>qx (wdM t q) (zM t q).2.2.2.1 (zM t q).2.2.2.2.1 (opM t q) (zsM t q) (mM t q)≠0) h9
  obtain⟨h7,hop⟩:=CX (q:=fun _=>yz (zM t q)=true/\opM t q=0) h8
  have h6:∃b,p6M t q= .ok b:=by
   unfold p7M at h7
   split at h7
   ·obtain⟨b,hb,_⟩:=adv_ok h7;exact⟨b,hb⟩
   ·exact⟨_,h7⟩
  obtain⟨b6,h6⟩:=h6
  obtain⟨_,hf⟩:=CX (q:=fun _=>(zM t q).2.1=0) h6
  refine⟨?_,Decidable.not_not.1 hbad⟩
  have ht:=tab_all (vM t q) (show(bM t q).toNat<256 by omega)
  unfold tabC at ht
  have hf':¬(shz (vM t q) (bM t q).toNat).2.1=0:=hf
  rw[decide_eq_false hf',Bool.false_or]at ht
  change (if 0<(zM t q).2.2.1 then _ else tabB (zM t q).2.1 (zM t q).1 (zM t q).2.2.2.1 (zM t q).2.2.2.2.1)=true at ht
  by_cases hg:0<(zM t q).2.2.1
  ·rw[if_pos hg]at ht
   have hgB:yz (zM t q)=true:=decide_eq_true hg
   have eo:opM t q=grp (zM t q).2.2.1.toNat (mM t q/8%8).toNat:=by unfold opM;rw[hgB,if_pos rfl]
   have:=List.all_eq_true.1 ht (mM t q/8%8).toNat (List.mem_range.2 (by omega))
   change (decide (grp (zM t q).2.2.1.toNat _=0)||tabB (zM t q).2.1 (grp (zM t q).2.2.1.toNat _) (zM t q).2.2.2.1 (zM t q).2.2.2.2.1)=true at this
   rw[<-eo,decide_eq_false (fun g=>hop ⟨hgB,g⟩),Bool.false_or]at this
   exact this
  ·rw[if_neg hg]at ht
   have hgB:yz (zM t q)=false:=decide_eq_false hg
   have eo:opM t q=(zM t q).1:=by unfold opM;rw[hgB,iD]
   rw[eo];exact ht
theorem szM_val (by' w:Bool)(op x:Int):(cR op=true->szM by' op w x=8)/\(cR op=false->eK op=true->szM by' op w x=0)/\(cR op=false->eK op=false->(by'=true->szM by' op w x=1)/\(by'=false->szM by' op w x=2\/szM by' op w x=4\/szM by' op w x=8/\x≠0)):=by
 unfold szM
 refine⟨fun h=>by rw[if_pos h],fun h g=>by rw[if_neg (by rw[h];decide),if_pos g],fun h g=>⟨fun k=>?_,fun k=>?_⟩⟩
 ·rw[if_neg (by rw[h];decide),if_neg (by rw[g];decide),if_pos k]
 ·rw[if_neg (by rw[h];decide),if_neg (by rw[g];decide),if_neg (by rw[k];decide)]
  split
  ·right;right;exact⟨rfl,by rintro rfl;omega⟩
  ·split
   ·exact .inl rfl
   ·exact .inr (.inl rfl)
def kOK (n:Nat)(kd ks:Int):Bool:=(prK n).any (xh kd ks)
theorem k_f1:∀n,n<45->(1<=n/\n<=10\/n=28)->kOK n 1 1=true/\kOK n 2 1=true:=by decide +kernel
theorem k_f2:∀n,n<45->(1<=n/\n<=9\/n=17\/n=36\/n=26\/n=27)->kOK n 1 1=true/\kOK n 1 2=true:=by decide +kernel
theorem k_lea:kOK 25 1 2=true:=by decide +kernel
theorem k_ri:∀n,n<45->(1<=n/\n<=10\/20<=n/\n<=24)->kOK n 1 3=true/\kOK n 2 3=true:=by decide +kernel
theorem k_sh:∀n,n<45->20<=n->n<=24->kOK n 1 1=true/\kOK n 2 1=true:=by decide +kernel
theorem k_r0:∀n,n<45->(n=11\/n=12\/n=18\/n=19\/n=30\/n=35)->kOK n 1 0=true/\kOK n 2 0=true:=by decide +kernel
theorem k_0r:∀n,n<45->(13<=n/\n<=16\/n=29\/n=31\/n=32)->kOK n 0 1=true/\kOK n 0 2=true:=by decide +kernel
theorem k_0i:∀n,n<45->(n=29\/n=31\/n=32\/n=33\/n=44)->kOK n 0 3=true:=by decide +kernel
theorem k_00:∀n,n<45->(n=34\/37<=n/\n<=43)->kOK n 0 0=true:=by decide +kernel
end
theorem tO {x:Ins}{n:Nat}(h:n<=8\/n=10):xR x n=yu x.src.imm x.size:=by unfold xR;rw[if_pos h]
theorem Ak {x:Ins}:xR x 9=(decide (x.size=8/\x.dst.kind=1)||yu x.src.imm x.size):=by unfold xR;rw[iD,if_pos rfl]
theorem yU {x:Ins}{n:Nat}(h:20<=n/\n<=24):xR x n=decide (¬(x.src.kind=1/\x.src.reg≠1)/\0<=x.src.imm/\x.src.imm<=255):=by
 unfold xR;rw[iN,iN,if_pos h]
theorem numB_26 {x:Ins}:xR x 26=decide (x.frm=1\/x.frm=2/\2<x.size):=rfl
theorem numB_27 {x:Ins}:xR x 27=decide (x.frm=1\/x.frm=2/\2<x.size\/x.frm=4/\x.size=8):=rfl
theorem pG {x:Ins}{n:Nat}(h:n=29\/n=31\/n=32\/n=33):xR x n=yu x.src.imm 4:=by rcases h with rfl|rfl|rfl|rfl<;>rfl
theorem numB_44 {x:Ins}:xR x 44=decide (0<=x.src.imm/\x.src.imm<=255):=rfl
theorem qc {x:Ins}{n:Nat}(h:11<=n/\n<=19\/n=25\/n=28\/n=30\/34<=n/\n<=43):xR x n=true:=by
 unfold xR;rw[iN,iN,iN,iN,iN,iN,iN]
structure SzV (z op:Int)(by':Bool)(x:Int):Prop where
 ve:29<=op/\op<=32->z=8
 vz:op=33\/op=34\/op=37\/op=38\/op=43\/op=44->z=0
 vb:¬(29<=op/\op<=34\/op=37\/op=38\/op=43\/op=44)->by'=true->z=1
 vn:¬(29<=op/\op<=34\/op=37\/op=38\/op=43\/op=44)->by'=false->z=2\/z=4\/z=8/\x≠0
theorem szV (by' w:Bool)(op x:Int):SzV (szM by' op w x) op by' x:=by
 obtain⟨h1,h2,h3⟩:=szM_val by' w op x
 have e8:cR op=true↔29<=op/\op<=32:=by unfold cR;rw[decide_eq_true_eq];omega
 have e0:eK op=true↔(op=33\/op=34\/op=37\/op=38\/op=43\/op=44):=by unfold eK;rw[decide_eq_true_eq]
 have n8:cR op=false↔¬(29<=op/\op<=32):=by rw[<-e8,Bool.not_eq_true]
 have n0:eK op=false↔¬(op=33\/op=34\/op=37\/op=38\/op=43\/op=44):=by rw[<-e0,Bool.not_eq_true]
 rw[e8]at h1
 rw[n8,e0]at h2
 rw[n8,n0]at h3
 refine⟨fun h=>h1 (by omega),fun h=>h2 (by omega) (by omega),fun h k=>?_,fun h k=>?_⟩
 ·exact(h3 (by omega) (by omega)).1 k
 ·exact(h3 (by omega) (by omega)).2 k
theorem sz_mem {f frm z x:Int}{by':Bool}{n:Nat}(h:tabB f n by' frm=true)(V:SzV z n by' x)(hn:1<=n)(hn2:n<45):z∈szL (szK n):=by
 have T:=(of_decide_eq_true h).1
 obtain⟨v1,v2,v3,v4⟩:=V
 unfold BU BV BW BX at T
 unfold szK szL
 cases by' with
 |true=>
  have v3:=fun g=>v3 g rfl
  clear v4
  simp only[Bool.true_eq_false,and_false,false_and,or_false,and_true,false_or]at T
  by_cases c0:n<=16\/n=18\/n=19\/(20<=n/\n<=24)\/n=28
  ·rw[if_pos c0,if_pos rfl];simp only[List.mem_cons,List.not_mem_nil,or_false];omega
  rw[if_neg c0]
  by_cases c1:n=17\/n=25\/n=26\/n=27\/n=36\/n=39\/n=40
  ·omega
  rw[if_neg c1]
  by_cases c2:29<=n/\n<=32
  ·rw[if_pos c2,iD,iD,if_pos rfl];simp only[List.mem_cons,List.not_mem_nil,or_false];omega
  rw[if_neg c2]
  by_cases c3:n=35\/n=41\/n=42
  ·rw[if_pos c3,iD,iD,iD,if_pos rfl];simp only[List.mem_cons,List.not_mem_nil,or_false];omega
  rw[if_neg c3,iD,iD,iD,iD];simp only[List.mem_cons,List.not_mem_nil,or_false];omega
 |false=>
  have v4:=fun g=>v4 g rfl
  clear v3
  simp only[Bool.false_eq_true,and_false,or_false,and_true,true_and]at T
  by_cases c0:n<=16\/n=18\/n=19\/(20<=n/\n<=24)\/n=28
  ·rw[if_pos c0,if_pos rfl];simp only[List.mem_cons,List.not_mem_nil,or_false];omega
  rw[if_neg c0]
  by_cases c1:n=17\/n=25\/n=26\/n=27\/n=36\/n=39\/n=40
  ·rw[if_pos c1,iD,if_pos rfl];simp only[List.mem_cons,List.not_mem_nil,or_false];omega
  rw[if_neg c1]
  by_cases c2:29<=n/\n<=32
  ·rw[if_pos c2,iD,iD,if_pos rfl];simp only[List.mem_cons,List.not_mem_nil,or_false];omega
  rw[if_neg c2]
  by_cases c3:n=35\/n=41\/n=42
  ·omega
  rw[if_neg c3,iD,iD,iD,iD];simp only[List.mem_cons,List.not_mem_nil,or_false];omega
theorem insP_of {op z cd frm len x:Int}{D S:Opd}{n:Nat}(hlen:0<=len/\len<=15)(hcd:0<=cd/\cd<=15)(hcz:(n=33\/n=35\/n=36)\/cd=0)(hfrm:(n=26\/n=27)\/frm=0)(hsz:z∈szL (szK n))
  (hk:kOK n D.kind S.kind=true) (hnum:xR ⟨op,z,cd,frm,D,S,len⟩ n=true) (hD:oOK x z D) (hS:oOK x (sSz ⟨op,z,cd,frm,D,S,len⟩ n) S) (hx:x=0->z≠8\/29<=n/\n<=32):HX ⟨op,z,cd,frm,D,S,len⟩ n:=by
 refine⟨hlen.1,hlen.2,?_,hfrm,hcz,hcd.1,hcd.2,hD.1,hS.1,?_⟩
 ·unfold shB
  rw[hnum,decide_eq_true hsz]
  show(true&&(kOK n D.kind S.kind&&true))=true
  rw[hk];rfl
 ·by_cases h0:x=0
  ·exact .inr ⟨hD.2.1 h0,hS.2.1 h0,hx h0⟩
  ·exact .inl fun g=>g.elim (hD.2.2 h0) (hS.2.2 h0)
section
variable {t:List UInt8}
theorem Cy {w by':Bool}{frm op z m:Int}(h:qx w by' frm op z m=0):(frm=4->z=8)/\((frm=1\/frm=2)->frm<z)/\¬(op=25/\m/64=3):=by
 unfold qx at h
 split at h
 ·omega
 ·rename_i g
  split at h
  ·omega
  ·rename_i g2
   refine⟨fun h4=>?_,fun h4=>?_,g2⟩
   ·by_cases h8:z=8
    ·exact h8
    ·exact absurd (.inr (.inl ⟨h4,h8⟩)) g
   ·by_cases h8:z<=frm
    ·exact absurd (.inr (.inr ⟨h4,h8⟩)) g
    ·omega
theorem Et {x:Ins}{n:Nat}(h:¬(20<=n/\n<=24))(hf:x.frm=0):sSz x n=x.size:=by unfold sSz;rw[if_neg h,hf,iD]
theorem sSz_f {x:Ins}{n:Nat}(h:¬(20<=n/\n<=24))(hf:0<x.frm):sSz x n=x.frm:=by unfold sSz;rw[if_neg h,if_pos hf]
theorem sSz_8 {x:Ins}{n:Nat}(h:20<=n/\n<=24):sSz x n=8:=by unfold sSz;rw[if_pos h]
theorem Hr {z x op:Int}{by':Bool}(V:SzV z op by' x)(h:¬(op=33\/op=34\/op=37\/op=38\/op=43\/op=44)):fq z:=by
 obtain⟨v1,_,v3,v4⟩:=V
 unfold fq
 by_cases h8:29<=op/\op<=32
 ·have:=v1 h8;omega
 ·cases hb:by' with
  |true=>have:=v3 (by omega) hb;omega
  |false=>have:=v4 (by omega) hb;omega
theorem GQ {f frm z x b m cd len:Int}{w by':Bool}{n:Nat}{p:Pos}(hp:p.In t)(hn:1<=n)(hn2:n<45)(hT:tabB f n by' frm=true)(V:SzV z n by' x)(hm0:0<=m)(hm:m<256)
  (hbad:qx w by' frm n z m=0) (hlen:0<=len/\len<=15) (hcd:0<=cd/\cd<=15) (hcz:(n=33\/n=35\/n=36)\/cd=0):
  HX ⟨n,z,cd,frm,(oP t f frm n z x b m p).1,(oP t f frm n z x b m p).2.1,len⟩ n:=by
 have hsz:=sz_mem hT V hn hn2
 obtain⟨T,hfr⟩:=of_decide_eq_true hT
 obtain⟨b4,b12,blea⟩:=Cy hbad
 obtain⟨e0,e8,ez⟩:=lj (x:=x) (k:=0) (by decide)
 obtain⟨g0,g8,gz⟩:=lj (x:=x) (k:=2) (by decide)
 have hrg:∀z,oOK x z (qr (lc x (m/8%8+jN x 2) z)):=fun z=>yX (by omega) (by omega) (by omega)
 have hpl:∀z,oOK x z (plM t x m z p).1:=fun z=>plM_ok hp
 have hpk:=fun z=>Au t x m z p
 have hx8:x=0->z≠8\/29<=n/\n<=32:=fun h0=>by
  obtain⟨v1,v2,v3,v4⟩:=V
  by_cases h8:29<=n/\n<=32
  ·exact .inr h8
  ·left
   by_cases hz:(n:Int)=33\/(n:Int)=34\/(n:Int)=37\/(n:Int)=38\/(n:Int)=43\/(n:Int)=44
   ·have:=v2 hz;omega
   ·cases hby:by' with
    |true=>have:=v3 (by omega) hby;omega
    |false=>have:=v4 (by omega) hby;omega
 have hP:¬(n=33\/n=34\/n=37\/n=38\/n=43\/n=44)->fq z:=fun h=>Hr V (by omega)
 have f26:f≠17->(n=26\/n=27)\/frm=0:=fun h=> .inr (hfr h)
 have key:∀(D S:Opd) (q:Pos),oP t f frm n z x b m p=(D,S,q)->kOK n D.kind S.kind=true->xR ⟨n,z,cd,frm,D,S,len⟩ n=true->oOK x z D->oOK x (sSz ⟨n,z,cd,frm,D,S,len⟩ n) S->((n=26\/n=27)\/frm=0)->
   HX ⟨n,z,cd,frm,(oP t f frm n z x b m p).1,(oP t f frm n z x b m p).2.1,len⟩ n:=fun D S q e k1 k2 k3 k4 k5=>by
  rw[e]
  exact insP_of hlen hcd hcz k5 hsz k1 k2 k3 k4 hx8
 rcases T with T|T|T|T
 ·unfold BU at T
  rcases T with ⟨rfl,T⟩|⟨rfl,T⟩|⟨rfl,T⟩|⟨rfl,T⟩|⟨rfl,T⟩
  ·have hk:=k_f1 n hn2 (by omega)
   refine key _ _ _ rfl ?_ ?_ (hpl z) (by rw[Et (by omega) (hfr (by decide))];exact hrg z) (f26 (by decide))
   ·rcases(hpk z).1 with e|e<;>rw[e]
    ·exact hk.1
    ·exact hk.2
   ·by_cases h9:n=9
    ·subst h9;rw[Ak];simp[qr,tn (hP (by decide))]
    ·by_cases h28:n=28
     ·exact qc (by omega)
     ·rw[tO (by omega)];exact tn (hP (by omega))
  ·by_cases hl:n=25
   ·subst hl
    have hk2:=(hpk z).2.2 (fun g=>blea ⟨rfl,g⟩)
    refine key _ _ _ rfl ?_ (qc (by omega)) (hrg z) (by rw[Et (by omega) (hfr (by decide))];exact hpl z) (f26 (by decide))
    rw[hk2];exact k_lea
   ·have hk:=k_f2 n hn2 (by omega)
    refine key _ _ _ rfl ?_ ?_ (hrg z) (by rw[Et (by omega) (hfr (by decide))];exact hpl z) (f26 (by decide))
    ·rcases(hpk z).1 with e|e<;>rw[e]
     ·exact hk.1
     ·exact hk.2
    ·by_cases h9:n=9
     ·subst h9;rw[Ak,(hpk z).2.1,tn (hP (by decide)),Bool.or_true]
     ·by_cases h8:n<=8
      ·rw[tO (.inl h8),(hpk z).2.1];exact tn (hP (by omega))
      ·by_cases h17:n=17
       ·exact qc (by omega)
       ·have:n=36:=by omega
        exact qc (by omega)
  ·have hk:=k_ri n hn2 (by omega)
   refine key _ _ _ rfl hk.1 ?_ (yV (by omega) (by omega) (by omega) (.inr (by decide))) j6 (f26 (by decide))
   rw[tO (by omega)];exact n7 (hP (by omega)) _
  ·have hk:=k_ri n hn2 (by omega)
   refine key _ _ _ rfl ?_ ?_ (hpl z) j6 (f26 (by decide))
   ·rcases(hpk z).1 with e|e<;>rw[e]
    ·exact hk.1
    ·exact hk.2
   ·rw[tO (by omega)];exact uD (hP (by omega)) _
  ·have hk:=k_ri n hn2 (by omega)
   refine key _ _ _ rfl ?_ ?_ (hpl z) j6 (f26 (by decide))
   ·rcases(hpk z).1 with e|e<;>rw[e]
    ·exact hk.1
    ·exact hk.2
   ·by_cases h9:n=9
    ·subst h9
     rw[Ak]
     show(_||yu (rdS t (gJ 4 z) _) z)=true
     rw[n7 (hP (by decide)),Bool.or_true]
    ·rw[tO (by omega)];exact n7 (hP (by omega)) _
 ·unfold BV at T
  rcases T with ⟨rfl,hby,T⟩|⟨rfl,T⟩|⟨rfl,T⟩|⟨rfl,T⟩
  ·have hk:=k_f2 n hn2 (by omega)
   refine key _ _ _ rfl ?_ ?_ (hrg z) (by rw[sSz_f (by omega) (show 0<frm by omega)];exact hpl frm) (.inl (by omega))
   ·rcases(hpk frm).1 with e|e<;>rw[e]
    ·exact hk.1
    ·exact hk.2
   ·by_cases h26:n=26
    ·subst h26;rw[numB_26];exact decide_eq_true (by dsimp only;omega)
    ·obtain rfl:n=27:=by omega
     rw[numB_27];exact decide_eq_true (by dsimp only;omega)
  ·by_cases hs:BQ n=true
   ·have hs2:=of_decide_eq_true hs
    have hk:=k_0r n hn2 (by omega)
    refine key _ _ (plM t x m z p).2 (show nF t n z (plM t x m z p)=_ by unfold nF;rw[if_pos hs]) ?_ ?_ mL (by rw[Et (by omega) (hfr (by decide))];exact hpl z) (f26 (by decide))
    ·rcases(hpk z).1 with e|e<;>rw[e]
     ·exact hk.1
     ·exact hk.2
    ·by_cases h16:n<=16
     ·exact qc (by omega)
     ·rw[pG (by omega),(hpk z).2.1];exact tn (.inr (.inr (.inl rfl)))
   ·have hs2:=of_decide_eq_false (by rw[Bool.not_eq_true]at hs;exact hs)
    by_cases h10:n=10
    ·subst h10
     have hk:=k_ri 10 hn2 (by omega)
     refine key _ _ _ (show nF t 10 z (plM t x m z p)=(_,wx (rdS t (gJ 4 z) (plM t x m z p).2),adv t (gJ 4 z) (plM t x m z p).2)from rfl) ?_ ?_ (hpl z) j6 (f26 (by decide))
     ·rcases(hpk z).1 with e|e<;>rw[e]
      ·exact hk.1
      ·exact hk.2
     ·rw[tO (by omega)];exact n7 (hP (by omega)) _
    ·have hk:=k_r0 n hn2 (by omega)
     refine key _ _ (plM t x m z p).2 (show nF t n z (plM t x m z p)=_ by unfold nF;rw[if_neg hs,iN]) ?_ (qc (by omega)) (hpl z) mL (f26 (by decide))
     rcases(hpk z).1 with e|e<;>rw[e]
     ·exact hk.1
     ·exact hk.2
  ·have z8:z=8:=V.ve (by omega)
   have hr:oOK x z (qr (b%8+jN x 0)):=yV (by omega) (by omega) (by omega) (.inl (by omega))
   by_cases h29:n=29
   ·subst h29
    refine key _ _ p rfl (k_0r 29 (by decide) (by decide)).1 (by rw[pG (by omega)];exact tn (.inr (.inr (.inl rfl)))) mL (by rw[Et (by omega) (hfr (by decide))];exact hr) (f26 (by decide))
   ·obtain rfl:n=30:=by omega
    exact key _ _ p rfl (k_r0 30 (by decide) (by decide)).1 (qc (by omega)) hr mL (f26 (by decide))
  ·obtain rfl:n=9:=by omega
   refine key _ _ _ rfl (k_ri 9 (by decide) (by decide)).1 ?_ (yX (by omega) (by omega) (by omega)) j6 (f26 (by decide))
   rw[Ak]
   by_cases z8:z=8
   ·rw[Bool.or_eq_true];exact .inl (decide_eq_true ⟨z8,rfl⟩)
   ·show(_||yu (rdS t z p) z)=true
    have e:gJ 4 z=z:=by have:=hP (by decide);unfold fq at this;rcases this with rfl|rfl|rfl|rfl<;>first|rfl|exact absurd rfl z8
    have:=n7 (t:=t) (hP (by decide)) p
    rw[e]at this
    rw[this,Bool.or_true]
 ·unfold BW at T
  rcases T with ⟨rfl,T⟩|⟨rfl,T⟩|⟨rfl,T⟩|⟨rfl,T⟩|⟨T',T⟩
  ·refine key _ _ _ rfl (k_0i n hn2 (by omega)) ?_ mL j6 (f26 (by decide))
   rw[pG (by omega)];exact uD (.inr (.inr (.inl rfl))) _
  ·by_cases h44:n=44
   ·subst h44
    have hr:=dL t p hp
    refine key _ _ _ rfl (k_0i 44 hn2 (by omega)) ?_ mL j6 (f26 (by decide))
    rw[numB_44];exact decide_eq_true (by show 0<=rdU t 1 p/\rdU t 1 p<=255;omega)
   ·obtain rfl:n=29:=by omega
    refine key _ _ _ rfl (k_0i 29 hn2 (by omega)) ?_ mL j6 (f26 (by decide))
    rw[pG (by omega)];exact uD (.inr (.inr (.inl rfl))) _
  ·refine key _ _ _ rfl (k_0i n hn2 (by omega)) ?_ mL j6 (f26 (by decide))
   rw[pG (by omega)];exact n7 (z:=4) (.inr (.inr (.inl rfl))) _
  ·refine key _ _ _ rfl (k_0i n hn2 (by omega)) ?_ mL j6 (f26 (by decide))
   rw[pG (by omega)];exact n7 (z:=4) (.inr (.inr (.inl rfl))) _
  ·have hk:=k_ri n hn2 (by omega)
   have hkr:=k_sh n hn2 (by omega) (by omega)
   rcases T' with rfl|rfl|rfl
   ·have hr:=dL t (plM t x m z p).2 (jT hp)
    refine key _ _ _ rfl ?_ ?_ (hpl z) j6 (f26 (by decide))
    ·rcases(hpk z).1 with e|e<;>rw[e]
     ·exact hk.1
     ·exact hk.2
    ·rw[yU (by omega)]
     refine decide_eq_true ⟨fun g=>?_,?_⟩
     ·exact absurd g.1 (by show ¬(3:Int)=1;decide)
     ·show 0<=rdU t 1 _/\rdU t 1 _<=255;omega
   ·refine key _ _ _ rfl ?_ ?_ (hpl z) j6 (f26 (by decide))
    ·rcases(hpk z).1 with e|e<;>rw[e]
     ·exact hk.1
     ·exact hk.2
    ·rw[yU (by omega)]
     exact decide_eq_true ⟨fun g=>absurd g.1 (by show ¬(3:Int)=1;decide),by show(0:Int)<=1/\(1:Int)<=255;decide⟩
   ·refine key _ _ _ rfl ?_ ?_ (hpl z) (by rw[sSz_8 (by omega)];exact yV (by decide) (by decide) (by omega) (.inl (by decide))) (f26 (by decide))
    ·rcases(hpk z).1 with e|e<;>rw[e]
     ·exact hkr.1
     ·exact hkr.2
    ·rw[yU (by omega)]
     exact decide_eq_true ⟨fun g=>absurd rfl g.2,by show(0:Int)<=0/\(0:Int)<=255;decide⟩
 ·unfold BX at T
  obtain⟨rfl,T⟩:=T
  exact key _ _ p rfl (k_00 n hn2 (by omega)) (qc (by omega)) mL mL (f26 (by decide))
theorem FU {at0 e:Int}(h0:0<=at0)(h1:at0<=t.length)(h:(oM t (.ok at0)).2.2= .ok e):
  ∃n:Nat,1<=n/\n<45/\(nY t at0).1.op=n/\HX (nY t at0).1 n/\(nY t at0).2=0/\(nY t at0).1.len=e-at0/\1<=e-at0/\e<=t.length:=by
 have hq:Pos.In (.ok at0) t:=fun a ha=>by cases ha;exact⟨h0,h1⟩
 obtain⟨hT,hbad⟩:=CI hq h
 have ho:=xc hq
 have hb:=lg hq
 have hm:=mg hq
 have hl:=decLen h0 h1 h
 obtain⟨n,hn⟩:=Int.eq_ofNat_of_zero_le ho.1
 have hT1:=(of_decide_eq_true hT).1
 have hn1:1<=n:=by
  unfold BU BV BW BX at hT1
  omega
 rw[yg h]
 refine⟨n,hn1,by omega,hn,?_,rfl,rfl,by omega,hl.2.2⟩
 have hp9:(p9M t (.ok at0)).In t:=tT hq
 unfold oM
 rw[hn]at hT hbad|-
 refine GQ hp9 hn1 (by omega) hT ?_ hm.1 hm.2 hbad (by omega) ?_ ?_
 ·unfold zsM;rw[hn];exact szV ..
 ·unfold cdM;split<;>omega
 ·unfold cdM;rw[hn];split<;>omega
def Ne0 (p:Pos):Prop:=∀c,p= .error c->c≠0
theorem jJ {n:Int}{p:Pos}(h:Ne0 p):Ne0 (adv t n p):=fun c hc=>by
 cases p with
 |error k=>cases hc;exact h _ rfl
 |ok b=>
  unfold adv exb at hc
  dsimp only at hc
  split at hc
  ·cases hc
  ·cases hc;decide
theorem zV {p:Pos}{q:Int->Prop}[DecidablePred q]{k:Int}(h:Ne0 p)(hk:(∃a,q a)->k≠0):Ne0 (exb p fun a=>if q a then .error k else .ok a):=fun c hc=>by
 cases p with
 |error k=>cases hc;exact h _ rfl
 |ok b=>
  unfold exb at hc
  dsimp only at hc
  split at hc
  ·rename_i g;cases hc;exact hk ⟨b,g⟩
  ·cases hc
theorem yn {w:Int}{p:Pos}(h:Ne0 p):Ne0 (CP t w p):=by
 unfold CP;split
 ·exact h
 ·exact jJ h
theorem mQ {x m z:Int}{p:Pos}(h:Ne0 p):Ne0 (plM t x m z p).2:=by
 unfold plM Ci
 split
 ·exact h
 ·split
  ·exact yn (jJ h)
  ·split
   ·exact yn (w:=4) h
   ·exact yn h
theorem opsM_ne {f frm op z x b m:Int}{p:Pos}(h:Ne0 p):Ne0 (oP t f frm op z x b m p).2.2:=by
 unfold oP
 by_cases f1:f=1
 ·rw[if_pos f1]
  exact mQ h
 rw[if_neg f1]
 by_cases f2:f=2
 ·rw[if_pos f2]
  exact mQ h
 rw[if_neg f2]
 by_cases f17:f=17
 ·rw[if_pos f17]
  exact mQ h
 rw[if_neg f17]
 by_cases f3:f=3
 ·rw[if_pos f3]
  exact jJ h
 rw[if_neg f3]
 by_cases f4:f=4
 ·rw[if_pos f4]
  exact jJ (mQ h)
 rw[if_neg f4]
 by_cases f5:f=5
 ·rw[if_pos f5]
  exact jJ (mQ h)
 rw[if_neg f5]
 by_cases f6:f=6
 ·rw[if_pos f6]
  unfold nF
  cases BQ op
  ·rw[iD]
   by_cases ho:op=10
   ·rw[if_pos ho]
    exact jJ (mQ h)
   ·rw[if_neg ho]
    exact mQ h
  ·rw[if_pos rfl]
   exact mQ h
 rw[if_neg f6]
 by_cases f7:f=7
 ·rw[if_pos f7]
  by_cases ho:op=29
  ·rw[if_pos ho]
   exact h
  ·rw[if_neg ho]
   exact h
 rw[if_neg f7]
 by_cases f8:f=8
 ·rw[if_pos f8]
  exact jJ h
 rw[if_neg f8]
 by_cases f9:f=9
 ·rw[if_pos f9]
  exact jJ h
 rw[if_neg f9]
 by_cases f15:f=15
 ·rw[if_pos f15]
  exact jJ h
 rw[if_neg f15]
 by_cases f10:f=10\/f=16
 ·rw[if_pos f10]
  exact jJ h
 rw[if_neg f10]
 by_cases f11:f=11
 ·rw[if_pos f11]
  exact jJ (mQ h)
 rw[if_neg f11]
 by_cases f12:f=12
 ·rw[if_pos f12]
  exact mQ h
 rw[if_neg f12]
 by_cases f13:f=13
 ·rw[if_pos f13]
  exact mQ h
 rw[if_neg f13]
 exact h
theorem p9_ne {q:Pos}(h:Ne0 q):Ne0 (p9M t q):=by
 refine zV (q:=fun _=>qx (wdM t q) (zM t q).2.2.2.1 (zM t q).2.2.2.2.1 (opM t q) (zsM t q) (mM t q)≠0) (zV (q:=fun _=>yz (zM t q)=true/\opM t q=0) ?_ (fun _=>by decide)) (fun⟨_,g⟩=>g)
 have h1:Ne0 (p1M t q):=by unfold p1M;split;exact jJ h;exact h
 have h2:Ne0 (p2M t q):=zV (q:=fun _=>pkB t (p1M t q)∈qI) h1 (fun _=>by decide)
 have h3:Ne0 (p3M t q):=by unfold p3M;split;exact jJ h2;exact h2
 have h5:Ne0 (p5M t q):=by unfold p5M;split;exact jJ (jJ h3);exact jJ h3
 have h6:Ne0 (p6M t q):=zV (q:=fun _=>(zM t q).2.1=0) h5 (fun _=>by decide)
 unfold p7M;split;exact jJ h6;exact h6
theorem FT {at0:Int}(h0:0<=at0)(h1:at0<=t.length):((∃n:Nat,1<=n/\n<45/\(nY t at0).1.op=n/\HX (nY t at0).1 n)/\(nY t at0).2=0/\1<=(nY t at0).1.len/\at0+(nY t at0).1.len<=t.length)\/((nY t at0).1=uq/\(nY t at0).2≠0):=by
 cases h:(oM t (.ok at0)).2.2 with
 |ok e=>
  obtain⟨n,a1,a2,a3,a4,a5,a6,a7,a8⟩:=FU h0 h1 h
  exact .inl ⟨⟨n,a1,a2,a3,a4⟩,a5,by omega,by omega⟩
 |error c=>
  have hne:c≠0:=opsM_ne (p9_ne (t:=t) (q:= .ok at0) (fun c hc=>by cases hc)) c h
  have e:nY t at0=(uq,c):=by unfold nY;rw[h]
  rw[e]
  exact .inr ⟨rfl,hne⟩
end
section
variable {t:List UInt8}
theorem rdU_I64 (n:Int)(p:Pos):I64 (rdU t n p):=by
 unfold rdU
 cases p with
 |error _=>show I64 0;decide
 |ok a=>
  dsimp only
  split
  ·exact Gw t a n
  ·decide
theorem rdS_I64 (n:Int)(h:n<=8)(p:Pos):I64 (rdS t n p):=iF _ (by omega) _
theorem GP {f frm op z x b m:Int}{p:Pos}(hz:z<=8):I64 (oP t f frm op z x b m p).1.imm/\I64 (oP t f frm op z x b m p).2.1.imm:=by
 have i0:I64 0:=by decide
 have pl:∀z,I64 (plM t x m z p).1.imm:=fun z=>by rw[(Au t x m z p).2.1];decide
 have h4:gJ 4 z<=8:=by unfold gJ;split<;>omega
 have rs:∀(n:Int),n<=8->∀q,I64 (rdS t n q):=fun n h q=>rdS_I64 n h q
 have ru:∀q,I64 (rdU t 1 q):=rdU_I64 1
 unfold oP
 by_cases f1:f=1
 ·rw[if_pos f1]
  exact⟨(pl z),i0⟩
 rw[if_neg f1]
 by_cases f2:f=2
 ·rw[if_pos f2]
  exact⟨i0,(pl z)⟩
 rw[if_neg f2]
 by_cases f17:f=17
 ·rw[if_pos f17]
  exact⟨i0,(pl frm)⟩
 rw[if_neg f17]
 by_cases f3:f=3
 ·rw[if_pos f3]
  exact⟨i0,rs _ (by omega) _⟩
 rw[if_neg f3]
 by_cases f4:f=4
 ·rw[if_pos f4]
  exact⟨(pl z),rs _ (by omega) _⟩
 rw[if_neg f4]
 by_cases f5:f=5
 ·rw[if_pos f5]
  exact⟨(pl z),rs _ (by omega) _⟩
 rw[if_neg f5]
 by_cases f6:f=6
 ·rw[if_pos f6]
  unfold nF
  cases BQ op
  ·rw[iD]
   by_cases ho:op=10
   ·rw[if_pos ho]
    exact⟨(pl z),rs _ (by omega) _⟩
   ·rw[if_neg ho]
    exact⟨(pl z),i0⟩
  ·rw[if_pos rfl]
   exact⟨i0,(pl z)⟩
 rw[if_neg f6]
 by_cases f7:f=7
 ·rw[if_pos f7]
  by_cases ho:op=29
  ·rw[if_pos ho]
   exact⟨i0,i0⟩
  ·rw[if_neg ho]
   exact⟨i0,i0⟩
 rw[if_neg f7]
 by_cases f8:f=8
 ·rw[if_pos f8]
  exact⟨i0,rs _ (by omega) _⟩
 rw[if_neg f8]
 by_cases f9:f=9
 ·rw[if_pos f9]
  exact⟨i0,rs _ (by omega) _⟩
 rw[if_neg f9]
 by_cases f15:f=15
 ·rw[if_pos f15]
  refine⟨i0,?_⟩
  show I64 (if op=44 then rdU t 1 p else rdS t 1 p)
  split
  ·exact ru _
  ·exact rs _ (by omega) _
 rw[if_neg f15]
 by_cases f10:f=10\/f=16
 ·rw[if_pos f10]
  exact⟨i0,rs _ (by omega) _⟩
 rw[if_neg f10]
 by_cases f11:f=11
 ·rw[if_pos f11]
  exact⟨(pl z),ru _⟩
 rw[if_neg f11]
 by_cases f12:f=12
 ·rw[if_pos f12]
  exact⟨(pl z),by show I64 1;decide⟩
 rw[if_neg f12]
 by_cases f13:f=13
 ·rw[if_pos f13]
  exact⟨(pl z),i0⟩
 rw[if_neg f13]
 exact⟨i0,i0⟩
theorem dec_imm (at0:Int):I64 (nY t at0).1.dst.imm/\I64 (nY t at0).1.src.imm:=by
 have hz:zsM t (.ok at0)<=8:=by
  unfold zsM szM
  (repeat' split)<;>decide
 have h:=GP (t:=t) (f:=(zM t (.ok at0)).2.1) (frm:=(zM t (.ok at0)).2.2.2.2.1) (op:=opM t (.ok at0)) (x:=xM t (.ok at0)) (b:=bM t (.ok at0)) (m:=mM t (.ok at0)) (p:=p9M t (.ok at0)) hz
 unfold nY
 split
 ·exact h
 ·exact⟨(by decide:I64 0),(by decide:I64 0)⟩
end
noncomputable section
theorem iterP {σ α β:Type}{f:(σ->Option α)->σ->Option α}{g:(σ->Option β)->σ->Option β}(I:σ->Prop)(μ:σ->Nat)(R:Option α->Option β->Prop)
  (h:∀x r1 r2,I x->(∀y,I y->μ y<μ x->R (r1 y) (r2 y))->R (f r1 x) (g r2 x)):∀(n:Nat) (x:σ),I x->μ x<n->R (iter n f x) (iter n g x)
 |0,x,_,hm=>absurd hm (Nat.not_lt_zero _)
 |n+1,x,hI,hm=>h x (iter n f) (iter n g) hI fun y hy hlt=>iterP I μ R h n y hy (by omega)
theorem iterQ {σ τ α β:Type}{f:(σ->Option α)->σ->Option α}{g:(τ->Option β)->τ->Option β}(I:σ->τ->Prop)(μ:σ->Nat)(R:Option α->Option β->Prop)
  (h:∀x y r1 r2,I x y->(∀a b,I a b->μ a<μ x->R (r1 a) (r2 b))->R (f r1 x) (g r2 y)):∀(n:Nat) (x:σ) (y:τ),I x y->μ x<n->R (iter n f x) (iter n g y)
 |0,x,_,_,hm=>absurd hm (Nat.not_lt_zero _)
 |n+1,x,y,hI,hm=>h x y (iter n f) (iter n g) hI fun a b hy hlt=>iterQ I μ R h n a b hy (by omega)
theorem C4 {m:List Page}(hm:MemR m){a p:Int}(h:dh m a p 1 0=0):¬fnd m a<0:=by
 have:=lP hm 1 0 h 0 (Nat.le_refl 0) (by omega)
 rwa [show a+((0:Nat):Int)=a by omega]at this
theorem fnd_lo {m:List Page}(hm:MemR m){a:Int}(h:¬fnd m a<0):0<=a/\a<=65535:=by
 rcases ni hm a with h0|⟨i,hi,h0,b1,b2,r0,r1,_⟩
 ·rw[h0]at h;exact absurd (by decide) h
 ·exact⟨r0,r1⟩
theorem Ba {m:List Page}(hT:MemT m){a:Int}(ha:I64 a):
  ∃(t:List UInt8) (k:Int),t.length<=15/\gj (((m,()),a,()),())=some ((t,k,()),())/\gU (((m,()),a,()),())=some ((t,k,()),()):=by
 have hm:=hT.r
 have hl:=hT.len
 unfold gj gU
 dsimp only
 have f1:=kH m hm a 4 1 (by decide) (by decide) ha
 have f2:=kD m hm a 4 1 (by decide) ha (by decide) (by decide)
 have f1:bB (((m,()),a,1,4,()),())=_:=f1
 have f2:bu (((m,()),a,1,4,()),())=_:=f2
 rw[mo m (by omega) (by unfold F;omega),hT.ok,aa]
 dsimp only
 rw[bD,ak,f1,f2,aa,aa]
 dsimp only
 by_cases hf:dh m a 4 1 0=0
 rotate_left
 ·rw[aq hf,bS,aE,aE]
  exact⟨[],_,by simp,rfl,rfl⟩
 rw[hf,be rfl,bD,ak,ak]
 have hr:=fnd_lo hm (C4 hm hf)
 refine iterP (fun x=>∃n:Nat,1<=n/\n<=15/\(∀k,k<n->¬fnd m (a+(k:Nat))<0)/\x=((a,(n:Int),()),(m,()),())) (fun x=>15-x.1.2.1.toNat)
  (fun o1 o2=>∃(t:List UInt8) (k:Int),t.length<=15/\o1=some ((t,k,()),())/\o2=some ((t,k,()),())) ?_ F _ ⟨1,by decide,by decide,fun k hk=>by rw[show k=0 by omega,show a+((0:Nat):Int)=a by omega];exact C4 hm hf,rfl⟩ (by unfold F;simp)
 rintro _ r1 r2 ⟨n,n1,n2,hok,rfl⟩ hrec
 dsimp only
 have hI:I64 (a+n):=by unfold I64;omega
 have fin:∃(t:List UInt8) (k:Int),t.length<=15/\(bnd (dl (((m,()),a,(n:Int),()),())) (fun x7=>some ((x7.1,0,()),())))=some ((t,k,()),())/\(bnd (bH (((m,()),a,(n:Int),()),())) (fun x7=>some ((x7.1,(0:Int),()),())))=some ((t,k,()),()):=by
  rw[Dg m hm a n (by omega) ha hok,uj m hm a n (by omega) ha hok]
  exact⟨_,0,by rw[pb];simp;omega,rfl,rfl⟩
 by_cases hn:n<15
 ·have g1:=kH m hm (a+n) 4 1 (by decide) (by decide) hI
  have g2:=kD m hm (a+n) 4 1 (by decide) hI (by decide) (by decide)
  have g1:bB (((m,()),a+n,1,4,()),())=_:=g1
  have g2:bu (((m,()),a+n,1,4,()),())=_:=g2
  rw[fP (show(n:Int)<15 by omega),aE,aE,aH,g1,g2,aa,aa]
  dsimp only
  simp only[aa]
  by_cases hg:dh m (a+n) 4 1 0=0
  ·rw[be hg,aE,aE,aH]
   refine hrec _ ⟨n+1,by omega,by omega,fun k hk=>?_,rfl⟩ (by dsimp only;omega)
   by_cases hkn:k=n
   ·rw[hkn];exact C4 hm hg
   ·exact hok k (by omega)
  ·rw[aq hg,ak,ak]
   exact fin
 ·rw[fL (show ¬(n:Int)<15 by omega),ak,ak]
  simp only[aa,ak]
  exact fin
theorem exM_rip {g:List Int}{rip fl:Int}{m:List Page}{x:Ins}{n z:Nat}(hm:MemT m)(hg:iH g)(hx:ExV x n):I64 (exM g rip fl m x n z).2.1:=by
 have hs:(MS.mk g m 0 []).ok 0:=⟨hm,Nat.le_refl 0,hg⟩
 have hnx:I64 (aA .i64 rip x.len):=au _
 unfold exM
 dsimp only
 split
 ·exact hnx
 split
 ·exact hnx
 split
 rotate_left
 ·exact hnx
 have h8:(n=31\/n=32\/n=29)->OpV x.src 8:=fun h=>by
  have hsv:=hx.sv
  rwa [show sSz x n=x.size from by unfold sSz;rw[iN,hx.fr.2 (by omega),iD],hx.szs.2.2.1 (by omega)]at hsv
 unfold MS.flow
 by_cases h29:n=29
 ·rw[if_pos h29];exact hnx
 rw[if_neg h29]
 by_cases h30:n=30
 ·rw[if_pos h30];exact hnx
 rw[if_neg h30]
 by_cases h31:n=31
 ·rw[if_pos h31];exact(hs.go _ (h8 (by omega))).2
 rw[if_neg h31]
 by_cases h34:n=34
 ·rw[if_pos h34];exact hs.po.2.1
 rw[if_neg h34]
 by_cases h32:n=32
 ·rw[if_pos h32];exact(hs.go _ (h8 (by omega))).2
 rw[if_neg h32]
 by_cases h33:n=33
 ·rw[if_pos h33]
  have hk3:=hx.kd.2.2.2.2.2.2.2.1 h33
  split
  ·unfold MS.go;rw[if_pos hk3];exact au _
  ·exact hnx
 rw[if_neg h33]
 repeat' split
 all_goals exact hnx
theorem An {o:Opd}{z:Int}(h:rV o z):I64 o.disp:=by
 unfold rV opB Cj at h
 unfold I64
 omega
structure StOK (g:List Int)(p f:Int)(m:List Page):Prop where
 mT:MemT m
 gT:iH g
 fT:I64 f
 bT:bU f=true
 pT:I64 p
theorem EJ {g:List Int}{rip fl:Int}{m:List Page}(hS:StOK g rip fl m):
  ∃(g':List Int) (p' f':Int) (m':List Page) (l':List Acc) (k':Int),StOK g' p' f' m'/\(1<=l'.length/\l'.length<=1000)/\
   io (((g,rip,fl,()),(m,()),()),())=some (((g',p',f',()),(m',()),l',k',()),())/\
   kO (((g,rip,fl,()),(m,()),()),())=some (((g',p',f',()),(),k',()),m',l',()):=by
 obtain⟨t,k,ht,e1,e2⟩:=Ba hS.mT hS.pT
 have hlen:=hS.mT.len
 have hcopy:=nX m (by omega)
 unfold io kO
 dsimp only
 rw[e1,e2,aa,aa]
 dsimp only
 by_cases hk:k=0
 rotate_left
 ·rw[aq hk,bS,aE,aE,aa,ah]
  dsimp only
  rw[show eqI 15 0=false from rfl,ak,aa,ah]
  dsimp only
  rw[show aP (eqI 15 0)=true from rfl,aE,hcopy,aa]
  exact⟨g,rip,fl,m,_,15,hS,by simp,rfl,rfl⟩
 subst hk
 rw[show eqI 0 0=true from rfl,bD,ak,ak,aa,ah]
 dsimp only
 have E1:=wI (t:=t) (at0:=0) (by omega) (by omega) (by omega)
 have E2:=CJ (t:=t) (at0:=0) (by omega) (by omega) (by omega)
 have hdis:=FT (t:=t) (at0:=0) (by omega) (by omega)
 have him:=dec_imm (t:=t) 0
 rw[show eqI 0 0=true from rfl,aE,E1,E2,aa,aa,aa,ah]
 dsimp only[p5,p18]
 rw[Ds]
 generalize nY t 0=D at hdis him|-
 obtain⟨x,c⟩:=D
 dsimp only at hdis him|-
 rcases hdis with ⟨⟨n,n1,n2,hn,hP⟩,hc,_,_⟩|⟨_,hc⟩
 rotate_left
 ·rw[aq hc,bS,aE,aE,hcopy,aa]
  exact⟨g,rip,fl,m,_,c,hS,by simp,rfl,rfl⟩
 subst hc
 rw[show eqI 0 0=true from rfl,bD,ak,ak]
 have hPd:=hP
 obtain⟨_,_,_,_,_,_,_,hd,hsr,_⟩:=hPd
 have hV:=ExV_of hn n1 n2 hP ⟨An hd,him.1,An hsr,him.2⟩
 obtain⟨z,hz⟩:∃z:Nat,x.size=z:=⟨x.size.toNat,by
  have hs:=hP.2.2.1
  unfold shB at hs
  simp only[Bool.and_eq_true,decide_eq_true_eq]at hs
  have:=szN_all n n2 n1 _ hs.1
  omega⟩
 obtain⟨x1,ok,fb,fI⟩:=exec_m (rip:=rip) hS.mT hS.gT hS.fT hS.bT hV hz
 have x2:=exec_r (rip:=rip) hS.mT hS.gT hS.fT hS.bT hV hz
 have hp:=exM_rip (rip:=rip) (fl:=fl) (z:=z) hS.mT hS.gT hV
 rw[x1,x2,aa,aa]
 generalize exM g rip fl m x n z=e at ok fb fI hp
 have ok2:=ok.l
 unfold exR exS
 have hfit:∀a:Acc,gA [a] e.1.l=true:=fun a=>gQ (by simp;omega)
 by_cases hc:e.1.code=0
 ·rw[if_neg (by simpa using hc),if_neg (by simpa using hc)]
  dsimp only
  simp only[hfit,aE]
  exact⟨e.1.g,e.2.1,e.2.2,e.1.m,_,0,⟨ok.m,ok.g,fI,fb,hp⟩,by simp[iJ];omega,rfl,rfl⟩
 ·rw[if_pos hc,if_pos hc]
  dsimp only
  simp only[hfit,aE]
  exact⟨g,rip,fl,m,_,e.1.code,hS,by simp[iJ];omega,rfl,rfl⟩
end
def qu (m:List Page)(off n perm:Int):Bool:=decide (0<=off/\off<=4096/\0<=n/\n<=4096-off)&&decide (dh m (16384+off) perm n.toNat 0=0)
theorem tE {m:List Page}(hm:MemR m)(off n perm:Int):ew (((m,()),off,n,perm,()),())=some (qu m off n perm,()):=by
 unfold ew qu
 dsimp only
 rw[ct,bE,aa]
 dsimp only
 by_cases h1:0<=off/\off<=4096
 ·rw[decide_eq_true h1,bD,ak,bn,bE,aa,aa]
  by_cases h2:0<=n/\n<=4096-off
  ·obtain⟨k,rfl⟩:=Int.eq_ofNat_of_zero_le h2.1
   rw[decide_eq_true h2,bD,ak,aH,nR m hm _ _ k (by omega) (by unfold I64;omega),aa,Int.toNat_natCast]
   rw[decide_eq_true (show 0<=off/\off<=4096/\0<=(k:Int)/\(k:Int)<=4096-off by omega)]
   rfl
  ·rw[decide_eq_false h2,bS,aE,decide_eq_false (show ¬(0<=off/\off<=4096/\0<=n/\n<=4096-off)by omega)]
   rfl
 ·rw[decide_eq_false h1,bS,aE,aa,aE,decide_eq_false (show ¬(0<=off/\off<=4096/\0<=n/\n<=4096-off)by omega)]
  rfl
theorem tt {m:List Page}(hm:MemR m)(off n perm:Int):cc (((m,()),off,n,perm,()),())=some (qu m off n perm,()):=by
 unfold cc qu
 dsimp only
 rw[bE,aa]
 dsimp only
 by_cases h1:0<=off/\off<=4096
 ·rw[decide_eq_true h1,bD,ak,bn,bE,aa,aa]
  by_cases h2:0<=n/\n<=4096-off
  ·obtain⟨j,rfl⟩:=Int.eq_ofNat_of_zero_le h2.1
   rw[decide_eq_true h2,bD,ak,decide_eq_true (show 0<=off/\off<=4096/\0<=(j:Int)/\(j:Int)<=4096-off by omega),Bool.true_and,Int.toNat_natCast]
   refine(eD (fun x=>∃k:Nat,k<=j/\x=((off,perm,(j:Int),(k:Int),()),(m,()),())) (fun x=>j-x.1.2.2.2.1.toNat) (fun x=>some (decide (dh m (16384+off) perm (j-x.1.2.2.2.1.toNat) x.1.2.2.2.1=0),())) ?_ F _ ⟨0,by omega,rfl⟩ (by unfold F;dsimp only;omega)).trans ?_
   ·rintro _ rec ⟨k,hk,rfl⟩ hrec
    dsimp only
    rw[Int.toNat_natCast]
    by_cases hlt:k<j
    ·rw[ae (fP),aH (a:=16384) (b:=off),aH (a:=16384+off) (b:=(k:Int)),iy m hm,aa,show j-k=(j-(k+1))+1 by omega,dh]
     dsimp only
     by_cases hf:fnd m (16384+off+(k:Int))<0
     ·rw[ae (fP hf),aa,aE,if_pos hf]
      rfl
     ·rw[ag (fL hf),if_neg hf,bb,ae (rh hm hf),aa]
      by_cases hp:cy .i64 (aR m (fnd m (16384+off+(k:Int))) (az .page)).perm perm=0
      ·rw[ae (be hp),if_pos hp]
       rfl
      ·rw[ag (aq hp),if_neg hp,aH,show(k:Int)+1=((k+1:Nat):Int)from rfl,hrec _ ⟨k+1,by omega,rfl⟩ (by dsimp only;omega)]
       dsimp only
       rw[Int.toNat_natCast]
    ·have:k=j:=by omega
     subst this
     rw[ag (fL),Nat.sub_self,dh]
     rfl
   ·dsimp only
    rfl
  ·rw[decide_eq_false h2,bS,aE,decide_eq_false (show ¬(0<=off/\off<=4096/\0<=n/\n<=4096-off)by omega)]
   rfl
 ·rw[decide_eq_false h1,bS,aE,aa,aE,decide_eq_false (show ¬(0<=off/\off<=4096/\0<=n/\n<=4096-off)by omega)]
  rfl
theorem AD {m:List Page}(hm:MemR m){off n perm:Int}(h:qu m off n perm=true):0<=off/\off<=4096/\0<=n/\n<=4096-off/\∀k,k<n.toNat->¬fnd m (16384+off+(k:Nat))<0:=by
 simp only[qu,Bool.and_eq_true,decide_eq_true_eq]at h
 obtain⟨⟨h1,h2,h3,h4⟩,h5⟩:=h
 exact⟨h1,h2,h3,h4,fun k hk=>lP hm _ 0 h5 k (Nat.zero_le _) (by omega)⟩
def Fr (p q:Page):Bool:=decide (p.base<q.base)
def qm (m:List Page)(p:Page):List Page:=match m with
 |[]=>[p]
 |q::r=>if Fr p q=true then p::q::r else q::qm r p
theorem ph (p:Page):∀(m:List Page) (k:Nat),∃j,j<=m.length/\dw (Fr p) m k=(if j<m.length then((k+j:Nat):Int)else -1)/\qm m p=m.take j++p::m.drop j/\(∀i,i<j->(pgN m i).base<=p.base)/\(j<m.length->p.base<(pgN m j).base)
 |[],k=>⟨0,by simp,rfl,rfl,by simp,by simp⟩
 |q::r,k=>by
  simp only[dw,qm]
  by_cases h:Fr p q=true
  ·rw[if_pos h,if_pos h]
   exact⟨0,by simp,by simp,rfl,by simp,fun _=>of_decide_eq_true h⟩
  ·rw[if_neg h,if_neg h]
   obtain⟨j,h1,h2,h3,h4,h5⟩:=ph p r (k+1)
   refine⟨j+1,by simpa using h1,?_,by rw[h3];rfl,fun i hi=>?_,fun hj=>h5 (by simpa using hj)⟩
   ·rw[h2]
    by_cases hj:j<r.length
    ·rw[if_pos hj,if_pos (by simpa using hj)];congr 1;omega
    ·rw[if_neg hj,if_neg (by simpa using hj)]
   ·cases i with
    |zero=>show q.base<=p.base;unfold Fr at h;simpa using h
    |succ i=>exact h4 i (by omega)
theorem wz (m:List Page)(hm:m.length<=1048576)(p:Page):aV ((m,()),(p.base,p.perm,p.data,()),())=some (dw (Fr p) m 0,(p.base,p.perm,p.data,()),()):=by
 unfold aV eL
 dsimp only
 rw[bb]
 refine(eD (fun x=>∃k:Nat,k<=m.length/\x=((m,(m.length:Int),(k:Int),()),(p.base,p.perm,p.data,()),())) (fun x=>m.length-x.1.2.2.1.toNat) (fun x=>some (dw (Fr p) (m.drop x.1.2.2.1.toNat) x.1.2.2.1.toNat,(p.base,p.perm,p.data,()),())) ?_ F _ ⟨0,by omega,rfl⟩ (by unfold F;dsimp only;omega)).trans rfl
 rintro _ rec ⟨k,hk,rfl⟩ hrec
 dsimp only
 rw[Int.toNat_natCast]
 by_cases h:k<m.length
 ·rw[ae (fP),bb,ae (cI),aa,fp h,List.drop_eq_getElem_cons h,dw]
  dsimp only
  by_cases hg:p.base<m[k].base
  ·rw[ae (fP hg),if_pos (show Fr p m[k]=true from decide_eq_true hg)]
  ·rw[ag (fL hg),if_neg (by unfold Fr;simpa using hg),aH,show(k:Int)+1=((k+1:Nat):Int)from rfl,hrec _ ⟨k+1,by omega,rfl⟩ (by dsimp only;omega)]
   dsimp only
   rw[Int.toNat_natCast]
 ·rw[ag (fL),List.drop_eq_nil_of_le (by omega)]
  rfl
theorem zL (m:List Page)(hm:m.length<=1048576):bG ((m,()),())=some ((),m,()):=by
 have:=nX m hm
 unfold bj at this
 dsimp only at this
 cases h:bG ((m,()),())with
 |none=>rw[h]at this;cases this
 |some z=>
  rw[h,aa]at this
  have:=Option.some.inj this
  obtain⟨_,a,_⟩:=z
  exact congrArg some this
theorem Fd (m:List Page)(hm:m.length<=1000)(p:Page):dr (((m,()),p,()),())=some ((),qm m p,()):=by
 unfold dr
 dsimp only
 rw[wz m (by omega) p,aa]
 dsimp only
 obtain⟨j,h1,h2,h3,_⟩:=ph p m 0
 have hl:∀i:Nat,i<=m.length->wA m (i:Int)=true:=fun i hi=>by unfold wA lim;exact dT
 by_cases hj:j<m.length
 ·rw[if_pos hj,Nat.zero_add]at h2
  rw[h2,ag (fL),aa]
  dsimp only[aU]
  rw[zL m (by omega),aa]
  dsimp only
  rw[hl j h1,aE,h3]
  unfold uL
  rw[Int.toNat_natCast]
 ·rw[if_neg hj]at h2
  have:j=m.length:=by omega
  subst this
  rw[h2,ae (fP (by decide)),aa]
  dsimp only[aU]
  rw[zL m (by omega),aa]
  dsimp only
  rw[bb,hl _ (Nat.le_refl _),aE,h3]
  unfold uL
  rw[Int.toNat_natCast]
def sC:List UInt8:=j7 (sP 256 (az .u))
theorem xq:dZ (([0],256,()),())=some (sC,()):=by
 unfold dZ rX
 dsimp only
 rw[ae (by decide),ae (by decide),ae (by decide)]
 have:Go.Lib.repeatL [0] (256:Int).toNat=sC:=by decide +kernel
 rw[this]
theorem Fi:sC.length=256:=by simp[sC,j7,sP]
theorem DB (m:List Page)(hm:m.length<=1000)(b pm:Int):i5 (((m,()),b,pm,()),())=some ((qm m (Page.mk b pm sC),()),()):=by
 unfold i5
 dsimp only
 have h256:inC 256 256=true:=by decide
 have hl256:uK 256=true:=by decide
 simp only[h256,hl256,aE]
 refine(Ret.iter (fun x=>∃(k:Nat) (dn:Bool) (out:List Page),k<=m.length/\out.length<=k+dn.toNat/\x=((b,(dn,((k:Int),()))),((m,()),((),(out,((b,(pm,(sC,()))),())))))/\
  qm m (Page.mk b pm sC)=out++(if dn=true then m.drop k else qm (m.drop k) (Page.mk b pm sC))) (fun x=>m.length-x.1.2.2.1.toNat) ?_ F _ ⟨0,false,[],by omega,by simp,rfl,rfl⟩ (by unfold F;dsimp only;omega)).eq
 rintro _ rec ⟨k,dn,out,hk,hl,rfl,hE⟩ hrec
 dsimp only
 rw[bb]
 have hd1:dn.toNat<=1:=by cases dn<;>decide
 by_cases h:k<m.length
 ·have hir:inR (k:Int) (m.length:Int)=true:=cI
  rw[ae (fP),hir,aE,fp h]
  rw[List.drop_eq_getElem_cons h]at hE
  cases dn with
  |true=>
   rw[bD,ak,aa,ak,aa]
   dsimp only[aU]
   rw[bb,hir,aE,fp h,ae (gQ (by simp;omega)),aH]
   refine hrec _ ⟨k+1,true,out++[m[k]],by omega,by simp;omega,rfl,?_⟩ (by dsimp only;omega)
   rw[hE,if_pos rfl,if_pos rfl,List.append_assoc]
   rfl
  |false=>
   have hl:out.length<=k:=hl
   rw[bS,aE,aa]
   rw[iD,qm]at hE
   by_cases hg:b<m[k].base
   ·rw[ae (fP hg),ae (gQ (by simp;omega)),aa]
    dsimp only[aU]
    rw[bb,hir,aE,fp h,ae (gQ (by unfold iJ;simp;omega)),aH]
    refine hrec _ ⟨k+1,true,iJ (iJ out [Page.mk b pm sC]) [m[k]],by omega,by unfold iJ;simp;omega,rfl,?_⟩ (by dsimp only;omega)
    rw[hE,if_pos (show Fr (Page.mk b pm sC) m[k]=true from decide_eq_true hg),if_pos rfl]
    unfold iJ
    simp
   ·rw[ag (fL hg),aa]
    dsimp only[aU]
    rw[bb,hir,aE,fp h,ae (gQ (by simp;omega)),aH]
    refine hrec _ ⟨k+1,false,iJ out [m[k]],by omega,by unfold iJ;simp;omega,rfl,?_⟩ (by dsimp only;omega)
    rw[hE,if_neg (by unfold Fr;simpa using hg),iD]
    unfold iJ
    simp
 ·have:k=m.length:=by omega
  subst this
  rw[ag (fL)]
  rw[List.drop_length]at hE
  cases dn with
  |true=>
   rw[bD,ak,aa]
   rw[if_pos rfl,List.append_nil]at hE
   exact Ret.some (by rw[hE])
  |false=>
   rw[bS,aE,ae (gQ (by simp;omega)),aa]
   rw[iD]at hE
   exact Ret.some (by rw[hE];rfl)
theorem addPg_T {m:List Page}(hm:MemT m)(hl:m.length<32){p:Page}(h0:0<=p.base)(h1:p.base<=65280)(h2:p.base%256=0)(h3:0<=p.perm)(h4:p.perm<=7)(h5:p.data.length=256)(hf:fnd m p.base<0):MemT (qm m p):=by
 obtain⟨j,g1,_,g3,g4,g5⟩:=ph p m 0
 have hno:∀i,i<m.length->¬((pgN m i).base<=p.base/\p.base-(pgN m i).base<256):=fun i hi hc=>by
  rcases kC (ka p.base) m 0 with ⟨_,hq⟩|⟨k,hk,hq,_⟩
  ·have:=hq _ (List.getElem_mem hi)
   rw[<-rY hi]at this
   simp only[ka,Bool.and_eq_false_iff,decide_eq_false_iff_not]at this
   omega
  ·unfold fnd at hf
   omega
 have hx:∀i,pgN (qm m p) i=if i<j then pgN m i else if i=j then p else pgN m (i-1):=fun i=>by
  rw[g3]
  unfold pgN
  rw[List.getD_eq_getElem?_getD,List.getElem?_append,List.length_take,Nat.min_eq_left g1]
  by_cases hi:i<j
  ·rw[if_pos hi,if_pos hi,List.getElem?_take,if_pos hi,List.getD_eq_getElem?_getD]
  ·rw[if_neg hi,if_neg hi]
   by_cases he:i=j
   ·rw[if_pos he,he,Nat.sub_self];rfl
   ·rw[if_neg he,show i-j=(i-1-j)+1 by omega,List.getElem?_cons_succ,List.getElem?_drop,show j+(i-1-j)=i-1 by omega,List.getD_eq_getElem?_getD]
 have hlen:(qm m p).length=m.length+1:=by rw[g3];simp;omega
 refine⟨by omega,fun i hi=>?_,fun i hi=>?_⟩
 ·rw[hlen]at hi
  rw[hx]
  by_cases a1:i<j
  ·rw[if_pos a1];exact hm.pg i (by omega)
  ·rw[if_neg a1]
   by_cases a2:i=j
   ·rw[if_pos a2];exact⟨h0,h1,h2,h3,h4,h5⟩
   ·rw[if_neg a2];exact hm.pg (i-1) (by omega)
 ·rw[hlen]at hi
  rw[hx,hx]
  by_cases a1:i+1<j
  ·rw[iP,if_pos a1];exact hm.ord i (by omega)
  ·by_cases a2:i+1=j
   ·rw[iP,if_neg a1,if_pos a2]
    have:=g4 i (by omega)
    have:=hno i (by omega)
    omega
   ·by_cases a3:i=j
    ·rw[iN,if_pos a3,iN,iN,a3]
     exact g5 (by omega)
    ·rw[iN,if_neg a3,iN,iN]
     have:=hm.ord (i-1) (by omega)
     rw[show i-1+1=i by omega]at this
     exact this
abbrev bx (c:List Int)(rip fl:Int)(m:List Page)(heap brk:Int)(inp:List UInt8)(pos:Int)(out:List UInt8)(clk seed st cd ft wh:Int):=
 (c,rip,fl,m,heap,brk,inp,pos,out,clk,seed,st,cd,ft,wh,())
abbrev bi (c:List Int)(rip fl heap brk:Int)(inp:List UInt8)(pos:Int)(out:List UInt8)(clk seed st cd ft wh:Int):=
 (c,rip,fl,heap,brk,inp,pos,out,clk,seed,st,cd,ft,wh,())
section
variable {c:List Int}{rip fl:Int}{m:List Page}{heap brk:Int}{inp:List UInt8}{pos:Int}{out:List UInt8}{clk seed st cd ft wh:Int}
theorem AU (hm:MemT m)(h1:512<=heap)(h2:heap<=brk)(h3:brk<=3584)(n:Int):
  ∃(m':List Page) (brk' v:Int),MemT m'/\heap<=brk'/\brk'<=3584/\(v= -12/\m'=m/\brk'=brk\/v=brk/\brk'=aA .i64 brk n)/\
   gt ((bx c rip fl m heap brk inp pos out clk seed st cd ft wh,n,()),())=some ((bx c rip fl m' heap brk' inp pos out clk seed st cd ft wh,v,()),())/\
   dA ((n,()),bi c rip fl heap brk inp pos out clk seed st cd ft wh,m,())=some (v,bi c rip fl heap brk' inp pos out clk seed st cd ft wh,m',()):=by
 unfold gt dA
 dsimp only[bx,bi,p5,d5,d6]
 obtain⟨T,hT⟩:∃T,T=aA .i64 brk n:=⟨_,rfl⟩
 rw[<-hT,ct,bE,aa,aa]
 dsimp only
 by_cases h:heap<=T/\T<=3584
 rotate_left
 ·rw[decide_eq_false h,bS,aE,aE]
  exact⟨m,brk,-12,hm,h2,h3,.inl ⟨rfl,rfl,rfl⟩,rfl,rfl⟩
 have h256:aP (eqI 256 0)=true:=by decide
 have e1:bK .i64 (kG .i64 heap 256) 256=heap/256*256:=by rw[fU (by omega) (by omega) (by omega),cY]
 have e2:aT .i64 heap (fv heap 256)=heap/256*256:=by rw[dH,bn];omega
 simp only[decide_eq_true h,bD,ak,h256,aE,e1,e2]
 refine iterQ (fun x y=>∃(k:Int) (mk:List Page),MemT mk/\0<=k/\k<=4096/\k%256=0/\
   x=((T,k,()),bx c rip fl m heap brk inp pos out clk seed st cd ft wh,(([]:List Int),0,0,0,0,([]:List UInt8),0,([]:List UInt8),0,0,0,0,0,0,()),([]:List Page),(mk,()),())/\
   ((mk=m/\y=Sum.inl ((n,(k,())),(bi c rip fl heap brk inp pos out clk seed st cd ft wh,(m,((),())))))\/y=Sum.inr ((n,(k,())),(bi c rip fl heap brk inp pos out clk seed st cd ft wh,(m,((),(mk,())))))))
  (fun x=>(T-x.1.2.1).toNat)
  (fun o1 o2=>∃(m':List Page) (brk' v:Int),MemT m'/\heap<=brk'/\brk'<=3584/\(v= -12/\m'=m/\brk'=brk\/v=brk/\brk'=T)/\
   o1=some ((bx c rip fl m' heap brk' inp pos out clk seed st cd ft wh,(v,())),())/\o2=some (v,(bi c rip fl heap brk' inp pos out clk seed st cd ft wh,(m',())))) ?_ F _ _
  ⟨heap/256*256,m,hm,by omega,by omega,by omega,rfl,.inl ⟨rfl,rfl⟩⟩ (by unfold F;dsimp only;omega)
 rintro _ y r1 r2 ⟨k,mk,hk,k0,k1,k2,rfl,hy⟩ hrec
 have hfit:=hk.len
 dsimp only[bx]
 by_cases hlt:k<T
 rotate_left
 ·rw[ag (fL hlt)]
  refine⟨mk,T,brk,hk,h.1,h.2,.inr ⟨rfl,rfl⟩,rfl,?_⟩
  rcases hy with ⟨rfl,rfl⟩|rfl
  ·dsimp only[aU,bi]
   rw[<-hT,ag (fL hlt)]
  ·dsimp only[aU,bi]
   rw[<-hT,ag (fL hlt)]
 have ha:aA .i64 16384 k=16384+k:=aH
 have hk':aA .i64 k 256=k+256:=aH
 rw[ae (fP hlt),ha,lT mk hk.r _ (by unfold I64;omega),aa,hk']
 dsimp only
 by_cases hf:0<=fnd mk (16384+k)
 ·rw[ae (fu hf)]
  rcases hy with ⟨rfl,rfl⟩|rfl
  ·dsimp only[aU,bi]
   rw[<-hT,ae (fP hlt),ha,iy _ hk.r,aa]
   dsimp only
   rw[ae (fu hf),hk']
   exact hrec _ _ ⟨k+256,mk,hk,by omega,by omega,by omega,rfl,.inl ⟨rfl,rfl⟩⟩ (by dsimp only;omega)
  ·dsimp only[aU,bi]
   rw[<-hT,ae (fP hlt),ha,iy _ hk.r,aa]
   dsimp only
   rw[ae (fu hf),hk']
   exact hrec _ _ ⟨k+256,mk,hk,by omega,by omega,by omega,rfl,.inr rfl⟩ (by dsimp only;omega)
 ·rw[ag (kb hf),bb]
  by_cases h32:(mk.length:Int)=32
  ·rw[ae (be h32)]
   refine⟨m,brk,-12,hm,h2,h3,.inl ⟨rfl,rfl,rfl⟩,rfl,?_⟩
   rcases hy with ⟨rfl,rfl⟩|rfl
   ·dsimp only[aU,bi]
    rw[<-hT,ae (fP hlt),ha,iy _ hk.r,aa]
    dsimp only
    rw[ag (kb hf),bb,ae (be h32)]
   ·dsimp only[aU,bi]
    rw[<-hT,ae (fP hlt),ha,iy _ hk.r,aa]
    dsimp only
    rw[ag (kb hf),bb,ae (be h32)]
  ·have hT':MemT (qm mk (Page.mk (16384+k) 3 sC)):=addPg_T hk (by omega) (by show 0<=16384+k;omega) (by show 16384+k<=65280;omega) (by show(16384+k)%256=0;omega) (by show(0:Int)<=3;decide) (by show(3:Int)<=7;decide) Fi (by show fnd mk (16384+k)<0;omega)
   rw[ag (aq h32),DB mk (by omega),aa]
   rcases hy with ⟨rfl,rfl⟩|rfl
   ·dsimp only[aU,bi]
    rw[<-hT,ae (fP hlt),ha,iy _ hk.r,aa]
    dsimp only
    rw[ag (kb hf),bb,ag (aq h32),xq,aa,Fd _ (by omega),aa,hk']
    exact hrec _ _ ⟨k+256,_,hT',by omega,by omega,by omega,rfl,.inr rfl⟩ (by dsimp only;omega)
   ·dsimp only[aU,bi]
    rw[<-hT,ae (fP hlt),ha,iy _ hk.r,aa]
    dsimp only
    rw[ag (kb hf),bb,ag (aq h32),xq,aa,Fd _ (by omega),aa,hk']
    exact hrec _ _ ⟨k+256,_,hT',by omega,by omega,by omega,rfl,.inr rfl⟩ (by dsimp only;omega)
end
def xP (st cd ft wh:Int):Prop:=st=1/\cd=0/\ft=0/\wh=0\/st=2/\ -2147483648<=cd/\cd<=2147483647/\ft=0/\wh=0\/st=3/\cd=0/\1<=ft/\ft<=35
instance (st cd ft wh:Int):Decidable (xP st cd ft wh):=by unfold xP;infer_instance
def xO (f:Int)(ms:List Page)(heap brk:Int)(inp:List UInt8)(pos:Int)(out:List UInt8)(clk seed st cd ft wh:Int):Prop:=
 bU f=true/\pE ms=true/\512<=heap/\heap<=3584/\heap<=brk/\brk<=3584/\(inp.length:Int)<=1024/\0<=pos/\pos<=(inp.length:Int)/\(out.length:Int)<=512/\0<=clk/\clk<=1000000/\0<=seed/\seed<=2147483647/\xP st cd ft wh
instance (f:Int) (ms:List Page) (heap brk:Int) (inp:List UInt8) (pos:Int) (out:List UInt8) (clk seed st cd ft wh:Int):Decidable (xO f ms heap brk inp pos out clk seed st cd ft wh):=by unfold xO;infer_instance
theorem sx4 {v:Int}(h:I64 v):eqI (sx (8*4-1:Int).toNat v) v=decide (-2147483648<=v/\v<=2147483647):=by
 have h1:=zY h
 unfold jr at h1
 rw[kY v 4 (by decide) (by decide),aa]at h1
 simpa using h1
theorem Gj {c:List Int}{p f:Int}{ms:List Page}{heap brk:Int}{inp:List UInt8}{pos:Int}{out:List UInt8}{clk seed st cd ft wh:Int}(h:I64 cd):
  fx (((c,p,f,ms,heap,brk,inp,pos,out,clk,seed,st,cd,ft,wh,()),()),())=some (decide (xP st cd ft wh),()):=by
 unfold fx
 dsimp only[p11,p12,p13,p14]
 by_cases h1:st=1
 ·rw[ae (be h1)]
  simp only[qU,aa,eqI]
  congr 2
  rw[Bool.eq_iff_iff,decide_eq_true_eq]
  simp only[Bool.and_eq_true,decide_eq_true_eq]
  unfold xP
  omega
 ·rw[ag (aq h1)]
  by_cases h2:st=2
  ·rw[ae (be h2),zY h]
   simp only[qU,aa,eqI]
   congr 2
   rw[Bool.eq_iff_iff,decide_eq_true_eq]
   simp only[Bool.and_eq_true,decide_eq_true_eq]
   unfold xP
   omega
  ·rw[ag (aq h2)]
   by_cases h3:st=3
   ·rw[ae (be h3),bE]
    simp only[qU,aa,eqI]
    congr 2
    rw[Bool.eq_iff_iff,decide_eq_true_eq]
    simp only[Bool.and_eq_true,decide_eq_true_eq]
    unfold xP
    omega
   ·rw[ag (aq h3)]
    congr 2
    symm
    refine decide_eq_false fun h=>?_
    unfold xP at h
    omega
theorem FA {c:List Int}{p f:Int}{ms:List Page}{heap brk:Int}{inp:List UInt8}{pos:Int}{out:List UInt8}{clk seed st cd ft wh:Int}(h:I64 cd)(hm:ms.length<=1048576):
  jy (((c,p,f,ms,heap,brk,inp,pos,out,clk,seed,st,cd,ft,wh,()),()),())=some (decide (xO f ms heap brk inp pos out clk seed st cd ft wh),()):=by
 unfold jy ki kk
 dsimp only[p5,p6,p7,p8,p9,p10]
 simp only[FB,mo ms (by omega) (by unfold F;omega),bE,Gj h,qU,aa]
 congr 2
 rw[Bool.eq_iff_iff,decide_eq_true_eq]
 simp only[Bool.and_eq_true,decide_eq_true_eq,H2,and_assoc]
 unfold xO
 exact Iff.rfl
theorem Er {c:List Int}{p f:Int}{ms:List Page}{heap brk:Int}{inp:List UInt8}{pos:Int}{out:List UInt8}{clk seed st cd ft wh:Int}(h:I64 cd)(hf:I64 f)(hm:ms.length<=1048576):
  jH (((c,p,f,ms,heap,brk,inp,pos,out,clk,seed,st,cd,ft,wh,()),()),())=some (decide (xO f ms heap brk inp pos out clk seed st cd ft wh),()):=by
 unfold jH
 dsimp only[p5,p6,p7,p8,p9,p10,p11,p12,p13,p14]
 rw[ct]
 simp only[Es hf,qv ms (by omega),bE,AT,qU,aa,gK cd 4 (by decide) (by decide),sx4 h]
 by_cases hA:bU f=true/\pE ms=true/\512<=heap/\heap<=3584/\heap<=brk/\brk<=3584/\(inp.length:Int)<=1024/\0<=pos/\pos<=(inp.length:Int)/\(out.length:Int)<=512/\0<=clk/\clk<=1000000/\0<=seed/\seed<=2147483647/\1<=st/\st<=3
 ·obtain⟨a1,a2,a3,a4,a5,a6,a7,a8,a9,a10,a11,a12,a13,a14,a15,a16⟩:=hA
  have e:xO f ms heap brk inp pos out clk seed st cd ft wh↔xP st cd ft wh:=by unfold xO;simp[*]
  have b1:ltI 1024 (bL inp)=false:=lt_no (by unfold bL;omega)
  have b2:ltI 512 (bL out)=false:=lt_no (by unfold bL;omega)
  rw[ag (by simp[aP,bL, *];exact⟨b1,b2⟩)]
  have ee:decide (xO f ms heap brk inp pos out clk seed st cd ft wh)=decide (xP st cd ft wh):=by rw[Bool.eq_iff_iff,decide_eq_true_eq,decide_eq_true_eq,e]
  rw[ee]
  clear ee e a1 a2 a3 a4 a5 a6 a7 a8 a9 a10 a11 a12 a13 a14 b1 b2
  by_cases h2:st=2
  ·subst h2
   by_cases hc: -2147483648<=cd/\cd<=2147483647
   ·rw[be rfl,bD,ag rfl,decide_eq_true hc,bD,ag rfl,aq (by decide),bS,ae rfl]
    congr 2
    rw[Bool.eq_iff_iff,decide_eq_true_eq]
    simp only[Bool.and_eq_true,nJ]
    unfold xP
    omega
   ·rw[be rfl,bD,ag rfl,decide_eq_false hc,bS,ae rfl]
    congr 2
    symm
    exact decide_eq_false (by unfold xP;omega)
  ·rw[aq h2,bS,ae rfl]
   by_cases hc:cd=0
   ·rw[be hc,bD,ag rfl,dT,bD,ag rfl]
    by_cases h3:st=3
    ·rw[be h3,bD,ag rfl]
     congr 2
     rw[Bool.eq_iff_iff,decide_eq_true_eq,decide_eq_true_eq]
     unfold xP
     omega
    ·rw[aq h3,bS,ae rfl]
     congr 2
     rw[Bool.eq_iff_iff,decide_eq_true_eq]
     simp only[Bool.and_eq_true,nJ]
     unfold xP
     omega
   ·rw[aq hc,bS,ae rfl]
    congr 2
    symm
    exact decide_eq_false (by unfold xP;omega)
 ·rw[ae ?_]
  ·congr 2
   symm
   refine decide_eq_false fun hb=>hA ?_
   unfold xO xP at hb
   obtain⟨a1,a2,a3,a4,a5,a6,a7,a8,a9,a10,a11,a12,a13,a14,a15⟩:=hb
   exact⟨a1,a2,a3,a4,a5,a6,a7,a8,a9,a10,a11,a12,a13,a14,by omega,by omega⟩
  ·revert hA
   unfold bL
   cases bU f<;>cases pE ms<;>simp[aP,DR]<;>omega
section
variable {c:List Int}{rip fl:Int}{m:List Page}{heap brk:Int}{inp:List UInt8}{pos:Int}{out:List UInt8}{clk seed st cd ft wh:Int}
theorem Em (hm:MemT m)(h1:(inp.length:Int)<=1024)(h2:0<=pos)(h3:pos<=(inp.length:Int))(p q:Int):
  ∃(m':List Page) (pos' v:Int),MemT m'/\0<=pos'/\pos'<=(inp.length:Int)/\I64 v/\(v= -14/\m'=m/\pos'=pos/\qu m p q 2=false\/0<=v/\qu m p q 2=true)/\
   ip ((bx c rip fl m heap brk inp pos out clk seed st cd ft wh,p,q,()),())=some ((bx c rip fl m' heap brk inp pos' out clk seed st cd ft wh,v,()),())/\
   dB ((p,q,()),bi c rip fl heap brk inp pos out clk seed st cd ft wh,m,())=some (v,bi c rip fl heap brk inp pos' out clk seed st cd ft wh,m',()):=by
 unfold ip dB
 dsimp only[bx,bi,p5,p6,p7,d7,d8,cp6]
 rw[tE hm.r,aa,tt hm.r,aa]
 dsimp only
 cases hs:qu m p q 2 with
 |false=>
  rw[bS,aE,aE]
  exact⟨m,pos,-14,hm,h2,h3,by unfold I64;omega,.inl ⟨rfl,rfl,rfl,rfl⟩,rfl,rfl⟩
 |true=>
  obtain⟨s1,s2,s3,s4,s5⟩:=AD hm.r hs
  obtain⟨n,hn⟩:∃n:Nat,(n:Int)=gJ q ((inp.length:Int)-pos):=by
   obtain⟨n,hn⟩:=Int.eq_ofNat_of_zero_le (show 0<=gJ q ((inp.length:Int)-pos)by unfold gJ;split<;>omega)
   exact⟨n,hn.symm⟩
  have hnq:(n:Int)<=q/\(n:Int)<=inp.length-pos:=by rw[hn];unfold gJ;split<;>omega
  obtain⟨k,rfl⟩:=Int.eq_ofNat_of_zero_le h2
  have e0:aA .i64 16384 p=16384+p:=aH
  simp only[bD,ak,bb,bn (a:=(inp.length:Int)) (b:=(k:Int)),<-hn,aH (a:=(k:Int)) (b:=(n:Int)),e0]
  rw[ae (mE),ae (mE),ae (mE),ae (mE)]
  have hl:(jZ (iM inp ((k:Int)+(n:Int))) (k:Int)).length=n:=by unfold jZ iM;rw[List.length_drop,List.length_take];omega
  have hok:∀j,j<(jZ (iM inp ((k:Int)+(n:Int))) (k:Int)).length->¬fnd m (16384+p+(j:Nat))<0:=fun j hj=>s5 j (by omega)
  obtain⟨x,hx1,hx2⟩:=Id m hm (16384+p) _ (by unfold I64;omega) (by rw[hl];omega) hok
  obtain⟨y,hy1,hy2⟩:=H1 m hm (16384+p) _ (by unfold I64;omega) (by rw[hl];omega) hok
  obtain rfl:=hx2.unique hy2
  rw[hx1,aa,hy1,aa]
  exact⟨x,(k:Int)+n,n,hx2.memT hm,by omega,by omega,by unfold I64;omega,.inr ⟨by omega,trivial⟩,rfl,rfl⟩
theorem Ca (hm:MemT m)(h1:(out.length:Int)<=512)(p q:Int):
  ∃(out':List UInt8) (v:Int),(out'.length:Int)<=512/\I64 v/\(v<0/\out'=out/\(qu m p q 1=false->v= -14)\/0<=v/\qu m p q 1=true)/\
   gx ((bx c rip fl m heap brk inp pos out clk seed st cd ft wh,p,q,()),())=some ((bx c rip fl m heap brk inp pos out' clk seed st cd ft wh,v,()),())/\
   cZ ((p,q,()),bi c rip fl heap brk inp pos out clk seed st cd ft wh,m,())=some (v,bi c rip fl heap brk inp pos out' clk seed st cd ft wh,m,()):=by
 unfold gx cZ
 dsimp only[bx,bi,p7,p8,d8,d9,cp7,cp8]
 rw[tE hm.r,aa,tt hm.r,aa]
 dsimp only
 cases hs:qu m p q 1 with
 |false=>
  rw[bS,aE,aE]
  exact⟨out,-14,h1,by unfold I64;omega,.inl ⟨by decide,rfl,fun _=>rfl⟩,rfl,rfl⟩
 |true=>
  obtain⟨s1,s2,s3,s4,s5⟩:=AD hm.r hs
  obtain⟨k,rfl⟩:=Int.eq_ofNat_of_zero_le s3
  have e0:aA .i64 16384 p=16384+p:=aH
  simp only[bD,ak,bb,e0,aH (a:=(out.length:Int)) (b:=(k:Int)),bn (a:=512) (b:=(out.length:Int))]
  by_cases hlt:512<(out.length:Int)+k
  ·rw[ae (fP),ae (fP hlt)]
   exact⟨out,-28,h1,by unfold I64;omega,.inl ⟨by decide,rfl,fun h=>by cases h⟩,rfl,rfl⟩
  ·rw[ag (fL),ag (fL hlt)]
   rw[Dg m hm.r (16384+p) k (by omega) (by unfold I64;omega) (fun j hj=>s5 j (by omega)),aa,uj m hm.r (16384+p) k (by omega) (by unfold I64;omega) (fun j hj=>s5 j (by omega)),aa]
   dsimp only
   have hl:(j7 ((List.range k).map fun j=>oB m (16384+p+(j:Nat)))).length=k:=by rw[pb];simp
   rw[ae (gQ (by rw[hl];omega)),ae (gQ (by rw[hl];omega))]
   exact⟨_,k,by unfold iJ;rw[List.length_append,hl];omega,by unfold I64;omega,.inr ⟨by omega,trivial⟩,rfl,rfl⟩
structure BoxW (m:List Page)(heap brk:Int)(inp:List UInt8)(pos:Int)(out:List UInt8)(clk seed:Int):Prop where
 m:MemT m
 h1:512<=heap
 h2:heap<=3584
 b1:heap<=brk
 b2:brk<=3584
 i1:(inp.length:Int)<=1024
 p1:0<=pos
 p2:pos<=(inp.length:Int)
 o1:(out.length:Int)<=512
 c1:0<=clk
 c2:clk<=1000000
 s1:0<=seed
 s2:seed<=2147483647
theorem Cb {v:Int}(h:I64 v):an ((v,4,()),())=some (bW v 4,())/\af ((v,4,()),())=some (bW v 4,()):=⟨bw (k:=4) h rfl,bQ v 4 rfl⟩
theorem xZ (hg:iH c)(hB:BoxW m heap brk inp pos out clk seed)(n:Int):
  ∃(m':List Page) (brk' pos':Int) (out':List UInt8) (clk' seed' v:Int),BoxW m' heap brk' inp pos' out' clk' seed'/\I64 v/\
   (0<=v\/m'=m/\brk'=brk/\pos'=pos/\out'=out/\clk'=clk/\seed'=seed)/\
   fJ ((bx c rip fl m heap brk inp pos out clk seed st cd ft wh,n,()),())=some ((bx c rip fl m' heap brk' inp pos' out' clk' seed' st cd ft wh,v,()),())/\
   eO ((n,()),bi c rip fl heap brk inp pos out clk seed st cd ft wh,m,())=some (v,bi c rip fl heap brk' inp pos' out' clk' seed' st cd ft wh,m',()):=by
 obtain⟨hm,a1,a2,a3,a4,a5,a6,a7,a8,a9,a10,a11,a12⟩:=hB
 unfold fJ eO
 dsimp only
 rw[(Cb (hg 7)).1,aa,(Cb (hg 6)).1,aa,jO,aa]
 dsimp only
 rw[show decide ((16:Int)<=7/\(7:Int)<=19)=false from rfl,ak,(Cb (hg 7)).2,aa,jO,aa]
 dsimp only
 rw[show decide ((16:Int)<=6/\(6:Int)<=19)=false from rfl,ak,(Cb (hg 6)).2,aa]
 by_cases n1:n=1
 ·obtain⟨m',pos',v,b1,b2,b3,b4,b5,e1,e2⟩:=Em (c:=c) (rip:=rip) (fl:=fl) (heap:=heap) (brk:=brk) (out:=out) (clk:=clk) (seed:=seed) (st:=st) (cd:=cd) (ft:=ft) (wh:=wh) hm a5 a6 a7 (bW (rg c 7) 4) (bW (rg c 6) 4)
  rw[ae (be n1),ae (be n1)]
  refine⟨m',brk,pos',out,clk,seed,v,⟨b1,a1,a2,a3,a4,a5,b2,b3,a8,a9,a10,a11,a12⟩,b4,?_,?_,?_⟩
  ·rcases b5 with ⟨_,g1,g2,_⟩|⟨g,_⟩
   ·exact .inr ⟨g1,rfl,g2,rfl,rfl,rfl⟩
   ·exact .inl g
  ·exact(congrArg (fun z=>bnd z fun x4=>some x4) e1).trans rfl
  ·exact(congrArg (fun z=>bnd z _) e2).trans rfl
 rw[ag (aq n1),ag (aq n1)]
 by_cases n2:n=2
 ·obtain⟨out',v,b1,b2,b3,e1,e2⟩:=Ca (c:=c) (rip:=rip) (fl:=fl) (heap:=heap) (brk:=brk) (inp:=inp) (pos:=pos) (clk:=clk) (seed:=seed) (st:=st) (cd:=cd) (ft:=ft) (wh:=wh) hm a8 (bW (rg c 7) 4) (bW (rg c 6) 4)
  rw[ae (be n2),ae (be n2)]
  refine⟨m,brk,pos,out',clk,seed,v,⟨hm,a1,a2,a3,a4,a5,a6,a7,b1,a9,a10,a11,a12⟩,b2,?_,?_,?_⟩
  ·rcases b3 with ⟨_,g1,_⟩|⟨g,_⟩
   ·exact .inr ⟨rfl,rfl,rfl,g1,rfl,rfl⟩
   ·exact .inl g
  ·exact(congrArg (fun z=>bnd z fun x4=>some x4) e1).trans rfl
  ·exact(congrArg (fun z=>bnd z _) e2).trans rfl
 rw[ag (aq n2),ag (aq n2)]
 by_cases n3:n=3
 ·rw[ae (be n3),ae (be n3),gK _ 4 (by decide) (by decide),aa,kY _ 4 (by decide) (by decide),aa]
  obtain⟨m',brk',v,b1,b2,b3,b4,e1,e2⟩:=AU (c:=c) (rip:=rip) (fl:=fl) (inp:=inp) (pos:=pos) (out:=out) (clk:=clk) (seed:=seed) (st:=st) (cd:=cd) (ft:=ft) (wh:=wh) hm a1 a3 a4 (sx (8*4-1:Int).toNat (bW (rg c 7) 4))
  refine⟨m',brk',pos,out,clk,seed,v,⟨b1,a1,a2,b2,b3,a5,a6,a7,a8,a9,a10,a11,a12⟩,?_,?_,?_,?_⟩
  ·unfold I64;rcases b4 with ⟨g,_,_⟩|⟨g,_⟩<;>omega
  ·rcases b4 with ⟨_,g1,g2⟩|⟨g,_⟩
   ·exact .inr ⟨g1,g2,rfl,rfl,rfl,rfl⟩
   ·exact .inl (by omega)
  ·exact(congrArg (fun z=>bnd z fun x4=>some x4) e1).trans rfl
  ·exact(congrArg (fun z=>bnd z _) e2).trans rfl
 rw[ag (aq n3),ag (aq n3)]
 by_cases n4:n=4
 ·rw[ae (be n4),ae (be n4)]
  have e1:aA .i64 clk 1=clk+1:=aH
  dsimp only[bx,bi,p8,p9,d9,d10,cp8,cp9]
  rw[e1]
  exact⟨m,brk,pos,out,gJ (clk+1) 1000000,seed,clk,⟨hm,a1,a2,a3,a4,a5,a6,a7,a8,by unfold gJ;split<;>omega,by unfold gJ;split<;>omega,a11,a12⟩,by unfold I64;omega,.inl a9,rfl,rfl⟩
 rw[ag (aq n4),ag (aq n4)]
 by_cases n5:n=5
 ·rw[ae (be n5),ae (be n5)]
  have e1:bK .i64 seed 1103515245=seed*1103515245:=cY
  have e2:bK .i64 1103515245 seed=seed*1103515245:=by rw[cY];omega
  have e3:aA .i64 (seed*1103515245) 12345=seed*1103515245+12345:=aH
  have e4:fv (seed*1103515245+12345) 2147483648=(seed*1103515245+12345)%2147483648:=dH
  have e5:cy .i64 (seed*1103515245+12345) 2147483647=(seed*1103515245+12345)%2147483648:=oI _ 31 (by decide)
  have e8:kG .i64 ((seed*1103515245+12345)%2147483648) 65536=(seed*1103515245+12345)%2147483648/65536:=fU (by omega) (by omega) (by omega)
  have e9:cu .i64 ((seed*1103515245+12345)%2147483648) 16=(seed*1103515245+12345)%2147483648/65536:=by
   unfold cu
   rw[show(2:Int)^min (Int.toNat 16) IntKind.i64.bits=65536 from rfl,Int.fdiv_eq_ediv_of_nonneg _ (by decide)]
  dsimp only[bx,bi,p9,p10,d10,d11,cp9,cp10]
  simp only[e1,e2,e3,e4,e5,e8,e9]
  exact⟨m,brk,pos,out,clk,(seed*1103515245+12345)%2147483648,(seed*1103515245+12345)%2147483648/65536,⟨hm,a1,a2,a3,a4,a5,a6,a7,a8,a9,a10,by omega,by omega⟩,by unfold I64;omega,.inl (by omega),rfl,rfl⟩
 rw[ag (aq n5),ag (aq n5)]
 exact⟨m,brk,pos,out,clk,seed,-38,⟨hm,a1,a2,a3,a4,a5,a6,a7,a8,a9,a10,a11,a12⟩,by unfold I64;omega,.inr ⟨rfl,rfl,rfl,rfl,rfl,rfl⟩,rfl,rfl⟩
end
theorem iand_lo (v:Int):cy .i64 (v%4294967296) 4064=cy .i64 v 4064:=by
 unfold cy
 congr 2
 rw[BitVec.toNat_and,BitVec.toNat_and]
 have e:∀z:Int,(BitVec.ofInt IntKind.i64.bits z).toNat=(z%18446744073709551616).toNat:=rQ
 have e2:(BitVec.ofInt IntKind.i64.bits 4064).toNat=4064:=by decide
 rw[e (v%4294967296),e v,e2]
 obtain⟨A,hA⟩:∃A,A=(v%18446744073709551616).toNat:=⟨_,rfl⟩
 have hB:(v%4294967296%18446744073709551616).toNat=A%4294967296:=by omega
 rw[hB,<-hA]
 have h:=Nat.and_mod_two_pow (a:=A) (b:=4064) (n:=32)
 have hle:A&&& 4064<=4064:=Nat.and_le_right
 have h1:(A&&& 4064)%2^32=A&&& 4064:=Nat.mod_eq_of_lt (by omega)
 have h2:A%2^32=A%4294967296:=rfl
 have h3:(4064:Nat)%2^32=4064:=rfl
 rw[h1,h2,h3]at h
 exact h.symm
def bk (v:Int):Int:=aA .i64 16384 (cy .i64 v 4064)
theorem Be (v:Int):iO ((v,4064,()),())=some (bk v,()):=by
 unfold iO
 dsimp only
 rw[bE,aa]
 dsimp only
 rw[ag (by decide)]
 rfl
theorem BH {v:Int}(hv:I64 v):iY ((v,4064,()),())=some (bk v,()):=by
 unfold iY
 dsimp only
 rw[ct,bE,aa]
 dsimp only
 rw[ag (by decide),(Cb hv).1,aa]
 dsimp only
 rw[show bW v 4=v%4294967296 from rfl,iand_lo]
 rfl
section
variable {c:List Int}{rip fl:Int}{m:List Page}{heap brk:Int}{inp:List UInt8}{pos:Int}{out:List UInt8}{clk seed st cd ft wh:Int}
theorem BI (hg:iH c)(hB:BoxW m heap brk inp pos out clk seed)(n:Int):
  ∃(c':List Int) (rip':Int) (m':List Page) (brk' pos':Int) (out':List UInt8) (clk' seed' st' cd' ft' wh':Int),iH c'/\BoxW m' heap brk' inp pos' out' clk' seed'/\
   (st'=st/\cd'=cd/\ft'=ft/\wh'=wh/\rip'=bk (k9 m (rg c 4) 8).1\/st'=2/\ -2147483648<=cd'/\cd'<=2147483647/\ft'=ft/\wh'=wh/\rip'=rip\/st'=3/\cd'=cd/\(ft'=13\/ft'=14)/\wh'=rg c 4/\rip'=rip)/\
   gw ((bx c rip fl m heap brk inp pos out clk seed st cd ft wh,n,()),())=some (bx c' rip' fl m' heap brk' inp pos' out' clk' seed' st' cd' ft' wh',())/\
   fy ((n,()),bi c rip fl heap brk inp pos out clk seed st cd ft wh,m,())=some ((),bi c' rip' fl heap brk' inp pos' out' clk' seed' st' cd' ft' wh',m',()):=by
 unfold gw fy
 dsimp only
 by_cases n0:n=0
 ·rw[ae (be n0),ae (be n0),gK _ 4 (by decide) (by decide),aa,kY _ 4 (by decide) (by decide),aa]
  have hb:=Io 31 (by decide) (aR c 7 (az .i))
  exact⟨c,rip,m,brk,pos,out,clk,seed,2,sx 31 (aR c 7 (az .i)),ft,wh,hg,hB,.inr (.inl ⟨rfl,by omega,by omega,rfl,rfl,rfl⟩),rfl,rfl⟩
 rw[ag (aq n0),ag (aq n0)]
 have l1:dI (((m,()),aR c 4 (az .i),8,()),())=some (((k9 m (rg c 4) 8).1,(k9 m (rg c 4) 8).2,()),()):=qh m hB.m.r (rg c 4) 8 (by decide) (by decide) (hg 4)
 have l2:co (((m,()),aR c 4 (az .i),8,()),())=some (((k9 m (rg c 4) 8).1,(k9 m (rg c 4) 8).2,()),()):=pW m hB.m.r (rg c 4) 8 (by decide) (by decide) (hg 4)
 rw[l1,aa,l2,aa]
 dsimp only
 by_cases hk:(k9 m (rg c 4) 8).2=0
 ·rw[be hk,bD,ak,ak]
  obtain⟨m',brk',pos',out',clk',seed',v,b1,b2,_,e1,e2⟩:=xZ (rip:=rip) (fl:=fl) (st:=st) (cd:=cd) (ft:=ft) (wh:=wh) hg hB n
  have hset:=jP (g:=c) (rip:=rip) (fl:=fl) (r:=0) (v:=v) (n:=4) hg b2 rfl (.inl ⟨by decide,by decide⟩)
  have hset:b8 (((c,rip,fl,()),0,4,v,()),())=some ((qf c 0 4 v,rip,fl,()),()):=hset
  rw[e1,aa,e2,aa]
  dsimp only[bx,bi]
  rw[hset,aa,jO,aa]
  dsimp only
  rw[ec,aa,show decide ((16:Int)<=0/\(0:Int)<=19)=false from rfl,ak,(Cb b2).2,aa,Be,aa,BH (wM m (rg c 4) 8),aa]
  refine⟨setA (qf c 0 4 v) 4 (aA .i64 (rg (qf c 0 4 v) 4) 8),bk (k9 m (rg c 4) 8).1,m',brk',pos',out',clk',seed',st,cd,ft,wh,(lH hg b2 rfl).setA (au _),b1,.inl ⟨rfl,rfl,rfl,rfl,rfl⟩,rfl,rfl⟩
 ·rw[aq hk,bS,aE,aE]
  have hv:(k9 m (rg c 4) 8).2=13\/(k9 m (rg c 4) 8).2=14:=by
   unfold k9 at hk|-
   split at hk
   ·exact absurd rfl hk
   ·rename_i h
    rw[if_neg h]
    rcases n6 m (rg c 4) 1 8 0 with g|g|g
    ·exact absurd g h
    ·exact .inl g
    ·exact .inr g
  exact⟨c,rip,m,brk,pos,out,clk,seed,3,cd,(k9 m (rg c 4) 8).2,rg c 4,hg,hB,.inr (.inr ⟨rfl,rfl,hv,rfl,rfl⟩),rfl,rfl⟩
theorem boxW_of (h:xO fl m heap brk inp pos out clk seed st cd ft wh):BoxW m heap brk inp pos out clk seed:=by
 unfold xO at h
 obtain⟨_,a2,a3,a4,a5,a6,a7,a8,a9,a10,a11,a12,a13,a14,_⟩:=h
 exact⟨DU a2,a3,a4,a5,a6,a7,a8,a9,a10,a11,a12,a13,a14⟩
theorem own_box (hm:m.length<=1048576):gG ((bx c rip fl m heap brk inp pos out clk seed st cd ft wh,()),())=some (bx c rip fl m heap brk inp pos out clk seed st cd ft wh,()):=by
 unfold gG
 dsimp only[bx]
 rw[Ib m hm,aa]
theorem FS (hm:m.length<=1048576):gX ((bx c rip fl m heap brk inp pos out clk seed st cd ft wh,()),())=some (bi c rip fl heap brk inp pos out clk seed st cd ft wh,m,()):=by
 unfold gX
 dsimp only[bx]
 rw[nX m hm,aa]
end
theorem BZ (a:Int):∃(n:Int) (b:Bool),dR ((a,()),())=some ((n,b,()),())/\dO ((a,()),())=some ((n,b,()),()):=by
 unfold dR dO
 dsimp only
 refine iterP (fun x=>∃k:Nat,k<=8/\x=((a,(k:Int),()),())) (fun x=>8-x.1.2.1.toNat) (fun o1 o2=>∃(n:Int) (b:Bool),o1=some ((n,b,()),())/\o2=some ((n,b,()),())) ?_ F _ ⟨0,by omega,rfl⟩ (by unfold F;dsimp only;omega)
 rintro _ r1 r2 ⟨k,hk,rfl⟩ hrec
 dsimp only
 by_cases h:k<8
 ·have e1:bK .i64 32 (k:Int)=32*k:=cY
  have e2:bK .i64 (k:Int) 32=32*k:=by rw[cY];omega
  have e3:aA .i64 16640 (32*(k:Int))=16640+32*k:=aH
  unfold gF
  dsimp only
  rw[fP (show(k:Int)<8 by omega),aE,aE,aa,e1,e2,e3,aH]
  dsimp only
  by_cases ha:a=16640+32*(k:Int)
  ·rw[ae (be ha),ae (be ha.symm)]
   exact⟨k,true,rfl,rfl⟩
  ·rw[ag (aq ha),ag (aq fun h=>ha h.symm)]
   exact hrec _ ⟨k+1,by omega,rfl⟩ (by dsimp only;omega)
 ·rw[fL (show ¬(k:Int)<8 by omega),ak,ak]
  exact⟨0,false,rfl,rfl⟩
section
variable {c:List Int}{rip fl:Int}{m:List Page}{heap brk:Int}{inp:List UInt8}{pos:Int}{out:List UInt8}{clk seed st cd ft wh:Int}
theorem v5 (hS:StOK c rip fl m)(hB:BoxW m heap brk inp pos out clk seed):
  ∃(c':List Int) (rip' fl':Int) (m':List Page) (brk' pos':Int) (out':List UInt8) (clk' seed' st' cd' ft' wh':Int) (l':List Acc),StOK c' rip' fl' m'/\BoxW m' heap brk' inp pos' out' clk' seed'/\l'.length<=1000/\
   ir ((bx c rip fl m heap brk inp pos out clk seed st cd ft wh,()),())=some ((bx c' rip' fl' m' heap brk' inp pos' out' clk' seed' st' cd' ft' wh',l',()),())/\
   fX ((),bi c rip fl heap brk inp pos out clk seed st cd ft wh,m,())=some ((),bi c' rip' fl' heap brk' inp pos' out' clk' seed' st' cd' ft' wh',m',l',()):=by
 obtain⟨n,b,t1,t2⟩:=BZ rip
 unfold ir fX
 dsimp only[bx,bi]
 rw[t1,aa,t2,aa]
 dsimp only
 cases b with
 |true=>
  obtain⟨c',rip',m',brk',pos',out',clk',seed',st',cd',ft',wh',b1,b2,b3,e1,e2⟩:=BI (rip:=rip) (fl:=fl) (st:=st) (cd:=cd) (ft:=ft) (wh:=wh) hS.gT hB n
  dsimp only[bx,bi]at e1 e2
  rw[aE,aE,e1,aa,e2,aa]
  refine⟨c',rip',fl,m',brk',pos',out',clk',seed',st',cd',ft',wh',[],⟨b2.m,b1,hS.fT,hS.bT,?_⟩,b2,by simp,rfl,rfl⟩
  rcases b3 with ⟨_,_,_,_,h⟩|⟨_,_,_,_,_,h⟩|⟨_,_,_,_,h⟩
  ·rw[h];exact au _
  ·rw[h];exact hS.pT
  ·rw[h];exact hS.pT
 |false=>
  obtain⟨g',p',f',m',l',k',ok,hl,e1,e2⟩:=EJ hS
  rw[ak,ak,e1,aa,e2,aa]
  dsimp only
  by_cases hk:k'=0
  ·rw[be hk,bD,ak,aE]
   exact⟨g',p',f',m',brk,pos,out,clk,seed,st,cd,ft,wh,l',ok,⟨ok.mT,hB.h1,hB.h2,hB.b1,hB.b2,hB.i1,hB.p1,hB.p2,hB.o1,hB.c1,hB.c2,hB.s1,hB.s2⟩,hl.2,rfl,rfl⟩
  ·have hir:inR (aT .i64 (bL l') 1) (bL l')=true:=by rw[bb,bn];exact cI
   obtain⟨q,hq⟩:∃q:Bool,br (eqI k' 13) (some true) (some (eqI k' 14))=some q:=by cases eqI k' 13<;>exact⟨_,rfl⟩
   rw[aq hk,bS,aE,ak,hq,aa,aa,hir]
   cases q with
   |true=>
    rw[aE,aE,aE,aE,aa,aa]
    exact⟨c,rip,fl,m,brk,pos,out,clk,seed,3,cd,k',_,l',hS,hB,hl.2,rfl,rfl⟩
   |false=>
    rw[ak,ak,aa,aa]
    exact⟨c,rip,fl,m,brk,pos,out,clk,seed,3,cd,k',rip,l',hS,hB,hl.2,rfl,rfl⟩
theorem stOK_of (hg:iH c)(hf:I64 fl)(hp:I64 rip)(h:xO fl m heap brk inp pos out clk seed st cd ft wh):StOK c rip fl m:=by
 unfold xO at h
 exact⟨DU h.2.1,hg,hf,h.1,hp⟩
theorem Dv (n:Int):iU ((n,()),())=some (decide (0<=n/\n<=400),()):=by
 unfold iU
 dsimp only
 rw[bE,aa]
theorem Bn (hf:I64 fl)(hc:I64 cd)(hm:m.length<=1048576)(n:Int):iq ((bx c rip fl m heap brk inp pos out clk seed st cd ft wh,n,()),())=some ((if xO fl m heap brk inp pos out clk seed st cd ft wh then(if 0<=n/\n<=400 then 0 else 4)else 1),()):=by
 unfold iq
 dsimp only[bx]
 rw[Er hc hf hm,aa]
 dsimp only
 by_cases h:xO fl m heap brk inp pos out clk seed st cd ft wh
 ·rw[decide_eq_true h,bD,ak,if_pos h,ct,bE,aa]
  dsimp only
  by_cases h2:0<=n/\n<=400
  ·rw[decide_eq_true h2,bD,ak,if_pos h2]
  ·rw[decide_eq_false h2,bS,aE,if_neg h2]
 ·rw[decide_eq_false h,bS,aE,if_neg h]
end
theorem yQ (n:Int)(h0:1<=n)(h1:n<=274877906944):∃t,cO ((n,()),())=some (t,()):=by
 unfold cO
 dsimp only
 rw[ag (kb)]
 refine nj (fun x=>0<=x.1.1/\(x.1.2.1.length:Int)+x.1.1<=n) (fun x=>x.1.1.toNat) (fun _ r=>∃t,r=some (t,())) ?_ F _ ⟨by show(0:Int)<=n;omega,by show((0:Nat):Int)+n<=n;omega⟩ (by show n.toNat<F;unfold F;omega)
 rintro⟨⟨x,s,_⟩,_⟩ rec ⟨h2,h3⟩ hrec
 dsimp only at h2 h3 hrec|-
 by_cases hx:0<x
 ·have hq:kG .i64 x 10=x/10:=by
   unfold kG
   rw[Int.tdiv_eq_ediv_of_nonneg h2]
   exact dD (by unfold I64;omega)
  rw[ae (fP hx),ae (by unfold gA lim j7;simp;omega),hq]
  exact hrec _ ⟨by dsimp only;omega,by dsimp only;unfold iJ j7;simp;omega⟩ (by dsimp only;omega)
 ·rw[ag (fL hx),ae (by unfold gA lim;simp;omega)]
  exact⟨_,rfl⟩
noncomputable def mt (n:Int):List UInt8:=match cO ((n,()),())with
 |some x=>x.1
 |none=>[]
theorem rG (n:Int)(h0:1<=n)(h1:n<=274877906944):cO ((n,()),())=some (mt n,()):=by
 obtain⟨t,h⟩:=yQ n h0 h1
 unfold mt;rw[h]
theorem Df {α:Type}{l:List α}{i:Nat}(h:i<l.length)(v d:α):aR (cD l (i:Int) v) (i:Int) d=v:=by
 unfold aR cD
 rw[Int.toNat_natCast,List.getD_eq_getElem?_getD,List.getElem?_set_self h];rfl
theorem Ew {α:Type}(l:List α)(i:Int)(v w:α):cD (cD l i v) i w=cD l i w:=by
 unfold cD;rw[List.set_set]
theorem Hj {α:Type}(l:List α)(i:Int)(v:α):(cD l i v).length=l.length:=by unfold cD;rw[List.length_set]
theorem Gy {α:Type}(f:Nat->α){l:List α}{j:Nat}(h:j<l.length):cD ((List.range j).map f++l.drop j) (j:Int) (f j)=(List.range (j+1)).map f++l.drop (j+1):=by
 unfold cD
 rw[Int.toNat_natCast,List.set_append,if_neg (by simp),List.length_map,List.length_range,Nat.sub_self,List.drop_eq_getElem_cons h,List.set_cons_zero,List.range_succ,List.map_append,List.append_assoc]
 rfl
noncomputable def mkP (m:Int)(i:Nat):Page:=Page.mk (m+3*(i:Int)) (m+3*(i:Int)+1) (mt (m+3*(i:Int)+2))
noncomputable def DW (m:Int)(n:Nat):List Page:=(List.range n).map (mkP m)
theorem GB (m:Int)(n:Nat):(DW m n).length=n:=by simp[DW]
theorem wS (m:Int)(l:List Page)(h0:1<=m)(h1:m<=68719476736)(hl:l.length<=1073741824):
  fD ((m,()),l,())=some (m+3*l.length,DW m l.length,()):=by
 unfold fD
 dsimp only
 refine(Ret.iter (fun y=>∃j:Nat,j<=l.length/\y=((m+3*(j:Int),(j:Int),()),(List.range j).map (mkP m)++l.drop j,())) (fun y=>l.length-y.1.2.1.toNat) ?_ F _ ⟨0,by omega,by simp⟩ (by unfold F;simp;omega)).eq
 rintro _ rec ⟨j,hj,rfl⟩ hrec
 dsimp only
 have hlen:((List.range j).map (mkP m)++l.drop j).length=l.length:=by rw[List.length_append,List.length_map,List.length_range,List.length_drop];omega
 obtain⟨a,ha⟩:∃a,a=(List.range j).map (mkP m)++l.drop j:=⟨_,rfl⟩
 rw[<-ha]at hlen|-
 simp only[bb,Hj,hlen]
 by_cases h:j<l.length
 ·have hja:j<a.length:=by omega
  have e1:aA .i64 (m+3*(j:Int)) 1=m+3*j+1:=aH
  have e2:aA .i64 (m+3*(j:Int)+1) 1=m+3*j+2:=by rw[aH];omega
  have e3:aA .i64 (m+3*(j:Int)+2) 1=m+3*((j+1:Nat):Int):=by rw[aH];omega
  have hr:inR (j:Int) (l.length:Int)=true:=cI
  rw[ae (fP),hr,aE,aE,e1,e2,rG (m+3*(j:Int)+2) (by omega) (by omega),aa,aE,e3,aH]
  simp only[Ew,Df hja]
  refine hrec _ ⟨j+1,by omega,?_⟩ (by dsimp only;omega)
  have:=Gy (mkP m) h
  rw[<-ha]at this
  rw[<-this]
  rfl
 ·have:j=l.length:=by omega
  subst this
  rw[ag (fL),ha]
  exact Ret.some (by rw[List.drop_length,List.append_nil];rfl)
theorem GA (m:Int){n j:Nat}(h:j<n):aR (DW m n) (j:Int) (az .page)=mkP m j:=by
 unfold aR DW
 rw[Int.toNat_natCast,List.getD_eq_getElem?_getD,List.getElem?_map,List.getElem?_range h];rfl
theorem wt (m:Int)(n:Nat)(h0:1<=m)(h1:m<=68719476736)(hl:n<=1073741824):fC ((DW m n,m,()),())=some (m+3*n,()):=by
 unfold fC
 dsimp only
 refine(Ret.iter (fun y=>∃j:Nat,j<=n/\y=((DW m n,m+3*(j:Int),(j:Int),()),())) (fun y=>n-y.1.2.2.1.toNat) ?_ F _ ⟨0,by omega,by simp⟩ (by unfold F;simp;omega)).eq
 rintro _ rec ⟨j,hj,rfl⟩ hrec
 dsimp only
 simp only[bb,GB]
 by_cases h:j<n
 ·have e1:aA .i64 (m+3*(j:Int)) 1=m+3*j+1:=aH
  have e2:aA .i64 (m+3*(j:Int)+1) 1=m+3*j+2:=by rw[aH];omega
  have e3:aA .i64 (m+3*(j:Int)+2) 1=m+3*((j+1:Nat):Int):=by rw[aH];omega
  have hr:inR (j:Int) (n:Int)=true:=cI
  rw[ae (fP),hr,aE,aE,aE,GA m h]
  dsimp only[mkP]
  rw[be rfl,bD,ak,e1,be rfl,bD,ak,e2,rG (m+3*(j:Int)+2) (by omega) (by omega),aa,show∀t:List UInt8,eqS t t=true from fun t=>decide_eq_true rfl,bD,ak,e3,aH]
  exact hrec _ ⟨j+1,by omega,rfl⟩ (by dsimp only;omega)
 ·have:j=n:=by omega
  subst this
  rw[ag (fL)]
  exact Ret.some rfl
theorem uY (m:Int)(l:List Page)(h0:1<=m)(h1:m<=68719476736)(hl:l.length<=1073741824):
  eT (((),m,()),l,())=some (m+3*l.length,DW m l.length,()):=by
 unfold eT
 dsimp only
 rw[wS m l h0 h1 hl,aa]
theorem uI (m:Int)(n:Nat)(h0:1<=m)(h1:m<=68719476736)(hl:n<=1073741824):eR (((DW m n,()),m,()),())=some (m+3*n,()):=by
 unfold eR
 dsimp only
 rw[wt m n h0 h1 hl,aa]
 dsimp only
 rw[ag (fL)]
theorem EX (x:Page)(left:Int)(h0:0<=left)(h1:left<=1048576)(hd:x.data.length<=maxLen):iX ((x,left,()),())=some (if left-x.data.length<0 then -1 else left-x.data.length,()):=by
 unfold iX
 simp only[bb]
 rw[EQ (by unfold I64 maxLen at *;omega)]
 by_cases h:left-(x.data.length:Int)<0
 ·rw[ae (fP h),if_pos h]
 ·rw[ag (fL h),if_neg h]
theorem BS (xs:List Page)(hx:xs.length<=maxLen)(hd:∀x∈xs,x.data.length<=maxLen):∃r:Int,hJ ((xs,1048576,()),())=some (r,())/\(0<=r->xs.length<=1048576):=by
 unfold hJ
 simp only[bb]
 rw[EQ (by unfold I64 maxLen at *;omega)]
 by_cases h:1048576-(xs.length:Int)<0
 ·rw[ae (fP h)]
  exact⟨-1,rfl,fun h=>absurd h (by decide)⟩
 ·rw[ag (fL h)]
  refine nj (fun x=>x.1.1=xs/\0<=x.1.2.1/\x.1.2.1<=1048576/\0<=x.1.2.2.1/\x.1.2.2.1<=(xs.length:Int)) (fun x=>xs.length-x.1.2.2.1.toNat) (fun _ o=>∃r:Int,o=some (r,())/\(0<=r->xs.length<=1048576)) ?_ F _ ?_ ?_
  ·rintro⟨⟨ys,left,i,_⟩,_⟩ rec ⟨h2,h3,h4,h0,h1⟩ hrec
   dsimp only at h0 h1 h2 h3 h4 hrec|-
   subst h2
   by_cases hi:i<ys.length
   ·obtain⟨n,rfl⟩:=Int.eq_ofNat_of_zero_le h0
    have hn:n<ys.length:=by omega
    rw[ae (fP hi),ae (cI h0 hi),fp hn,EX _ _ h3 h4 (hd _ (List.getElem_mem hn)),aa]
    dsimp only
    by_cases hl:left-(ys[n].data.length:Int)<0
    ·rw[if_pos hl]
     exact⟨-1,rfl,fun h=>absurd h (by decide)⟩
    ·rw[if_neg hl,ag (fL hl),aH]
     exact hrec _ ⟨rfl,by dsimp only;omega,by dsimp only;omega,by dsimp only;omega,by dsimp only;omega⟩ (by dsimp only;omega)
   ·rw[ag (fL hi)]
    exact⟨left,rfl,fun _=>by omega⟩
  ·exact⟨rfl,by dsimp only;omega,by dsimp only;omega,by simp,by simp⟩
  ·simp[F];omega
theorem zr (xs:List Page)(hx:xs.length<=maxLen)(hd:∀x∈xs,x.data.length<=maxLen):∃r:Int,gf (((xs,()),1048576,()),())=some (r,())/\(0<=r->xs.length<=1048576):=by
 obtain⟨r,h1,h2⟩:=BS xs hx hd
 unfold gf
 dsimp only
 rw[h1,aa]
 by_cases h:r<0
 ·rw[ae (fP h)];exact⟨-1,rfl,fun h=>absurd h (by decide)⟩
 ·rw[ag (fL h)];exact⟨r,rfl,h2⟩
theorem BY (xs:List Page)(hx:xs.length<=1048576):ia ((xs,()),())=some ((),xs,()):=by
 unfold ia km
 simp only[bb]
 rw[ae (mE (by omega) (Int.le_refl _)),ae (yC (by omega))]
 refine eD (fun x=>x.1.1=xs/\0<=x.1.2.1/\x.1.2.1<=(xs.length:Int)/\x.2.1=xs.take x.1.2.1.toNat++List.replicate (xs.length-x.1.2.1.toNat) (az .page)) (fun x=>xs.length-x.1.2.1.toNat) (fun _=>some ((),xs,())) ?_ F _ ?_ ?_
 ·rintro⟨⟨ys,i,_⟩,out,_⟩ rec ⟨h2,h0,h1,h3⟩ hrec
  dsimp only at h0 h1 h2 h3 hrec|-
  subst h2
  by_cases hi:i<ys.length
  ·obtain⟨n,rfl⟩:=Int.eq_ofNat_of_zero_le h0
   have hn:n<ys.length:=by omega
   rw[Int.toNat_natCast]at h3
   have hol:out.length=ys.length:=by rw[h3];simp;omega
   rw[ae (fP hi),ae (cI h0 hi),aa,ae (cI h0 (by rw[hol];exact hi)),aH]
   refine hrec _ ⟨rfl,by dsimp only;omega,by dsimp only;omega,?_⟩ (by dsimp only;omega)
   dsimp only
   rw[fp hn,show((n:Int)+1).toNat=n+1 by omega,h3]
   unfold cD
   rw[Int.toNat_natCast,List.set_append_right _ _ (by simp;omega),List.length_take,Nat.min_eq_left (by omega),Nat.sub_self,show ys.length-n=(ys.length-(n+1))+1 by omega,List.replicate_succ,<-List.take_append_getElem hn,List.append_assoc]
   rfl
  ·have:i=ys.length:=by omega
   subst this
   rw[ag (fL hi),h3,Int.toNat_natCast];simp
 ·exact⟨rfl,by simp,by simp,by simp[sP]⟩
 ·simp[F];omega
theorem zv (xs:List Page)(hx:xs.length<=1048576):gh (((xs,()),()),())=some ((),xs,()):=by
 unfold gh
 dsimp only
 rw[BY xs hx,aa]
theorem yp (x:Page):iW ((x,x,()),())=some (true,()):=by
 unfold iW
 dsimp only
 rw[be rfl,be rfl,show eqS x.data x.data=true from decide_eq_true rfl]
 rfl
theorem wg (xs:List Page)(hx:xs.length<=1048576):gZ ((xs,xs,()),())=some (true,()):=by
 unfold gZ
 simp only[bb]
 rw[be rfl,bD,ak]
 refine eD (fun x=>x.1.1=xs/\x.1.2.1=xs/\0<=x.1.2.2.1/\x.1.2.2.1<=(xs.length:Int)) (fun x=>xs.length-x.1.2.2.1.toNat) (fun _=>some (true,())) ?_ F _ ?_ ?_
 ·rintro⟨⟨ys,zs,i,_⟩,_⟩ rec ⟨h2,h3,h0,h1⟩ hrec
  dsimp only at h0 h1 h2 h3 hrec|-
  subst h2
  subst h3
  by_cases hi:i<zs.length
  ·rw[ae (fP hi),ae (cI h0 hi),ae (cI h0 hi),yp,aa,bD,ak,aH]
   exact hrec _ ⟨rfl,rfl,by dsimp only;omega,by dsimp only;omega⟩ (by dsimp only;omega)
  ·rw[ag (fL hi)]
 ·exact⟨rfl,rfl,by simp,by simp⟩
 ·simp[F];omega
theorem ux (xs:List Page)(hx:xs.length<=1048576):ge (((xs,()),(xs,()),()),())=some (true,()):=by
 unfold ge
 dsimp only
 rw[wg xs hx,aa,bD,ak]
theorem xG (a0 a1 a2 a3 a4 a5 a6 a7 a8 a9 a10 a11 a12 a13 a14 a15:Int):gg ((([a0,a1,a2,a3,a4,a5,a6,a7,a8,a9,a10,a11,a12,a13,a14,a15],()),()),())=some (([a0,a1,a2,a3,a4,a5,a6,a7,a8,a9,a10,a11,a12,a13,a14,a15],()),()):=by kernel_rfl
theorem zu {c:List Int}(h:c.length=16):gg (((c,()),()),())=some ((c,()),()):=by
 match c,h with
 |[a0,a1,a2,a3,a4,a5,a6,a7,a8,a9,a10,a11,a12,a13,a14,a15],_=>exact xG a0 a1 a2 a3 a4 a5 a6 a7 a8 a9 a10 a11 a12 a13 a14 a15
theorem HD {c:List Int}(p f:Int)(h:c.length=16):jG (((c,p,f,()),()),())=some ((c,p,f,()),()):=by
 unfold jG
 dsimp only
 rw[zu h,aa]
theorem uw (c:List Int):gd (((c,()),(c,()),()),())=some (true,()):=by
 unfold gd
 dsimp only
 refine(Ret.iter (fun y=>∃i:Nat,i<=16/\y=(((i:Int),()),(c,()),(c,()),())) (fun y=>16-y.1.1.toNat) ?_ F _ ⟨0,by omega,rfl⟩ (by unfold F;simp)).eq
 rintro _ rec ⟨i,hi,rfl⟩ hrec
 dsimp only
 by_cases h:i<16
 ·rw[ae (fP),ae (by simp[inR];omega),ae (by simp[inR];omega),be rfl,bD,ag rfl,aH]
  exact hrec _ ⟨i+1,by omega,rfl⟩ (by simp;omega)
 ·rw[ag (fL)]
  exact Ret.some rfl
theorem A8 (c:List Int)(p f:Int):jE (((c,p,f,()),(c,p,f,()),()),())=some (true,()):=by
 unfold jE
 dsimp only
 rw[uw,aa]
 dsimp only
 rw[bD,ak,be rfl,be rfl,bD,ak,ak]
theorem elWf_i {x:Int}(h:yo .i x):I64 x:=by
 obtain⟨⟨n,e,w⟩,_⟩:=h
 have e:x=n:=by injection e
 rw[e];exact wf64 w
theorem regs_wf {c:List Int}(w:∀x∈c,yo .i x):∀i,I64 (aR c i (az .i)):=fun i=>by
 unfold aR
 rw[List.getD_eq_getElem?_getD]
 cases hci:c[i.toNat]? with
 |none=>exact(by unfold I64;decide:I64 (0:Int))
 |some v=>exact elWf_i (w v (List.mem_of_getElem? hci))
section
variable {c:List Int}{rip fl:Int}{m:List Page}{heap brk:Int}{inp:List UInt8}{pos:Int}{out:List UInt8}{clk seed st cd ft wh:Int}
theorem Hz (hm:m.length<=maxLen)(hd:∀x∈m,x.data.length<=maxLen):∃r:Int,jF ((bx c rip fl m heap brk inp pos out clk seed st cd ft wh,1048576,()),())=some (r,())/\(0<=r->m.length<=1048576):=by
 unfold jF
 dsimp only[bx,p6,p8]
 obtain⟨r,e,hr⟩:=zr m hm hd
 rw[e,aa]
 dsimp only
 by_cases h1:r<0
 ·rw[ae (fP h1)];exact⟨-1,rfl,fun h=>absurd h (by decide)⟩
 ·rw[ag (fL h1)]
  have hm:=hr (by omega)
  by_cases h2:ltI (aT .i64 r (bL inp)) 0=true
  ·rw[ae h2];exact⟨-1,rfl,fun h=>absurd h (by decide)⟩
  ·rw[ag (by simpa using h2)]
   by_cases h3:ltI (aT .i64 (aT .i64 r (bL inp)) (bL out)) 0=true
   ·rw[ae h3];exact⟨-1,rfl,fun h=>absurd h (by decide)⟩
   ·rw[ag (by simpa using h3)];exact⟨_,rfl,fun _=>hm⟩
theorem HC (h:c.length=16)(hm:m.length<=1048576):fj ((bx c rip fl m heap brk inp pos out clk seed st cd ft wh,()),())=some (bi c rip fl heap brk inp pos out clk seed st cd ft wh,m,()):=by
 unfold fj
 dsimp only[bx]
 rw[HD rip fl h,aa,zv m hm,aa]
theorem tb (hm:m.length<=1048576):fi ((bx c rip fl m heap brk inp pos out clk seed st cd ft wh,bx c rip fl m heap brk inp pos out clk seed st cd ft wh,()),())=some (true,()):=by
 unfold fi
 dsimp only[bx,p5,p6,p7,p8,p9,p10,p11,p12,p13,p14]
 simp only[A8,ux m hm,aa,bD,ak,be rfl,show eqS inp inp=true from decide_eq_true rfl,show eqS out out=true from decide_eq_true rfl]
theorem tG (k:Int)(h0:1<=k)(h1:k<=68719476736)(hm:m.length<=1073741824):fN ((bi c rip fl heap brk inp pos out clk seed st cd ft wh,k,()),m,())=some (k+3*m.length,DW k m.length,()):=by
 unfold fN
 dsimp only
 rw[uY k m h0 h1 hm,aa]
theorem Bc (k:Int)(n:Nat)(h0:1<=k)(h1:k<=68719476736)(hn:n<=1073741824):fM ((bx c rip fl (DW k n) heap brk inp pos out clk seed st cd ft wh,k,()),())=some (k+3*n,()):=by
 unfold fM
 dsimp only[bx]
 rw[uI k n h0 h1 hn,aa]
 dsimp only
 rw[ag (fL)]
end
section
variable {c:List Int}{rip fl:Int}{m:List Page}{heap brk:Int}{inp:List UInt8}{pos:Int}{out:List UInt8}{clk seed st cd ft wh:Int}
theorem xV (hg:iH c)(hf:I64 fl)(hp:I64 rip)(hc:I64 cd)(hm:m.length<=1048576)(n:Int):
  ∃(c':List Int) (rip' fl':Int) (m':List Page) (heap' brk':Int) (inp':List UInt8) (pos':Int) (out':List UInt8) (clk' seed' st' cd' ft' wh':Int) (i' k':Int),m'.length<=1048576/\
   iZ ((bx c rip fl m heap brk inp pos out clk seed st cd ft wh,n,()),())=some ((bx c' rip' fl' m' heap' brk' inp' pos' out' clk' seed' st' cd' ft' wh',i',k',()),())/\
   gD ((bx c rip fl m heap brk inp pos out clk seed st cd ft wh,n,()),())=some ((bi c' rip' fl' heap' brk' inp' pos' out' clk' seed' st' cd' ft' wh',i',k',()),m',()):=by
 have hfu:=Bn (c:=c) (rip:=rip) (heap:=heap) (brk:=brk) (inp:=inp) (pos:=pos) (out:=out) (clk:=clk) (seed:=seed) (st:=st) (ft:=ft) (wh:=wh) hf hc hm n
 dsimp only[bx]at hfu
 unfold iZ gD
 dsimp only[bx]
 rw[hfu,FA hc hm,aa,aa]
 dsimp only
 by_cases h:xO fl m heap brk inp pos out clk seed st cd ft wh
 rotate_left
 ·rw[if_neg h,decide_eq_false h,bS,aE,ae (by decide)]
  exact⟨[],0,0,[],0,0,[],0,[],0,0,0,0,0,0,0,1,by simp,rfl,rfl⟩
 rw[if_pos h,decide_eq_true h,bD,ak,Dv,aa]
 dsimp only
 by_cases h2:0<=n/\n<=400
 rotate_left
 ·rw[if_neg h2,decide_eq_false h2,bS,aE,ae (by decide)]
  exact⟨[],0,0,[],0,0,[],0,[],0,0,0,0,0,0,0,4,by simp,rfl,rfl⟩
 rw[if_pos h2,decide_eq_true h2,bD,ak,ag (by decide)]
 have hcp:=FS (c:=c) (rip:=rip) (fl:=fl) (heap:=heap) (brk:=brk) (inp:=inp) (pos:=pos) (out:=out) (clk:=clk) (seed:=seed) (st:=st) (cd:=cd) (ft:=ft) (wh:=wh) hm
 dsimp only[bx,bi]at hcp
 rw[hcp,aa]
 obtain⟨c',rip',fl',m',brk',pos',out',clk',seed',st',cd',ft',wh',i',hl,e1,e2⟩:∃(c':List Int) (rip' fl':Int) (m':List Page) (brk' pos':Int) (out':List UInt8) (clk' seed' st' cd' ft' wh' i':Int),m'.length<=1048576/\
   jd ((bx c rip fl m heap brk inp pos out clk seed st cd ft wh,n,()),())=some ((bx c' rip' fl' m' heap brk' inp pos' out' clk' seed' st' cd' ft' wh',i',()),())/\
   bV ((n,()),bi c rip fl heap brk inp pos out clk seed st cd ft wh,m,())=some (i',bi c' rip' fl' heap brk' inp pos' out' clk' seed' st' cd' ft' wh',m',()):=by
  unfold jd bV
  dsimp only
  refine iterQ (fun x y=>∃(c:List Int) (rip fl:Int) (m:List Page) (brk pos:Int) (out:List UInt8) (clk seed st cd ft wh i:Int),StOK c rip fl m/\BoxW m heap brk inp pos out clk seed/\0<=i/\i<=n/\
    x=((n,(i,())),(bx c rip fl m heap brk inp pos out clk seed st cd ft wh,((([]:List Int),(0,(0,(0,(0,(([]:List UInt8),(0,(([]:List UInt8),(0,(0,(0,(0,(0,(0,())))))))))))))),(([]:List Page),()))))/\y=((n,(i,())),(bi c rip fl heap brk inp pos out clk seed st cd ft wh,(m,()))))
   (fun x=>(n-x.1.2.1).toNat)
   (fun o1 o2=>∃(c':List Int) (rip' fl':Int) (m':List Page) (brk' pos':Int) (out':List UInt8) (clk' seed' st' cd' ft' wh' i':Int),m'.length<=1048576/\
    o1=some ((bx c' rip' fl' m' heap brk' inp pos' out' clk' seed' st' cd' ft' wh',(i',())),())/\o2=some (i',(bi c' rip' fl' heap brk' inp pos' out' clk' seed' st' cd' ft' wh',(m',())))) ?_ F _ _
   ⟨c,rip,fl,m,brk,pos,out,clk,seed,st,cd,ft,wh,0,stOK_of hg hf hp h,boxW_of h,by omega,by omega,rfl,rfl⟩ (by unfold F;dsimp only;omega)
  rintro _ _ r1 r2 ⟨c,rip,fl,m,brk,pos,out,clk,seed,st,cd,ft,wh,i,hS,hB,i0,i1,rfl,rfl⟩ hrec
  have hlm:=hS.mT.len
  dsimp only[bx,bi,p10,p11]
  by_cases hlt:i<n
  rotate_left
  ·have:i=n:=by omega
   subst this
   rw[fL hlt,ak,ak,aa,ak]
   exact⟨c,rip,fl,m,brk,pos,out,clk,seed,st,cd,ft,wh,i,by omega,rfl,rfl⟩
  rw[fP hlt,aE,aE,aa]
  by_cases h1:st=1
  rotate_left
  ·rw[aq h1,bS,aE,ak]
   exact⟨c,rip,fl,m,brk,pos,out,clk,seed,st,cd,ft,wh,i,by omega,rfl,rfl⟩
  rw[be h1,bD,ak,aE]
  obtain⟨c',rip',fl',m',brk',pos',out',clk',seed',st',cd',ft',wh',l',b1,b2,_,e1,e2⟩:=v5 (st:=st) (cd:=cd) (ft:=ft) (wh:=wh) hS hB
  dsimp only[bx,bi]at e1 e2
  rw[e1,aa,e2,aa]
  unfold iQ
  rw[aa,aH]
  exact hrec _ _ ⟨c',rip',fl',m',brk',pos',out',clk',seed',st',cd',ft',wh',i+1,b1,b2,by omega,by omega,rfl,rfl⟩ (by dsimp only;omega)
 have hown:=own_box (c:=c') (rip:=rip') (fl:=fl') (heap:=heap) (brk:=brk') (inp:=inp) (pos:=pos') (out:=out') (clk:=clk') (seed:=seed') (st:=st') (cd:=cd') (ft:=ft') (wh:=wh') (m:=m') hl
 dsimp only[bx,bi]at e1 e2 hown
 rw[e1,aa,e2,aa]
 dsimp only[p10,p11]
 by_cases h1:st'=1
 ·rw[be h1,aE,aE,hown,aa]
  exact⟨c',rip',fl',m',heap,brk',inp,pos',out',clk',seed',st',cd',ft',wh',i',33,hl,rfl,rfl⟩
 ·rw[aq h1,ak,ak,hown,aa]
  exact⟨c',rip',fl',m',heap,brk',inp,pos',out',clk',seed',st',cd',ft',wh',i',0,hl,rfl,rfl⟩
end
theorem y9 (y:VTL.Ty [.agg [.arr .i 16,.int .i64,.int .i64,.list .page,.int .i64,.int .i64,.str,.int .i64,.str,.int .i64,.int .i64,.int .i64,.int .i64,.int .i64,.int .i64],.int .i64])
  (h:VTL.wf [.agg [.arr .i 16,.int .i64,.int .i64,.list .page,.int .i64,.int .i64,.str,.int .i64,.str,.int .i64,.int .i64,.int .i64,.int .i64,.int .i64,.int .i64],.int .i64] y):cV (y,())=some (true,()):=by
 obtain⟨⟨c,rip,fl,ms,heap,brk,inp,pos,out,clk,seed,st,cd,ft,wh,_⟩,n,_⟩:=y
 obtain⟨⟨⟨w0,w1⟩,w2,w3,⟨w4,w5⟩,_,_,_,_,_,_,_,_,w11,_,_,_⟩,_,_⟩:=h
 have w0:c.length=16:=w0
 have w4:ms.length<=maxLen:=w4
 have hg:iH c:=regs_wf w1
 have hf:I64 fl:=wf64 w3
 have hp:I64 rip:=wf64 w2
 have hc:I64 cd:=wf64 w11
 unfold cV
 dsimp only
 obtain⟨r,e,hr⟩:=Hz (c:=c) (rip:=rip) (fl:=fl) (heap:=heap) (brk:=brk) (inp:=inp) (pos:=pos) (out:=out) (clk:=clk) (seed:=seed) (st:=st) (cd:=cd) (ft:=ft) (wh:=wh) w4 (fun x hx=>(CU (w5 x hx)).2.2)
 dsimp only[bx]at e
 rw[e,aa]
 dsimp only
 by_cases h0:r<0
 ·rw[ae (fP h0)]
 rw[ag (fL h0)]
 have hm:=hr (by omega)
 have hto:=HC (rip:=rip) (fl:=fl) (heap:=heap) (brk:=brk) (inp:=inp) (pos:=pos) (out:=out) (clk:=clk) (seed:=seed) (st:=st) (cd:=cd) (ft:=ft) (wh:=wh) w0 hm
 have hq0:=tb (c:=c) (rip:=rip) (fl:=fl) (heap:=heap) (brk:=brk) (inp:=inp) (pos:=pos) (out:=out) (clk:=clk) (seed:=seed) (st:=st) (cd:=cd) (ft:=ft) (wh:=wh) hm
 have hmk:=tG (c:=c) (rip:=rip) (fl:=fl) (heap:=heap) (brk:=brk) (inp:=inp) (pos:=pos) (out:=out) (clk:=clk) (seed:=seed) (st:=st) (cd:=cd) (ft:=ft) (wh:=wh) (m:=ms) 1 (by decide) (by decide) (by omega)
 have q3:ltI (1+3*(ms.length:Int)) 0=false:=fL
 have hcc:∀a:Int,eqI a a=true:=fun a=>be rfl
 obtain⟨c',rip',fl',m',heap',brk',inp',pos',out',clk',seed',st',cd',ft',wh',i',k',hm',e1,e2⟩:=xV (heap:=heap) (brk:=brk) (inp:=inp) (pos:=pos) (out:=out) (clk:=clk) (seed:=seed) (st:=st) (ft:=ft) (wh:=wh) hg hf hp hc hm n
 have hq:=tb (c:=c') (rip:=rip') (fl:=fl') (heap:=heap') (brk:=brk') (inp:=inp') (pos:=pos') (out:=out') (clk:=clk') (seed:=seed') (st:=st') (cd:=cd') (ft:=ft') (wh:=wh') hm'
 have hmk':=tG (c:=c') (rip:=rip') (fl:=fl') (heap:=heap') (brk:=brk') (inp:=inp') (pos:=pos') (out:=out') (clk:=clk') (seed:=seed') (st:=st') (cd:=cd') (ft:=ft') (wh:=wh') (m:=m') 1 (by decide) (by decide) (by omega)
 have hh:=Bc (c:=c') (rip:=rip') (fl:=fl') (heap:=heap') (brk:=brk') (inp:=inp') (pos:=pos') (out:=out') (clk:=clk') (seed:=seed') (st:=st') (cd:=cd') (ft:=ft') (wh:=wh') 1 m'.length (by decide) (by decide) (by omega)
 have q1:ltI (1+3*(m'.length:Int)) 0=false:=fL
 dsimp only[bx,bi]at hto e1 e2 hq hq0 hmk hmk' hh
 rw[hto,aa]
 dsimp only
 rw[e1,aa]
 simp only[aa,e2,hq,hq0,hcc,bD,ak,hmk,hmk',hh,q1,q3]
end Go.Den.G
