/- Theory for the proofs of this claim: see its last text. -/
import Derived.Test.YtgpplhdmdndffaaGreatFnParts
import Derived.Test.YtgpplhdmdndffaaGreatDenF
import Derived.KernelRfl
import Derived.Laws.MathBits
import Derived.Test.YtgpplhdmdndffaaGreatPcParts
set_option linter.unusedSimpArgs false
namespace Go.Den.G
open Go.Den
set_option maxRecDepth 100000
section
variable {t:List UInt8}{a c:Int}
theorem zF {op:Int}(h:0<=op/\op<=44):fL ((op,()),())=some ((if eh op=true then(8,true,())else if gD op=true then(0,true,())else(0,false,())),()):=by
 obtain⟨n,rfl⟩:=bU h.1
 exact D0 n (by omega)
theorem Bq {f:Int}(h:0<=f/\f<18):iQ ((f,()),())=some (sk f,()):=by
 obtain⟨n,rfl⟩:=bU h.1
 exact F1 n (by omega)
theorem FD (q:Pos)(e:Int)(nw:Bool)(rx:Int)(hr:Bool)(r:_)(hl:(t.length:Int)<=1099511627776)(hq:q.In t)(hp:p6M t q= .ok e):
  Ret (eX ((),(t,e,0,nw,rx,hr,bM t q,(zM t q).1,(zM t q).2.1,(zM t q).2.2.1,(zM t q).2.2.2.1,(zM t q).2.2.2.2.1,0,0,0,(zM t q).1,r),())) fun y=>
   aU y.2.1.2.1 y.2.1.2.2.1=p8M t q/\∀e,p8M t q= .ok e->y=((),(t,e,0,nw,rx,hr,bM t q,(zM t q).1,(zM t q).2.1,(zM t q).2.2.1,(zM t q).2.2.2.1,(zM t q).2.2.2.2.1,mM t q/64,mM t q/8%8,mM t q%8,opM t q,r),()):=by
 have hin:(aU e 0).In t:=by rw[eR,<-hp];exact Ao hq
 have hz:=bh (wo hq)
 have hm:=pc hq
 unfold eX
 dsimp only[p8,p9,d15,d16]
 rw[Bq ⟨hz.2.2.1,hz.2.2.2.1⟩]
 rw[show bm (eqI 0 0)=false from rfl,ap,af,af]
 cases hM:sk (zM t q).2.1 with
 |false=>
  rw[eF,aV]
  have hg:Bp (zM t q)=false:=aP fun g=>by
   have:=(hz.2.2.2.2.2.2.2.2.1 g).1
   rw[hM]at this;cases this
  have e1:mM t q=0:=by unfold mM;rw[hM,iD]
  have e2:opM t q=(zM t q).1:=by unfold opM;rw[hg,iD]
  have e3:p8M t q= .ok e:=by unfold p8M p7M;rw[hM,hg,iD,hp];simp[exb]
  refine Ret.some ⟨?_,fun e' he=>?_⟩
  ·rw[e3];rfl
  ·rw[e3]at he;cases he
   rw[e1,e2]
   rfl
 |true=>
  obtain⟨a1,c1,ee,h1⟩:=mn 1 (nw,rx,hr,bM t q,(zM t q).1,(zM t q).2.1,(zM t q).2.2.1,(zM t q).2.2.2.1,(zM t q).2.2.2.2.1,0,0,0,(zM t q).1,r) (by decide) (by decide) hl hin
  have e1:mM t q=rdU t 1 (aU e 0):=by unfold mM;rw[hM,aa rfl,hp];rfl
  have e7:p7M t q=aU a1 c1:=by unfold p7M;rw[hM,aa rfl,hp,h1];rfl
  rw[eu,ap,ee,<-e1,af]
  dsimp only
  obtain⟨b6,b3,b0,_⟩:=bI hm.1 hm.2
  rw[b6,b3,b0]
  by_cases hg:0<(zM t q).2.2.1
  ·have hgB:Bp (zM t q)=true:=aF hg
   rw[ag (kN hg),af]
   have e8:p8M t q=exb (aU a1 c1) fun a=>if opM t q=0 then .error 11 else .ok a:=by
    unfold p8M;rw[e7,hgB];simp only[true_and]
   by_cases hc:c1=0
   ·subst hc
    have hgo:=DJ (g:=(zM t q).2.2.1.toNat) (d:=(mM t q/8%8).toNat) (by omega) (by omega) (by omega)
    rw[kz (by omega),kz (by omega)]at hgo
    have eo:grp (zM t q).2.2.1.toNat (mM t q/8%8).toNat=opM t q:=by unfold opM;rw[hgB,aa rfl]
    rw[eo]at hgo
    rw[bK rfl,aV,hgo,af]
    dsimp only[gpR]
    rw[jT,af]
    refine Ret.some ?_
    rw[eR]at e8
    unfold exb at e8
    dsimp only at e8|-
    rw[e8]
    by_cases ho:opM t q=0
    ·simp only[aa ho]
     exact⟨rfl,fun e he=>by cases he⟩
    ·simp only[ae ho]
     refine⟨rfl,fun e he=>?_⟩
     cases he
     rfl
   ·rw[aD hc,ap]
    refine Ret.some ?_
    rw[ei hc]at e8
    unfold exb at e8
    dsimp only at e8|-
    rw[e8,ei hc]
    exact⟨rfl,fun e he=>by cases he⟩
  ·have hgB:Bp (zM t q)=false:=aP hg
   have e2:opM t q=(zM t q).1:=by unfold opM;rw[hgB,iD]
   have e8:p8M t q=aU a1 c1:=by
    unfold p8M;rw[e7,hgB]
    cases aU a1 c1<;>simp[exb]
   rw[aq (kJ hg),af,ap]
   refine Ret.some ?_
   dsimp only
   rw[e8]
   refine⟨rfl,fun e he=>?_⟩
   obtain⟨rfl,rfl⟩:=pX he
   rw[e2]
theorem ext3 (x:Int):bm (eqI (lK x 3) 0)=decide (x/8%2=1):=by
 rw[bv,pd,FI,aG]
 unfold lK
 rw[show(2:Int)^3=8 from rfl]
 omega
theorem Ig {x m z1 f g frm op b:Int}{nw by':Bool}{zz rg rm:Int}{e:Int}(r:_)(ho:0<=op/\op<=44)(hsz:zz=szM by' op nw x):
  ∃c',fx ((),(t,e,0,nw,x%16,decide (x≠0),b,z1,f,g,by',frm,m/64,rg,rm,op,0,r),())=
   some ((),(t,e,c',nw,x%16,decide (x≠0),b,z1,f,g,by',frm,m/64,rg,rm,op,zz,r),())/\c'=ur nw by' frm op zz m:=by
 unfold fx
 dsimp only[p15,p10,d17,wM]
 rw[zF ho,af]
 have fin:∀o:Option _,Ret o (fun y=>∃c',y=((),(t,e,c',nw,x%16,decide (x≠0),b,z1,f,g,by',frm,m/64,rg,rm,op,zz,r),())/\c'=ur nw by' frm op zz m)->∃c',o=some ((),(t,e,c',nw,x%16,decide (x≠0),b,z1,f,g,by',frm,m/64,rg,rm,op,zz,r),())/\c'=ur nw by' frm op zz m:=by
  rintro o ⟨y,e,c',rfl,h⟩
  exact⟨c',e,h⟩
 refine fin _ (Ret.bnd (Q:=fun y=>y=Sum.inl ((eh op||gD op,()),(t,e,0,nw,x%16,decide (x≠0),b,z1,f,g,by',frm,m/64,rg,rm,op,zz,r),())) ?_ ?_)
 ·unfold szM at hsz
  cases h8:eh op with
  |true=>
   rw[h8,aa rfl]at hsz
   rw[aa rfl,hsz]
   exact Ret.some rfl
  |false=>
   rw[h8,iD]at hsz
   rw[iD]
   cases h0:gD op with
   |true=>
    rw[h0,aa rfl]at hsz
    rw[aa rfl,hsz]
    exact Ret.some rfl
   |false=>
    rw[h0,iD]at hsz
    rw[iD]
    dsimp only
    rw[ap]
    cases hb:by' with
    |true=>
     rw[hb,aa rfl]at hsz
     rw[aV,af,am,hsz]
     exact Ret.some rfl
    |false=>
     rw[hb,iD]at hsz
     rw[ap,dbit3,af]
     dsimp only
     rw[ext3]
     by_cases h3:x/8%2=1
     ·rw[aa h3]at hsz
      rw[aF h3,aV,af,am,af,am,hsz]
      exact Ret.some rfl
     ·rw[ae h3]at hsz
      rw[aP h3,ap]
      cases hw:nw with
      |true=>
       rw[hw,aa rfl]at hsz
       rw[aV,af,am,af,am,af,am,hsz]
       exact Ret.some rfl
      |false=>
       rw[hw,iD]at hsz
       rw[ap,af,am,af,am,af,am,hsz]
       exact Ret.some rfl
 ·rintro _ rfl
  rw[am]
  dsimp only[p10,p11,p16,p15,p12]
  have h13:(br nw (bnd (br (eh op||gD op) (some true) (some by')) fun x12=>some x12) (some false))=some (nw&&(eh op||gD op||by')):=by
   cases nw<;>cases eh op<;>cases gD op<;>cases by'<;>rfl
  rw[h13,af,jT,af]
  dsimp only
  have h15:(br (eqI frm 4) (some (bm (eqI zz 8))) (some false))=some (eqI frm 4&&bm (eqI zz 8)):=by cases eqI frm 4<;>rfl
  rw[h15,af,jT,af]
  dsimp only
  rw[bB,af]
  dsimp only
  have h19:(br (eqI op 25) (some (eqI (m/64) 3)) (some false))=some (eqI op 25&&eqI (m/64) 3):=by cases eqI op 25<;>rfl
  refine Ret.mono (Q:=fun y=>y=((),(t,e,ur nw by' frm op zz m,nw,x%16,decide (x≠0),b,z1,f,g,by',frm,m/64,rg,rm,op,zz,r),())) ?_ (fun y hy=>⟨_,hy,rfl⟩)
  have step:∀u:Bool,(u=true↔(frm=1\/frm=2)/\zz<=frm)->
    (if(eqI op 25&&eqI (m/64) 3)=true/\(if u=true/\(if(eqI frm 4&&bm (eqI zz 8))=true/\(if(nw&&(eh op||gD op||by'))=true/\(0:Int)=0 then(10:Int)else 0)=0 then(10:Int)else(if(nw&&(eh op||gD op||by'))=true/\(0:Int)=0 then(10:Int)else 0))=0 then(10:Int)else(if(eqI frm 4&&bm (eqI zz 8))=true/\(if(nw&&(eh op||gD op||by'))=true/\(0:Int)=0 then(10:Int)else 0)=0 then(10:Int)else(if(nw&&(eh op||gD op||by'))=true/\(0:Int)=0 then(10:Int)else 0)))=0 then(12:Int)else
     (if u=true/\(if(eqI frm 4&&bm (eqI zz 8))=true/\(if(nw&&(eh op||gD op||by'))=true/\(0:Int)=0 then(10:Int)else 0)=0 then(10:Int)else(if(nw&&(eh op||gD op||by'))=true/\(0:Int)=0 then(10:Int)else 0))=0 then(10:Int)else(if(eqI frm 4&&bm (eqI zz 8))=true/\(if(nw&&(eh op||gD op||by'))=true/\(0:Int)=0 then(10:Int)else 0)=0 then(10:Int)else(if(nw&&(eh op||gD op||by'))=true/\(0:Int)=0 then(10:Int)else 0))))=ur nw by' frm op zz m:=fun u hu=>by
   have e1:(eqI op 25&&eqI (m/64) 3)=true↔op=25/\m/64=3:=by simp[eqI]
   have e2:(eqI frm 4&&bm (eqI zz 8))=true↔frm=4/\zz≠8:=by simp[eqI,bm]
   have e3:(nw&&(eh op||gD op||by'))=true↔(nw=true/\(eh op=true\/gD op=true\/by'=true)):=by simp[or_assoc]
   unfold ur
   simp only[hu,e1,e2,e3,and_true]
   by_cases p:(nw=true/\(eh op=true\/gD op=true\/by'=true))
   ·simp[p]
   ·simp only[p,if_false,and_true,false_or]
    by_cases p2:frm=4/\zz≠8
    ·simp[p2]
    ·simp only[p2,if_false,and_true,false_or]
     by_cases p3:(frm=1\/frm=2)/\zz<=frm
     ·simp[p3]
     ·simp only[p3,if_false,and_true]
  by_cases hfr:frm=1\/frm=2
  ·have hd:decide (1<=frm/\frm<=2)=true:=dT
   rw[hd,aV,jT,af]
   dsimp only
   rw[h19,af,jT,af]
   dsimp only
   have hs:=step (leI zz frm) (by rw[zZ];exact⟨fun h=>⟨hfr,h⟩,fun h=>h.2⟩)
   exact Ret.some (by rw[hs])
  ·have hd:decide (1<=frm/\frm<=2)=false:=dF
   rw[hd,ap,jT,af]
   dsimp only
   rw[h19,af,jT,af]
   dsimp only
   have hs:=step false ⟨fun h=>(by cases h),fun h=>ah h.1 hfr⟩
   exact Ret.some (by rw[hs])
end
set_option maxRecDepth 100000
section
variable {t:List UInt8}
theorem p7M_in {q:Pos}(h:q.In t):(p7M t q).In t:=by unfold p7M;split;exact(Ao h).adv (by decide);exact Ao h
theorem p8M_in {q:Pos}(h:q.In t):(p8M t q).In t:=CP (q:=fun _=>Bp (zM t q)=true/\opM t q=0) (p7M_in h)
theorem xp {q:Pos}(h:q.In t):(p9M t q).In t:=CP (q:=fun _=>ur (wdM t q) (zM t q).2.2.2.1 (zM t q).2.2.2.2.1 (opM t q) (zsM t q) (mM t q)≠0) (p8M_in h)
theorem Hw (by' w:Bool)(op x:Int):(gD op=false->ii (szM by' op w x))/\(gD op=true->szM by' op w x=0):=by
 unfold szM ii
 cases h8:eh op<;>cases h0:gD op<;>cases by'<;>cases w<;>by_cases h3:x/8%2=1<;>simp[h3]
 all_goals
  unfold eh at h8
  unfold gD at h0
  have:=bh h8
  have:=bh h0
  omega
def needF (sec:Bool)(n:Nat):Bool:=decide (((shz sec n).2.1=3\/(shz sec n).2.1=5\/(shz sec n).2.1=6\/(shz sec n).2.1=8)->((shz sec n).2.2.1=0->gD (shz sec n).1=false)/\∀d:Nat,d<8->gD (grp (shz sec n).2.2.1.toNat d)=false)
theorem needF_F:∀n:Nat,n<256->needF false n=true:=by decide +kernel
theorem needF_T:∀n:Nat,n<256->needF true n=true:=by decide +kernel
theorem GF (sec:Bool){n:Nat}(h:n<256):needF sec n=true:=by
 cases sec
 ·exact needF_F n h
 ·exact needF_T n h
theorem rX {q:Pos}(h:q.In t)(hf:(zM t q).2.1=3\/(zM t q).2.1=5\/(zM t q).2.1=6\/(zM t q).2.1=8):ii (zsM t q):=by
 have hb:=ny h
 have hm:=pc h
 have hn:=bh (GF (za t q) (show(bM t q).toNat<256 by omega)) hf
 refine(Hw _ _ _ _).1 ?_
 unfold opM
 cases hg:Bp (zM t q)with
 |true=>rw[aa rfl];exact hn.2 _ (by omega)
 |false=>
  rw[iD]
  have hz:=bh (wo h)
  have:¬0<(zM t q).2.2.1:=of_decide_eq_false hg
  exact hn.1 (show(zM t q).2.2.1=0 by omega)
theorem frm_17 {q:Pos}(h:q.In t):(if(zM t q).2.1=17 then(zM t q).2.2.2.2.1 else 0)=(zM t q).2.2.2.2.1:=by
 have hz:=bh (wo h)
 split
 ·rfl
 ·omega
theorem ky {n c:Int}{p:Pos}(h:p= .error c):adv t n p= .error c:=by rw[h];rfl
theorem exb_err {f:Int->Except Int Int}{c:Int}{p:Pos}(h:p= .error c):exb p f= .error c:=by rw[h];rfl
theorem Ky {q:Pos}{c:Int}(h:p3M t q= .error c):p6M t q= .error c:=by
 unfold p6M p5M
 rw[ky h,ky rfl]
 split<;>rfl
theorem GR {q:Pos}{c:Int}(h:p6M t q= .error c):p8M t q= .error c:=by
 unfold p8M p7M
 rw[h,ky rfl]
 split<;>rfl
theorem Ap {q:Pos}{c:Int}(h:p8M t q= .error c):p9M t q= .error c:=by unfold p9M;exact exb_err h
theorem ya {w c:Int}{p:Pos}(h:p= .error c):FE t w p= .error c:=by
 unfold FE;split
 ·exact h
 ·exact ky h
theorem ne {x m z c:Int}{p:Pos}(h:p= .error c):(plM t x m z p).2= .error c:=by
 unfold plM EQ
 split
 ·exact h
 ·split
  ·exact ya (ky h)
  ·split
   ·exact ya (w:=4) h
   ·exact ya h
theorem Dk {f frm op z x b m c:Int}{p:Pos}(h:p= .error c):(su t f frm op z x b m p).2.2= .error c:=by
 unfold su
 by_cases f1:f=1
 ·rw[aa f1]
  exact ne h
 rw[ae f1]
 by_cases f2:f=2
 ·rw[aa f2]
  exact ne h
 rw[ae f2]
 by_cases f17:f=17
 ·rw[aa f17]
  exact ne h
 rw[ae f17]
 by_cases f3:f=3
 ·rw[aa f3]
  exact ky h
 rw[ae f3]
 by_cases f4:f=4
 ·rw[aa f4]
  exact ky (ne h)
 rw[ae f4]
 by_cases f5:f=5
 ·rw[aa f5]
  exact ky (ne h)
 rw[ae f5]
 by_cases f6:f=6
 ·rw[aa f6]
  unfold ra
  cases EE op
  ·rw[iD]
   by_cases ho:op=10
   ·rw[aa ho]
    exact ky (ne h)
   ·rw[ae ho]
    exact ne h
  ·rw[aa rfl]
   exact ne h
 rw[ae f6]
 by_cases f7:f=7
 ·rw[aa f7]
  by_cases ho:op=29
  ·rw[aa ho]
   exact h
  ·rw[ae ho]
   exact h
 rw[ae f7]
 by_cases f8:f=8
 ·rw[aa f8]
  exact ky h
 rw[ae f8]
 by_cases f9:f=9
 ·rw[aa f9]
  exact ky h
 rw[ae f9]
 by_cases f15:f=15
 ·rw[aa f15]
  exact ky h
 rw[ae f15]
 by_cases f10:f=10\/f=16
 ·rw[aa f10]
  exact ky h
 rw[ae f10]
 by_cases f11:f=11
 ·rw[aa f11]
  exact ky (ne h)
 rw[ae f11]
 by_cases f12:f=12
 ·rw[aa f12]
  exact ne h
 rw[ae f12]
 by_cases f13:f=13
 ·rw[aa f13]
  exact ne h
 rw[ae f13]
 exact h
theorem CI {at0 c:Int}(h:p9M t (.ok at0)= .error c):rG t at0=(xW,c):=by
 have:(oM t (.ok at0)).2.2= .error c:=Dk h
 unfold rG
 rw[this]
theorem Ba {at0 e:Int}(h:(oM t (.ok at0)).2.2= .ok e):rG t at0=(⟨opM t (.ok at0),zsM t (.ok at0),cdM t (.ok at0),(zM t (.ok at0)).2.2.2.2.1,(oM t (.ok at0)).1,(oM t (.ok at0)).2.1,e-at0⟩,0):=by
 unfold rG
 rw[h]
theorem BV {f frm op z x b m:Int}{p:Pos}(h:p.In t)(hz:(f=3\/f=5\/f=6\/f=8)->ii z):(su t f frm op z x b m p).2.2.In t:=by
 unfold su
 by_cases f1:f=1
 ·rw[aa f1]
  exact lO h
 rw[ae f1]
 by_cases f2:f=2
 ·rw[aa f2]
  exact lO h
 rw[ae f2]
 by_cases f17:f=17
 ·rw[aa f17]
  exact lO h
 rw[ae f17]
 by_cases f3:f=3
 ·rw[aa f3]
  exact h.adv (ow (by decide) (rK (hz (.inl f3))).1)
 rw[ae f3]
 by_cases f4:f=4
 ·rw[aa f4]
  exact(lO h).adv (by decide)
 rw[ae f4]
 by_cases f5:f=5
 ·rw[aa f5]
  exact(lO h).adv (ow (by decide) (rK (hz (.inr (.inl f5)))).1)
 rw[ae f5]
 by_cases f6:f=6
 ·rw[aa f6]
  unfold ra
  cases EE op
  ·rw[iD]
   by_cases ho:op=10
   ·rw[aa ho]
    exact(lO h).adv (ow (by decide) (rK (hz (.inr (.inr (.inl f6))))).1)
   ·rw[ae ho]
    exact lO h
  ·rw[aa rfl]
   exact lO h
 rw[ae f6]
 by_cases f7:f=7
 ·rw[aa f7]
  by_cases ho:op=29
  ·rw[aa ho]
   exact h
  ·rw[ae ho]
   exact h
 rw[ae f7]
 by_cases f8:f=8
 ·rw[aa f8]
  exact h.adv (by have:=sz18 (hz (.inr (.inr (.inr f8))));omega)
 rw[ae f8]
 by_cases f9:f=9
 ·rw[aa f9]
  exact h.adv (by decide)
 rw[ae f9]
 by_cases f15:f=15
 ·rw[aa f15]
  exact h.adv (by decide)
 rw[ae f15]
 by_cases f10:f=10\/f=16
 ·rw[aa f10]
  exact h.adv (by decide)
 rw[ae f10]
 by_cases f11:f=11
 ·rw[aa f11]
  exact(lO h).adv (by decide)
 rw[ae f11]
 by_cases f12:f=12
 ·rw[aa f12]
  exact lO h
 rw[ae f12]
 by_cases f13:f=13
 ·rw[aa f13]
  exact lO h
 rw[ae f13]
 exact h
theorem lR {y:Int}(h:y≠0):bm (eqI y 0)=true:=by rw[aD h];rfl
theorem Fy {at0:Int}(hl:(t.length:Int)<=1099511627776)(h0:0<=at0)(h1:at0<=t.length):ki ((t,at0,()),())=some (((rG t at0).1,(rG t at0).2,()),()):=by
 have hq:Pos.In (.ok at0) t:=fun a ha=>by cases ha;exact⟨h0,h1⟩
 have bad:∀ {c},c≠0->p9M t (.ok at0)= .error c->(some (((xW,c,()),()):(Ins×Int×Unit)×Unit))=some (((rG t at0).1,(rG t at0).2,()),()):=fun _ h=>by rw[CI h]
 unfold ki
 dsimp only[p5,d6]
 obtain⟨a1,c1,e1,g1⟩:=zB (t:=t) (a:=at0) (c:=0) (0,0,0,0,false,0,0,0,0,0,0,0,0,0,0,0,0,0,0,0,0,0,0,0,0,0,0,0,()) hl hq
 rw[e1,af]
 dsimp only
 rw[eR]at g1|-
 by_cases n1:c1≠0
 ·rw[lR n1,aV]
  rw[ei n1]at g1
  exact bad n1 (Ap (GR (Ky g1.symm)))
 obtain rfl:c1=0:=Decidable.not_not.1 n1
 rw[show bm (eqI 0 0)=false from rfl,ap]
 obtain⟨y2,e2,g2,k2⟩:=xY (.ok at0) (wdM t (.ok at0)) (xM t (.ok at0)%16) (decide (xM t (.ok at0)≠0)) (0,0,0,0,0,0,0,0,0,0,0,0,0,0,0,0,0,0,()) hl hq g1
 rw[e2,af]
 cases h6:p6M t (.ok at0)with
 |error c=>
  rw[h6]at g2
  obtain⟨rfl,n2⟩:=pW g2
  rw[lR n2,aV]
  exact bad n2 (Ap (GR h6))
 |ok a2=>
 obtain rfl:=k2 a2 h6
 dsimp only
 rw[show bm (eqI 0 0)=false from rfl,ap]
 obtain⟨y3,e3,g3,k3⟩:=FD (.ok at0) a2 (wdM t (.ok at0)) (xM t (.ok at0)%16) (decide (xM t (.ok at0)≠0)) (0,0,0,0,0,0,0,0,0,0,0,0,0,0,0,0,0,0,()) hl hq h6
 refine(Ret.bnd (Q:=fun y=>y=y3) (Ret.of_eq e3 rfl) ?_).eq
 rintro _ rfl
 cases h8:p8M t (.ok at0)with
 |error c=>
  rw[h8]at g3
  obtain⟨rfl,n3⟩:=pW g3
  rw[lR n3,aV]
  exact Ret.of_eq (bad n3 (Ap h8)) rfl
 |ok a3=>
 obtain rfl:=k3 a3 h8
 dsimp only[p12,p13,p14,p15]
 rw[show bm (eqI 0 0)=false from rfl,ap]
 obtain⟨c4,e4,k4⟩:=Ig (t:=t) (x:=xM t (.ok at0)) (m:=mM t (.ok at0)) (z1:=(zM t (.ok at0)).1) (f:=(zM t (.ok at0)).2.1) (g:=(zM t (.ok at0)).2.2.1) (frm:=(zM t (.ok at0)).2.2.2.2.1) (op:=opM t (.ok at0)) (b:=bM t (.ok at0)) (nw:=wdM t (.ok at0)) (by':=(zM t (.ok at0)).2.2.2.1) (zz:=zsM t (.ok at0)) (rg:=mM t (.ok at0)/8%8) (rm:=mM t (.ok at0)%8) (e:=a3) (0,0,0,0,0,0,0,0,0,0,0,0,0,0,0,0,0,()) (Am hq) rfl
 refine Ret.bnd (Q:=fun y=>y=_) (Ret.of_eq e4 rfl) ?_
 rintro _ rfl
 dsimp only[p16]
 have h9:p9M t (.ok at0)=if c4≠0 then .error c4 else .ok a3:=by unfold p9M;rw[h8,k4];rfl
 by_cases n4:c4≠0
 ·rw[lR n4,aV]
  rw[aa n4]at h9
  exact Ret.of_eq (bad n4 h9) rfl
 obtain rfl:c4=0:=Decidable.not_not.1 n4
 rw[ae n4]at h9
 rw[show bm (eqI 0 0)=false from rfl,ap]
 have hm:=pc hq
 have hb:=ny hq
 have hin9:(aU a3 0).In t:=by rw[eR,<-h9];exact xp hq
 obtain⟨a5,c5,e5,g5⟩:=zA (x:=xM t (.ok at0)) (z:=zsM t (.ok at0)) (f:=(zM t (.ok at0)).2.1) (frm:=(zM t (.ok at0)).2.2.2.2.1) (op:=opM t (.ok at0)) hm.1 hm.2 hb.1 hb.2 (wdM t (.ok at0)) (zM t (.ok at0)).1 (zM t (.ok at0)).2.2.1 (zM t (.ok at0)).2.2.2.1 (rX hq) hl hin9
 rw[frm_17 hq,eR,<-h9]at e5
 rw[eR,<-h9]at g5
 refine Ret.bnd (Q:=fun y=>y=_) (Ret.of_eq e5 rfl) ?_
 rintro _ rfl
 change aU a5 c5=(oM t (.ok at0)).2.2 at g5
 dsimp only[p16,p18,d18,p15]
 by_cases n5:c5≠0
 ·rw[lR n5,aV]
  rw[ei n5]at g5
  refine Ret.some ?_
  unfold rG
  rw[<-g5]
  rfl
 obtain rfl:c5=0:=Decidable.not_not.1 n5
 rw[eR]at g5
 rw[show bm (eqI 0 0)=false from rfl,ap,Ba g5.symm]
 have hin5:0<=a5/\a5<=t.length:=(BV (xp hq) (rX hq)) a5 g5.symm
 simp only[sw2,af,am]
 have hb15:=(bI hb.1 hb.2).2.2.2
 unfold cdM
 by_cases ho:opM t (.ok at0)=33\/opM t (.ok at0)=35\/opM t (.ok at0)=36
 ·rw[aa ho,show(eqI (opM t (.ok at0)) 33||(eqI (opM t (.ok at0)) 35||eqI (opM t (.ok at0)) 36))=true by simpa[eqI]using ho,aV,af,am]
  dsimp only
  rw[bN,<-hb15]
  exact Ret.some rfl
 ·rw[ae ho,show(eqI (opM t (.ok at0)) 33||(eqI (opM t (.ok at0)) 35||eqI (opM t (.ok at0)) 36))=false by simpa[eqI]using ho,ap,af,am]
  dsimp only
  rw[bN]
  exact Ret.some rfl
end
section
variable {t:List UInt8}
theorem tZ {b:Int}(h0:0<=b)(h1:b<256):iu ((b,()),())=some (decide (b∈uD/\b≠102),()):=by
 obtain⟨n,rfl⟩:=bU h0
 rw[Ju n (by omega)]
 have:((n:Int)≠102)↔n≠102:=by omega
 simp only[this]
theorem sw {p:Pos}{a:Int}(hp:p.In t)(h:adv t 1 p= .ok a):pkB t p=rdU t 1 p:=by
 cases p with
 |error _=>cases h
 |ok b=>
  unfold adv exb at h
  dsimp only at h
  by_cases hl:b+1<=t.length
  ·exact(Dn hp (by unfold pkB;dsimp only;rw[iP];exact(nz t b).1)).1.symm
  ·rw[ae hl]at h;cases h
theorem Aq {p:Pos}{a c:Int}(hp:p= .ok a)(h:adv t 1 p= .error c):pkB t p= -1/\rdU t 1 p=0:=by
 subst hp
 unfold adv exb at h
 unfold pkB rdU
 dsimp only at h|-
 by_cases hl:a+1<=t.length
 ·rw[aa hl]at h;cases h
 ·rw[iN,ae hl];exact⟨rfl,rfl⟩
def AQ:Shz:=(0,0,0,false,0,())
theorem JJ {at0:Int}(hl:(t.length:Int)<=1099511627776)(h0:0<=at0)(h1:at0<=t.length):
  Ret (gL ((),(t,at0,0,false,0,()),())) fun y=>aU y.2.1.2.1 y.2.1.2.2.2.2.1=p6M t (.ok at0)/\
   ∀e,p6M t (.ok at0)= .ok e->y=((zM t (.ok at0),bM t (.ok at0),()),(t,e,xM t (.ok at0),wdM t (.ok at0),0,()),()):=by
 have hq:Pos.In (.ok at0) t:=fun a ha=>by cases ha;exact⟨h0,h1⟩
 obtain⟨q,hqq⟩:∃q:Pos,q= .ok at0:=⟨_,rfl⟩
 unfold gL
 obtain⟨a1,c1,e1,g1⟩:=nJ (t:=t) (a:=at0) (c:=0) (x:=0) (w:=false) hl hq
 rw[e1,af]
 dsimp only
 rw[eR]at g1|-
 rw[<-hqq]at g1 hq|-
 refine Ret.iter (fun x=>(∃a c,x=((rdU t 1 q,()),(t,a,0,false,c,()),AQ,())/\aU a c=adv t 1 q)\/
   (∃a c,x=((rdU t 1 (p1M t q),()),(t,a,0,true,c,()),AQ,())/\aU a c=adv t 1 (p1M t q)/\wdM t q=true)\/
   (∃a,x=((0,()),(t,a,0,true,10,()),AQ,())/\p2M t q= .error 10))
  (fun x=>(if x.2.1.2.2.2.1=true then 0 else 2)+(if x.2.1.2.2.2.2.1=0 then 1 else 0)) ?_ F _ (.inl ⟨a1,c1,rfl,g1⟩) (by unfold F;dsimp only;split<;>split<;>omega)
 intro x rec hI hrec
 have hcase:(∃a c w,x=((rdU t 1 (p2M t q),()),(t,a,0,w,c,()),AQ,())/\aU a c=adv t 1 (p2M t q)/\(∀e,p2M t q= .ok e->w=wdM t q)/\(c=0->¬rdU t 1 (p2M t q)∈uD))\/
   (∃a w p,x=((rdU t 1 p,()),(t,a,0,w,0,()),AQ,())/\p.In t/\aU a 0=adv t 1 p/\rdU t 1 p∈uD/\(w=false/\p=q\/w=true/\p=p1M t q/\wdM t q=true)):=by
  rcases hI with ⟨a,c,rfl,h⟩|⟨a,c,rfl,h,hw⟩|⟨a,rfl,h⟩
  ·by_cases hs:c=0/\rdU t 1 q∈uD
   ·obtain⟨rfl,hs⟩:=hs
    exact .inr ⟨a,false,q,rfl,hq,h,hs,.inl ⟨rfl,rfl⟩⟩
   ·have hpk:¬pkB t q∈uD:=by
     by_cases hc:c=0
     ·subst hc
      rw[sw hq h.symm];exact fun g=>hs ⟨rfl,g⟩
     ·rw[ei hc]at h
      rw[(Aq hqq h.symm).1];decide
    have hw:wdM t q=false:=aP fun g=>hpk (by rw[g];decide)
    have e1:p1M t q=q:=by unfold p1M;rw[hw,iD]
    have e2:p2M t q=q:=by
     unfold p2M;rw[e1,hqq];unfold exb;dsimp only;rw[ae (by rw[hqq]at hpk;exact hpk)]
    refine .inl ⟨a,c,false,by rw[e2],by rw[e2];exact h,fun _ _=>hw.symm,fun hc=>?_⟩
    rw[e2];exact fun g=>hs ⟨hc,g⟩
  ·by_cases hs:c=0/\rdU t 1 (p1M t q)∈uD
   ·obtain⟨rfl,hs⟩:=hs
    exact .inr ⟨a,true,p1M t q,rfl,Dl hq,h,hs,.inr ⟨rfl,rfl,hw⟩⟩
   ·have hp1:p1M t q=adv t 1 q:=by unfold p1M;rw[hw,aa rfl]
    have hpk:¬pkB t (p1M t q)∈uD:=by
     by_cases hc:c=0
     ·subst hc
      rw[sw (Dl hq) h.symm];exact fun g=>hs ⟨rfl,g⟩
     ·rw[ei hc]at h
      cases hp:p1M t q with
      |error _=>unfold pkB;dsimp only;decide
      |ok a'=>rw[(Aq rfl (hp▸h.symm)).1];decide
    have e2:p2M t q=p1M t q:=by
     unfold p2M
     cases hp:p1M t q with
     |error _=>rfl
     |ok a'=>rw[hp]at hpk;unfold exb;dsimp only;rw[ae hpk]
    refine .inl ⟨a,c,true,by rw[e2],by rw[e2];exact h,fun _ _=>hw.symm,fun hc=>?_⟩
    rw[e2];exact fun g=>hs ⟨hc,g⟩
  ·refine .inl ⟨a,10,true,by rw[h];rfl,by rw[h];rfl,fun e he=>?_,fun hc=>?_⟩
   ·rw[h]at he;cases he
   ·cases hc
 rcases hcase with ⟨a,c,w,rfl,hpos,hw,hend⟩|⟨a,w,p,rfl,hpin,hpos,hpf,hS⟩
 ·have hb2:=fv t (p2M t q) (t6 hq)
  have hb3:=fv t (p3M t q) (Dm hq)
  dsimp only
  refine Ret.bnd (Q:=fun y=>y=false) ?_ ?_
  ·by_cases hc:c=0
   ·have hn:=hend hc
    rw[bK hc,aV,aD (fun g=>hn (by rw[g];decide)),ap,tZ hb2.1 hb2.2,af,af,aP (fun g=>hn g.1)]
    exact Ret.some rfl
   ·rw[aD hc,ap];exact Ret.some rfl
  rintro _ rfl
  rw[ap]
  refine Ret.bnd (Q:=fun y=>y=hxM t q) ?_ ?_
  ·by_cases hc:c=0
   ·subst hc
    rw[bK rfl,aV,ig hb2.1 (by decide) (by omega)]
    refine Ret.some ?_
    unfold hxM
    rw[sw (t6 hq) hpos.symm,bv,lJ,aG]
    omega
   ·rw[aD hc,ap]
    refine Ret.some ?_
    symm
    refine aP fun g=>?_
    obtain⟨_,_,_,_,hk⟩:=Dn (t6 hq) (show 0<=pkB t (p2M t q)by omega)
    rw[hk,ei hc]at hpos
    cases hpos
  rintro _ rfl
  refine Ret.bnd (Q:=fun y=>∃a c,y=Sum.inl ((rdU t 1 (p3M t q),()),(t,a,xM t q,w,c,()),AQ,())/\aU a c=adv t 1 (p3M t q)) ?_ ?_
  ·cases hh:hxM t q with
   |true=>
    have hg:64<=pkB t (p2M t q)/\pkB t (p2M t q)<=79:=bh hh
    obtain⟨hk,_⟩:=Dn (t6 hq) (show 0<=pkB t (p2M t q)by omega)
    have hin:(aU a c).In t:=by rw[hpos];exact(t6 hq).adv (by decide)
    obtain⟨a3,c3,e3,g3⟩:=nJ (x:=rdU t 1 (p2M t q)) (w:=w) hl hin
    have e4:p3M t q=adv t 1 (p2M t q):=by unfold p3M;rw[hh,aa rfl]
    have e5:xM t q=rdU t 1 (p2M t q):=by unfold xM;rw[hh,aa rfl,hk]
    rw[aV,e3,af]
    exact Ret.some ⟨a3,c3,by rw[e4,e5,hpos],by rw[e4,g3,hpos]⟩
   |false=>
    have e4:p3M t q=p2M t q:=by unfold p3M;rw[hh,iD]
    have e5:xM t q=0:=by unfold xM;rw[hh,iD]
    rw[ap]
    exact Ret.some ⟨a,c,by rw[e4,e5],by rw[e4,hpos]⟩
  rintro _ ⟨a3,c3,rfl,h3⟩
  rw[am]
  dsimp only
  have hin3:(aU a3 c3).In t:=by rw[h3];exact An hq
  refine Ret.bnd (Q:=fun y=>y=za t q) ?_ ?_
  ·by_cases hc:c3=0
   ·rw[bK hc,aV];exact Ret.some rfl
   ·rw[aD hc,ap]
    refine Ret.some ?_
    symm
    refine aP fun g=>?_
    obtain⟨b,hb⟩:=rd_ok (t:=t) (p:=p3M t q) (n:=1) (by omega)
    exact hc (pX (h3.trans hb)).2
  rintro _ rfl
  refine Ret.bnd (Q:=fun y=>∃a c,y=Sum.inl ((bM t q,za t q,()),(t,a,xM t q,w,c,()),AQ,())/\aU a c=p5M t q) ?_ ?_
  ·unfold bM p5M
   cases hs:za t q with
   |true=>
    obtain⟨a4,c4,e4,g4⟩:=nJ (x:=xM t q) (w:=w) hl hin3
    rw[aV,e4,af,aa rfl,aa rfl]
    exact Ret.some ⟨a4,c4,by rw[h3],by rw[g4,h3]⟩
   |false=>
    rw[ap,iD,iD]
    exact Ret.some ⟨a3,c3,rfl,h3⟩
  rintro _ ⟨a5,c5,rfl,h5⟩
  rw[am]
  dsimp only
  have hbr:=ny hq
  have hS:=BA (za t q) (show(bM t q).toNat<256 by omega)
  rw[kz hbr.1]at hS
  rw[hS,af]
  dsimp only
  have h6:aU a5 (if(zM t q).2.1=0 then(if c5=0 then 11 else c5)else c5)=p6M t q:=by
   unfold p6M
   rw[<-h5]
   by_cases hc:c5=0
   ·subst hc
    by_cases hz:(zM t q).2.1=0
    ·rw[aa hz,aa rfl,eR];unfold exb;dsimp only;rw[aa hz];rfl
    ·rw[ae hz,eR];unfold exb;dsimp only;rw[ae hz]
   ·rw[ae hc,ei hc]
    split<;>exact ei hc
  refine Ret.bnd (Q:=fun y=>y=Sum.inl ((bM t q,()),(t,a5,xM t q,w,(if(zM t q).2.1=0 then(if c5=0 then 11 else c5)else c5),()),AQ,zM t q,())) ?_ ?_
  ·by_cases hz:(zM t q).2.1=0
   ·have hz':(shz (za t q) (bM t q).toNat).2.1=0:=hz
    rw[bK hz',aV,uH,af,aa hz]
    exact Ret.some rfl
   ·have hz':¬(shz (za t q) (bM t q).toNat).2.1=0:=hz
    rw[aD hz',ap,ae hz]
    exact Ret.some rfl
  rintro _ rfl
  rw[am]
  refine Ret.some ⟨h6,fun e he=>?_⟩
  rw[he]at h6
  obtain⟨ha,hc⟩:=pX h6
  have hwe:w=wdM t q:=by
   cases hp:p2M t q with
   |ok e'=>exact hw e' hp
   |error k=>
    exfalso
    have:p3M t q= .error k:=by unfold p3M hxM;rw[hp];rw[show pkB t (.error k)= -1 from rfl,iD]
    rw[Ky this]at he
    cases he
  dsimp only
  rw[hc,ha,hwe]
 ·have hb:=fv t p hpin
  dsimp only at hrec|-
  refine Ret.bnd (Q:=fun y=>y=true) ?_ ?_
  ·rw[bK rfl,aV]
   by_cases h102:rdU t 1 p=102
   ·rw[bK h102,aV,af];exact Ret.some rfl
   ·rw[aD h102,ap,tZ hb.1 hb.2,af,af,aF ⟨hpf,h102⟩];exact Ret.some rfl
  rintro _ rfl
  rw[aV]
  have hpk:pkB t p=rdU t 1 p:=sw hpin hpos.symm
  by_cases hgo:rdU t 1 p=102/\w=false
  ·
   obtain⟨h102,rfl⟩:=hgo
   obtain rfl:p=q:=by
    rcases hS with ⟨_,g⟩|⟨g,_⟩
    ·exact g
    ·cases g
   have hwd:wdM t p=true:=aF (by rw[hpk];exact h102)
   have e1:p1M t p=adv t 1 p:=by unfold p1M;rw[hwd,aa rfl]
   have hin:(aU a 0).In t:=by rw[hpos];exact hpin.adv (by decide)
   obtain⟨a3,c3,e3,g3⟩:=nJ (x:=0) (w:=true) hl hin
   rw[bK h102,eu,ap,af,ap,af,am]
   dsimp only
   rw[e3,af]
   refine hrec _ (.inr (.inl ⟨a3,c3,by rw[e1,hpos],by rw[g3,hpos,e1],hwd⟩)) ?_
   dsimp only
   rw[aa rfl,ae (show ¬false=true by decide),aa rfl]
   split<;>omega
  ·refine Ret.bnd (Q:=fun y=>y=true) ?_ ?_
   ·by_cases h102:rdU t 1 p=102
    ·have hw:w=true:=by
      cases w with
      |true=>rfl
      |false=>exact ah ⟨h102,rfl⟩ hgo
     rw[bK h102,eu,ap]
     exact Ret.some hw
    ·rw[aD h102,eF,aV];exact Ret.some rfl
   rintro _ rfl
   rw[aV,uH,af,af,am,aa rfl]
   dsimp only
   have h2:p2M t q= .error 10:=by
    rcases hS with ⟨rfl,rfl⟩|⟨rfl,rfl,hwd⟩
    ·have hwd:wdM t p=false:=aP fun g=>hgo ⟨by rw[<-hpk];exact g,rfl⟩
     have e1:p1M t p=p:=by unfold p1M;rw[hwd,iD]
     unfold p2M
     rw[e1,hpk,hqq]
     rw[hqq]at hpf
     unfold exb
     dsimp only
     rw[aa hpf]
    ·unfold p2M
     rw[hpk]
     cases hp:p1M t q with
     |error k=>rw[hp]at hpos;cases hpos
     |ok e=>rw[hp]at hpf;unfold exb;dsimp only;rw[aa hpf]
   obtain⟨a3,c3,e3,g3⟩:=nJ (t:=t) (a:=a) (c:=10) (x:=0) (w:=true) hl (fun e he=>by cases he)
   rw[e3,af]
   have hc3:c3=10:=(pW (g3.trans (show adv t 1 (aU a 10)= .error 10 from rfl))).1
   subst hc3
   refine hrec _ (.inr (.inr ⟨a3,rfl,h2⟩)) ?_
   dsimp only
   rw[aa rfl,ae (show ¬(10:Int)=0 by decide),aa rfl]
   split<;>omega
end
section
variable {t:List UInt8}{a c x:Int}{w:Bool}
theorem rp {f:Int}(h:0<=f/\f<18):eQ ((f,()),())=some (sk f,()):=by
 obtain⟨n,rfl⟩:=bU h.1
 exact F2 n (by omega)
theorem sw4 {α β γ:Type}{a b:Bool}{r:α}{y:γ}:br a (some (Sum.inl ((y,a,()),r):Sum ((γ×Bool×Unit)×α) β)) (some (Sum.inl ((y,b,()),r)))=some (Sum.inl ((y,a||b,()),r)):=by cases a<;>rfl
theorem Kj (op:Int):(eqI op 29||(eqI op 30||(eqI op 31||eqI op 32)))=eh op:=by rw[bv];simp[eh,eqI]
theorem Ki (op:Int):(eqI op 33||(eqI op 34||(eqI op 37||(eqI op 38||(eqI op 43||eqI op 44)))))=gD op:=by rw[bv];simp[gD,eqI]
theorem bit3 {x:Int}(hx:rS x):bg ((x,3,()),())=some (x/8%2,()):=by
 rw[pL _ _ (by decide) (by decide)]
 have h1:x%2^64=x:=jb (by unfold rS at hx;omega) (by unfold rS at hx;omega)
 rw[h1];rfl
theorem JN (z:Shz)(op:Int)(hx:rS x):gM ((z,op,()),(t,a,x,w,c,()),())=some (szM z.2.2.2.1 op w x,(t,a,x,w,c,()),()):=by
 unfold gM
 dsimp only
 simp only[sw4,af,am,Kj]
 unfold szM
 cases h8:eh op with
 |true=>rw[aV,aa rfl]
 |false=>
  rw[ap,iD]
  simp only[sw1,af,am,Ki]
  cases h0:gD op with
  |true=>rw[aV,af,rC,aa rfl]
  |false=>
   rw[ap,af,am,iD]
   dsimp only
   cases hb:z.2.2.2.1 with
   |true=>rw[aV,aa rfl]
   |false=>
    rw[ap,iD,bit3 hx,af]
    by_cases h3:x/8%2=1
    ·rw[aa h3,bK h3,aV]
    ·rw[ae h3,aD h3,ap]
     cases w<;>rfl
theorem JR (z:Shz)(op:Int):jG ((z,op,()),())=some (!(eh op||gD op||z.2.2.2.1),()):=by
 unfold jG
 dsimp only
 simp only[sw1,af,am]
 have e:(eqI op 29||(eqI op 30||(eqI op 31||(eqI op 32||(eqI op 33||(eqI op 34||(eqI op 37||(eqI op 38||(eqI op 43||eqI op 44)))))))))=(eh op||gD op):=by
  rw[<-Kj,<-Ki];simp only[Bool.or_assoc]
 rw[e]
 cases h:(eh op||gD op)with
 |true=>rw[aV,af,rC];rfl
 |false=>rw[ap,af,am];rfl
theorem Hk (y:Ins)(z:Shz)(hf:z.2.2.2.2.1=0\/z.2.2.2.2.1=1\/z.2.2.2.2.1=2\/z.2.2.2.2.1=4)(m:Int):
  iX ((y,z,w,()),())=some (decide (ur w z.2.2.2.1 z.2.2.2.2.1 y.op y.size m≠10),()):=by
 unfold iX
 dsimp only
 refine(Ret.bnd (Q:=fun u=>u=(w&&(eh y.op||gD y.op||z.2.2.2.1))) ?_ ?_).eq
 ·cases w with
  |true=>rw[aV,JR,af];exact Ret.some (by rw[mr];simp)
  |false=>rw[ap];exact Ret.some rfl
 rintro _ rfl
 unfold ur
 have e3:(w&&(eh y.op||gD y.op||z.2.2.2.1))=true↔(w=true/\(eh y.op=true\/gD y.op=true\/z.2.2.2.1=true)):=by simp[or_assoc]
 by_cases p:(w&&(eh y.op||gD y.op||z.2.2.2.1))=true
 ·rw[p,aV,aa (.inl (e3.1 p))]
  exact Ret.some rfl
 ·rw[my]at p
  rw[p,ap]
  have p':¬(w=true/\(eh y.op=true\/gD y.op=true\/z.2.2.2.1=true)):=fun g=>by rw[e3.2 g]at p;cases p
  by_cases h4:z.2.2.2.2.1=4
  ·rw[ag (bK h4)]
   refine Ret.some ?_
   congr 1
   by_cases h8:y.size=8
   ·rw[ae (fun g=>g.elim p' (by omega)),bK h8]
    split<;>rfl
   ·rw[aa (.inr (.inl ⟨h4,h8⟩)),aD h8];rfl
  ·rw[aq (aD h4)]
   by_cases h0:z.2.2.2.2.1=0
   ·rw[ag (bK h0),af,ae (fun g=>g.elim p' (by omega))]
    refine Ret.some ?_
    congr 1
    split<;>rfl
   ·rw[aq (aD h0),af]
    refine Ret.some ?_
    congr 1
    by_cases hs:y.size<=z.2.2.2.2.1
    ·rw[aa (.inr (.inr ⟨by omega,hs⟩)),kJ];rfl
    ·rw[ae (fun g=>g.elim p' (by omega)),kN]
     split<;>rfl
theorem H6 {w by':Bool}{frm op z m:Int}(h:ur w by' frm op z m≠10):ur w by' frm op z m=if op=25/\m/64=3 then 12 else 0:=by
 unfold ur at h|-
 split
 ·rename_i g;rw[aa g]at h;exact ah rfl h
 ·rfl
end
section
variable {t:List UInt8}
theorem zW {at0:Int}(hl:(t.length:Int)<=1099511627776)(h0:0<=at0)(h1:at0<=t.length):ir ((t,at0,()),())=some (((rG t at0).1,(rG t at0).2,()),()):=by
 have hq:Pos.In (.ok at0) t:=fun a ha=>by cases ha;exact⟨h0,h1⟩
 have bad:∀ {c},p9M t (.ok at0)= .error c->(some (((xW,c,()),()):(Ins×Int×Unit)×Unit))=some (((rG t at0).1,(rG t at0).2,()),()):=fun h=>by rw[CI h]
 have hz:=bh (wo hq)
 have hm:=pc hq
 have hb:=ny hq
 have hx:=JB t (.ok at0)
 unfold ir
 dsimp only
 obtain⟨y2,e2,g2,k2⟩:=JJ hl h0 h1
 refine(Ret.bnd (Q:=fun y=>y=y2) (Ret.of_eq e2 rfl) ?_).eq
 rintro _ rfl
 cases h6:p6M t (.ok at0)with
 |error c=>
  rw[h6]at g2
  obtain⟨rfl,n2⟩:=pW g2
  rw[lR n2,aV]
  exact Ret.of_eq (bad (Ap (GR h6))) rfl
 |ok a2=>
 obtain rfl:=k2 a2 h6
 have hin6:(aU a2 0).In t:=by rw[eR,<-h6];exact Ao hq
 dsimp only
 rw[show bm (eqI 0 0)=false from rfl,ap,rp ⟨hz.2.2.1,hz.2.2.2.1⟩,af]
 dsimp only
 refine Ret.bnd (Q:=fun y=>∃a c o,y=Sum.inl ((at0,bM t (.ok at0),mM t (.ok at0),()),(0,0,0,0,0,0,0,0,0,0,0,0,0,0,0,0,0,0,0,()),(t,a,xM t (.ok at0),wdM t (.ok at0),c,()),zM t (.ok at0),(o,0,0,(zM t (.ok at0)).2.2.2.2.1,0,0,0,0,0,0,0,0,0,0,0,0,0,0,0,()),())/\aU a c=p8M t (.ok at0)/\(c=0->o=opM t (.ok at0))) ?_ ?_
 ·cases hM:sk (zM t (.ok at0)).2.1 with
  |false=>
   have hg:Bp (zM t (.ok at0))=false:=aP fun g=>by
    have:=(hz.2.2.2.2.2.2.2.2.1 g).1
    rw[hM]at this;cases this
   have e1:mM t (.ok at0)=0:=by unfold mM;rw[hM,iD]
   have e2:opM t (.ok at0)=(zM t (.ok at0)).1:=by unfold opM;rw[hg,iD]
   have e3:p8M t (.ok at0)= .ok a2:=by unfold p8M p7M;rw[hM,hg,iD,h6];simp[exb]
   rw[ap]
   exact Ret.some ⟨a2,0,opM t (.ok at0),by rw[e1,e2],by rw[e3];rfl,fun _=>rfl⟩
  |true=>
   obtain⟨a4,c4,e4,g4⟩:=nJ (x:=xM t (.ok at0)) (w:=wdM t (.ok at0)) hl hin6
   have e1:mM t (.ok at0)=rdU t 1 (aU a2 0):=by unfold mM;rw[hM,aa rfl,h6];rfl
   have e7:p7M t (.ok at0)=aU a4 c4:=by unfold p7M;rw[hM,aa rfl,h6,g4];rfl
   rw[aV,e4,<-e1,af]
   dsimp only
   rw[ig hm.1 (by decide) (by omega),cS]
   by_cases hg:0<(zM t (.ok at0)).2.2.1
   ·have hgB:Bp (zM t (.ok at0))=true:=aF hg
    have e8:p8M t (.ok at0)=exb (aU a4 c4) fun a=>if opM t (.ok at0)=0 then .error 11 else .ok a:=by
     unfold p8M;rw[e7,hgB];simp only[true_and]
    have eo:grp (zM t (.ok at0)).2.2.1.toNat (mM t (.ok at0)/8%8).toNat=opM t (.ok at0):=by unfold opM;rw[hgB,aa rfl]
    by_cases hc:c4=0
    ·subst hc
     have hgo:=Bz (zM t (.ok at0)).2.2.1.toNat (by omega) (by omega) (mM t (.ok at0)/8%8).toNat (by omega)
     rw[kz (by omega),kz (by omega),eo]at hgo
     rw[bK rfl,aV,af,kN hg,aV,hgo,af]
     dsimp only
     rw[eR]at e8
     unfold exb at e8
     dsimp only at e8
     by_cases ho:opM t (.ok at0)=0
     ·rw[aa ho]at e8
      rw[bK ho,aV,uH,af,af,am,aa rfl]
      exact Ret.some ⟨a4,11,opM t (.ok at0),rfl,by rw[e8];rfl,fun _=>rfl⟩
     ·rw[ae ho]at e8
      rw[aD ho,ap,af,am]
      exact Ret.some ⟨a4,0,opM t (.ok at0),rfl,by rw[e8];rfl,fun _=>rfl⟩
    ·rw[ei hc]at e8
     unfold exb at e8
     dsimp only at e8
     rw[aD hc,ap,af,ap,af,am]
     exact Ret.some ⟨a4,c4,(zM t (.ok at0)).1,rfl,by rw[e8,ei hc],fun g=>ah g hc⟩
   ·have hgB:Bp (zM t (.ok at0))=false:=aP hg
    have e2:opM t (.ok at0)=(zM t (.ok at0)).1:=by unfold opM;rw[hgB,iD]
    have e8:p8M t (.ok at0)=aU a4 c4:=by
     unfold p8M;rw[e7,hgB]
     cases aU a4 c4<;>simp[exb]
    refine Ret.bnd (Q:=fun y=>y=false) ?_ ?_
    ·rw[kJ hg]
     cases eqI c4 0
     ·rw[ap];exact Ret.some rfl
     ·rw[aV];exact Ret.some rfl
    rintro _ rfl
    rw[ap,af,am]
    exact Ret.some ⟨a4,c4,opM t (.ok at0),by rw[e2],by rw[e8],fun _=>rfl⟩
 rintro _ ⟨a8,c8,o8,rfl,g8,k8⟩
 rw[am]
 dsimp only
 cases h8:p8M t (.ok at0)with
 |error c=>
  rw[h8]at g8
  obtain⟨rfl,n3⟩:=pW g8
  rw[lR n3,aV]
  exact Ret.of_eq (bad (Ap h8)) rfl
 |ok a3=>
 rw[h8]at g8
 obtain⟨rfl,rfl⟩:=pX g8
 obtain rfl:=k8 rfl
 rw[show bm (eqI 0 0)=false from rfl,ap,JN _ _ hx,af]
 dsimp only
 rw[Hk _ _ (by omega) (mM t (.ok at0)),af]
 have h9:p9M t (.ok at0)=if ur (wdM t (.ok at0)) (zM t (.ok at0)).2.2.2.1 (zM t (.ok at0)).2.2.2.2.1 (opM t (.ok at0)) (zsM t (.ok at0)) (mM t (.ok at0))≠0 then .error (ur (wdM t (.ok at0)) (zM t (.ok at0)).2.2.2.1 (zM t (.ok at0)).2.2.2.2.1 (opM t (.ok at0)) (zsM t (.ok at0)) (mM t (.ok at0)))else .ok a8:=by unfold p9M;rw[h8];rfl
 have hsz:szM (zM t (.ok at0)).2.2.2.1 (opM t (.ok at0)) (wdM t (.ok at0)) (xM t (.ok at0))=zsM t (.ok at0):=rfl
 rw[hsz]
 dsimp only
 by_cases hb10:ur (wdM t (.ok at0)) (zM t (.ok at0)).2.2.2.1 (zM t (.ok at0)).2.2.2.2.1 (opM t (.ok at0)) (zsM t (.ok at0)) (mM t (.ok at0))=10
 ·rw[hb10,aa (by decide)]at h9
  rw[aP (fun g=>g hb10),eF,aV]
  exact Ret.of_eq (bad h9) rfl
 rw[H6 hb10]at h9
 rw[aF hb10,eu,ap,ig hm.1 (by decide) (by omega)]
 refine Ret.bnd (Q:=fun y=>y=decide (opM t (.ok at0)=25/\mM t (.ok at0)/64=3)) ?_ ?_
 ·by_cases ho:opM t (.ok at0)=25
  ·rw[bK ho,aV];exact Ret.some (by simp[eqI,ho])
  ·rw[aD ho,ap];exact Ret.some (by simp[ho])
 rintro _ rfl
 by_cases hlea:opM t (.ok at0)=25/\mM t (.ok at0)/64=3
 ·rw[aa hlea,aa (by decide)]at h9
  rw[aF hlea,aV]
  exact Ret.of_eq (bad h9) rfl
 rw[ae hlea,iD]at h9
 rw[aP hlea,ap]
 have hin9:(aU a8 0).In t:=by rw[eR,<-h9];exact xp hq
 simp only[ue,af]
 refine Ret.bnd (Q:=fun y=>y=Sum.inl ((at0,bM t (.ok at0),mM t (.ok at0),()),(0,0,0,0,0,0,0,0,0,0,0,0,0,0,0,0,0,0,0,()),(t,a8,xM t (.ok at0),wdM t (.ok at0),0,()),zM t (.ok at0),(opM t (.ok at0),zsM t (.ok at0),cdM t (.ok at0),(zM t (.ok at0)).2.2.2.2.1,0,0,0,0,0,0,0,0,0,0,0,0,0,0,0,()),())) ?_ ?_
 ·unfold cdM
  by_cases ho:opM t (.ok at0)=33\/opM t (.ok at0)=35\/opM t (.ok at0)=36
  ·rw[aa ho,show(eqI (opM t (.ok at0)) 33||eqI (opM t (.ok at0)) 35||eqI (opM t (.ok at0)) 36)=true by simp[eqI];omega,aV,cS hb.1]
   exact Ret.some rfl
  ·rw[ae ho,show(eqI (opM t (.ok at0)) 33||eqI (opM t (.ok at0)) 35||eqI (opM t (.ok at0)) 36)=false by simp[eqI];omega,ap]
   exact Ret.some rfl
 rintro _ rfl
 rw[am]
 dsimp only
 rw[rp ⟨hz.2.2.1,hz.2.2.2.1⟩,af]
 dsimp only
 refine Ret.bnd (Q:=fun y=>∃a c,y=Sum.inl ((at0,()),(0,0,0,0,0,0,0,0,0,0,0,0,0,0,0,0,0,0,0,()),(t,a,xM t (.ok at0),wdM t (.ok at0),c,()),ew ⟨opM t (.ok at0),zsM t (.ok at0),cdM t (.ok at0),(zM t (.ok at0)).2.2.2.2.1,(oM t (.ok at0)).1,(oM t (.ok at0)).2.1,0⟩ (),())/\aU a c=(oM t (.ok at0)).2.2) ?_ ?_
 ·unfold oM
  have e9:p9M t (.ok at0)=aU a8 0:=h9
  rw[e9]
  cases hM:sk (zM t (.ok at0)).2.1 with
  |true=>
   obtain⟨a5,c5,e5,g5⟩:=Hg (w:=wdM t (.ok at0)) (z:=zsM t (.ok at0)) (f:=(zM t (.ok at0)).2.1) (frm:=(zM t (.ok at0)).2.2.2.2.1) (op:=opM t (.ok at0)) (cd:=cdM t (.ok at0)) hx hm.1 hm.2 (bM t (.ok at0)) (zM t (.ok at0)).1 (zM t (.ok at0)).2.2.1 (zM t (.ok at0)).2.2.2.1 hM (fun h=>rX hq (by omega)) hl hin9
   rw[aV]
   refine Ret.bnd (Q:=fun y=>y=_) (Ret.of_eq e5 rfl) ?_
   rintro _ rfl
   exact Ret.some ⟨a5,c5,rfl,g5⟩
  |false=>
   obtain⟨a5,c5,e5,g5⟩:=Hh (w:=wdM t (.ok at0)) (m:=mM t (.ok at0)) (z:=zsM t (.ok at0)) (f:=(zM t (.ok at0)).2.1) (frm:=(zM t (.ok at0)).2.2.2.2.1) (op:=opM t (.ok at0)) (cd:=cdM t (.ok at0)) hx hb.1 (zM t (.ok at0)).1 (zM t (.ok at0)).2.2.1 (zM t (.ok at0)).2.2.2.1 hM (fun h=>rX hq (by omega)) hl hin9
   rw[ap]
   refine Ret.bnd (Q:=fun y=>y=_) (Ret.of_eq e5 rfl) ?_
   rintro _ rfl
   exact Ret.some ⟨a5,c5,rfl,g5⟩
 rintro _ ⟨a5,c5,rfl,g5⟩
 rw[am]
 dsimp only
 by_cases n5:c5≠0
 ·rw[lR n5,aV]
  rw[ei n5]at g5
  refine Ret.some ?_
  unfold rG
  rw[<-g5]
  rfl
 obtain rfl:c5=0:=Decidable.not_not.1 n5
 rw[eR]at g5
 have hin5:0<=a5/\a5<=t.length:=(BV (xp hq) (rX hq)) a5 g5.symm
 rw[show bm (eqI 0 0)=false from rfl,ap,Ba g5.symm,bN]
 exact Ret.some rfl
end
def Pos.Bd (p:Pos)(lo hi:Int):Prop:=∀a,p= .ok a->lo<=a/\a<=hi
section
variable {t:List UInt8}{lo hi:Int}
theorem Pos.Bd.adv {p:Pos}(h:p.Bd lo hi)(n:Int):Pos.Bd (Go.Den.G.adv t n p) (lo+n) (hi+n):=by
 intro a ha
 cases p with
 |error _=>cases ha
 |ok b=>
  obtain⟨h1,h2⟩:=h b rfl
  unfold Go.Den.G.adv exb at ha
  dsimp only at ha
  split at ha
  ·cases ha;omega
  ·cases ha
theorem Pos.Bd.mono {p:Pos}(h:p.Bd lo hi){lo' hi':Int}(h1:lo'<=lo)(h2:hi<=hi'):p.Bd lo' hi':=fun a ha=>by
 have:=h a ha;omega
theorem CO {p:Pos}{q:Int->Prop}[DecidablePred q]{k:Int}(h:p.Bd lo hi):Pos.Bd (exb p fun a=>if q a then .error k else .ok a) lo hi:=by
 intro a ha
 cases p with
 |error c=>cases ha
 |ok b=>
  unfold exb at ha
  dsimp only at ha
  split at ha
  ·cases ha
  ·exact h a (by cases ha;rfl)
theorem p1M_bd {q:Pos}(h:q.Bd lo hi):(p1M t q).Bd lo (hi+1):=by
 unfold p1M;split
 ·exact(h.adv 1).mono (by omega) (by omega)
 ·exact h.mono (by omega) (by omega)
theorem p3M_bd {q:Pos}(h:q.Bd lo hi):(p3M t q).Bd lo (hi+2):=by
 have h2:(p2M t q).Bd lo (hi+1):=CO (q:=fun _=>pkB t (p1M t q)∈uD) (p1M_bd h)
 unfold p3M;split
 ·exact(h2.adv 1).mono (by omega) (by omega)
 ·exact h2.mono (by omega) (by omega)
theorem p6M_bd {q:Pos}(h:q.Bd lo hi):(p6M t q).Bd (lo+1) (hi+4):=by
 refine CO (q:=fun _=>(zM t q).2.1=0) ?_
 have h3:=p3M_bd (t:=t) h
 unfold p5M;split
 ·exact((h3.adv 1).adv 1).mono (by omega) (by omega)
 ·exact(h3.adv 1).mono (by omega) (by omega)
theorem p9M_bd {q:Pos}(h:q.Bd lo hi):(p9M t q).Bd (lo+1) (hi+5):=by
 refine CO (q:=fun _=>ur (wdM t q) (zM t q).2.2.2.1 (zM t q).2.2.2.2.1 (opM t q) (zsM t q) (mM t q)≠0) (CO (q:=fun _=>Bp (zM t q)=true/\opM t q=0) ?_)
 have h6:=p6M_bd (t:=t) h
 unfold p7M;split
 ·exact(h6.adv 1).mono (by omega) (by omega)
 ·exact h6.mono (by omega) (by omega)
theorem FG (mod rm b:Int):0<=nR mod rm b/\nR mod rm b<=4:=by unfold nR;(repeat' split)<;>decide
theorem Bg {w:Int}{p:Pos}(h:p.Bd lo hi)(hw:0<=w/\w<=4):(FE t w p).Bd lo (hi+4):=by
 unfold FE;split
 ·exact h.mono (by omega) (by omega)
 ·exact(h.adv w).mono (by omega) (by omega)
theorem pS {x m z:Int}{p:Pos}(h:p.Bd lo hi):(plM t x m z p).2.Bd lo (hi+5):=by
 unfold plM EQ
 split
 ·exact h.mono (by omega) (by omega)
 ·split
  ·exact(Bg (h.adv 1) (FG ..)).mono (by omega) (by omega)
  ·split
   ·exact(Bg (w:=4) h (by decide)).mono (by omega) (by omega)
   ·exact(Bg h (FG ..)).mono (by omega) (by omega)
theorem Br {z:Int}(h:ii z):1<=jp 4 z/\jp 4 z<=4:=by
 unfold ii at h
 rcases h with rfl|rfl|rfl|rfl<;>decide
theorem opsM_bd {f frm op z x b m:Int}{p:Pos}(h:p.Bd lo hi)(hz:(f=3\/f=5\/f=6\/f=8)->ii z):(su t f frm op z x b m p).2.2.Bd lo (hi+9):=by
 unfold su
 by_cases f1:f=1
 ·rw[aa f1]
  exact(pS h).mono (by omega) (by omega)
 rw[ae f1]
 by_cases f2:f=2
 ·rw[aa f2]
  exact(pS h).mono (by omega) (by omega)
 rw[ae f2]
 by_cases f17:f=17
 ·rw[aa f17]
  exact(pS h).mono (by omega) (by omega)
 rw[ae f17]
 by_cases f3:f=3
 ·rw[aa f3]
  have:=Br (hz (.inl f3))
  exact(h.adv (jp 4 z)).mono (by omega) (by omega)
 rw[ae f3]
 by_cases f4:f=4
 ·rw[aa f4]
  exact((pS h).adv 1).mono (by omega) (by omega)
 rw[ae f4]
 by_cases f5:f=5
 ·rw[aa f5]
  have:=Br (hz (.inr (.inl f5)))
  exact((pS h).adv (jp 4 z)).mono (by omega) (by omega)
 rw[ae f5]
 by_cases f6:f=6
 ·rw[aa f6]
  unfold ra
  cases EE op
  ·rw[iD]
   by_cases ho:op=10
   ·rw[aa ho]
    have:=Br (hz (.inr (.inr (.inl f6))))
    exact((pS h).adv (jp 4 z)).mono (by omega) (by omega)
   ·rw[ae ho]
    exact(pS h).mono (by omega) (by omega)
  ·rw[aa rfl]
   exact(pS h).mono (by omega) (by omega)
 rw[ae f6]
 by_cases f7:f=7
 ·rw[aa f7]
  by_cases ho:op=29
  ·rw[aa ho]
   exact h.mono (by omega) (by omega)
  ·rw[ae ho]
   exact h.mono (by omega) (by omega)
 rw[ae f7]
 by_cases f8:f=8
 ·rw[aa f8]
  have:=sz18 (hz (.inr (.inr (.inr f8))))
  exact(h.adv z).mono (by omega) (by omega)
 rw[ae f8]
 by_cases f9:f=9
 ·rw[aa f9]
  exact(h.adv 1).mono (by omega) (by omega)
 rw[ae f9]
 by_cases f15:f=15
 ·rw[aa f15]
  exact(h.adv 1).mono (by omega) (by omega)
 rw[ae f15]
 by_cases f10:f=10\/f=16
 ·rw[aa f10]
  exact(h.adv 4).mono (by omega) (by omega)
 rw[ae f10]
 by_cases f11:f=11
 ·rw[aa f11]
  exact((pS h).adv 1).mono (by omega) (by omega)
 rw[ae f11]
 by_cases f12:f=12
 ·rw[aa f12]
  exact(pS h).mono (by omega) (by omega)
 rw[ae f12]
 by_cases f13:f=13
 ·rw[aa f13]
  exact(pS h).mono (by omega) (by omega)
 rw[ae f13]
 exact h.mono (by omega) (by omega)
theorem decLen {at0 e:Int}(h0:0<=at0)(h1:at0<=t.length)(h:(oM t (.ok at0)).2.2= .ok e):at0+1<=e/\e<=at0+14/\e<=t.length:=by
 have hq:Pos.In (.ok at0) t:=fun a ha=>by cases ha;exact⟨h0,h1⟩
 have hb:Pos.Bd (.ok at0) at0 at0:=fun a ha=>by cases ha;omega
 have:=opsM_bd (p9M_bd (t:=t) hb) (rX hq) e h
 have:=BV (xp hq) (rX hq) e h
 omega
end
theorem Cq (m:Nat):((2^m:Nat):Int)=(2:Int)^m:=by simp
theorem JS (m:Nat)(hm:m<=63)(v:Int): -(2:Int)^m<=sx m v/\sx m v<2^m:=by
 unfold sx
 have hp:(0:Int)<2^(m+1):=cI (by decide)
 have h1:=eg v (jf hp)
 have h2:=eZ v hp
 have hd:(2:Int)^(m+1)=2^m*2:=jS 2 m
 have hb:v%2^64/2^m%2=v%2^(m+1)/2^m:=by
  have h64:(2:Int)^(m+1)*2^(63-m)=2^64:=by rw[<-jh];congr 1;omega
  have h1:v%2^(m+1)=v%2^64%2^(m+1):=by
   rw[gP]
   exact⟨2^(63-m),h64.symm⟩
  rw[h1,jS 2 m]
  have hu:=bX v
  rw[<-hu]
  rw[<-Cq m]
  have h2:((2^m:Nat):Int)*2=((2^m*2:Nat):Int):=by simp
  rw[h2]
  rw[<-gf,<-dM,<-gf,mU]
  simp
 rw[hb]
 have hpm:(0:Int)<2^m:=cI (by decide)
 generalize v%2^(m+1)=r at*
 by_cases hs:(2:Int)^m<=r
 ·have hq:r/2^m=1:=by
   rw[qt hpm];omega
  rw[hq,aa rfl];omega
 ·have hq:r/2^m=0:=qu h1 (by omega)
  rw[hq,iD];omega
theorem sx7_id {u:Int}(h0: -128<=u)(h1:u<128):sx 7 u=u:=by
 unfold sx;rw[show(2:Int)^(7+1)=256 from rfl,show(2:Int)^7=128 from rfl,show(2:Int)^64=18446744073709551616 from rfl];split<;>omega
theorem sx15_id {u:Int}(h0: -32768<=u)(h1:u<32768):sx 15 u=u:=by
 unfold sx;rw[show(2:Int)^(15+1)=65536 from rfl,show(2:Int)^15=32768 from rfl,show(2:Int)^64=18446744073709551616 from rfl];split<;>omega
theorem Ht {u:Int}(h0: -2147483648<=u)(h1:u<2147483648):sx 31 u=u:=by
 unfold sx;rw[show(2:Int)^(31+1)=4294967296 from rfl,show(2:Int)^31=2147483648 from rfl,show(2:Int)^64=18446744073709551616 from rfl];split<;>omega
section
variable {t:List UInt8}
theorem G0 {w:Int}(hw:w=1\/w=2\/w=4)(p:Pos): -(2:Int)^(8*w-1).toNat<=rdS t w p/\rdS t w p<2^(8*w-1).toNat:=JS _ (by omega) _
theorem BY (p:Pos): -128<=rdS t 1 p/\rdS t 1 p<128:=G0 (.inl rfl) p
theorem rdS2_bd (p:Pos): -32768<=rdS t 2 p/\rdS t 2 p<32768:=G0 (.inr (.inl rfl)) p
theorem BZ (p:Pos): -2147483648<=rdS t 4 p/\rdS t 4 p<2147483648:=G0 (.inr (.inr rfl)) p
theorem Bl {u z:Int}(hz:ii z):yh u z=true↔(z=1/\ -128<=u/\u<128)\/(z=2/\ -32768<=u/\u<32768)\/((z=4\/z=8)/\ -2147483648<=u/\u<2147483648):=by
 unfold yh fitsB
 rw[lJ]
 have h7: -128<=sx 7 u/\sx 7 u<128:=JS 7 (by decide) u
 have h15: -32768<=sx 15 u/\sx 15 u<32768:=JS 15 (by decide) u
 have h31: -2147483648<=sx 31 u/\sx 31 u<2147483648:=JS 31 (by decide) u
 rcases hz with rfl|rfl|rfl|rfl
 ·show sx 7 u=u↔_
  constructor
  ·intro h;omega
  ·intro h;exact sx7_id (by omega) (by omega)
 ·show sx 15 u=u↔_
  constructor
  ·intro h;omega
  ·intro h;exact sx15_id (by omega) (by omega)
 ·show sx 31 u=u↔_
  constructor
  ·intro h;omega
  ·intro h;exact Ht (by omega) (by omega)
 ·show sx 31 u=u↔_
  constructor
  ·intro h;omega
  ·intro h;exact Ht (by omega) (by omega)
theorem rJ {z:Int}(hz:ii z)(p:Pos):yh (rdS t (jp 4 z) p) z=true:=by
 rw[Bl hz]
 have h1:=BY (t:=t) p
 have h2:=rdS2_bd (t:=t) p
 have h4:=BZ (t:=t) p
 rcases hz with rfl|rfl|rfl|rfl
 ·exact .inl ⟨rfl,h1⟩
 ·exact .inr (.inl ⟨rfl,h2⟩)
 ·exact .inr (.inr ⟨.inl rfl,h4⟩)
 ·exact .inr (.inr ⟨.inr rfl,h4⟩)
theorem yi {z:Int}(hz:ii z)(p:Pos):yh (rdS t 1 p) z=true:=by
 rw[Bl hz]
 have h1:=BY (t:=t) p
 unfold ii at hz
 omega
theorem wS {z:Int}(hz:ii z):yh 0 z=true:=by
 rw[Bl hz]
 unfold ii at hz
 omega
def oOK (x z:Int)(o:Opd):Prop:=ss o z/\(x=0->¬um o z)/\(x≠0->¬HQ o)
theorem BO {x n z:Int}(h0:0<=n)(h15:n<=15)(h7:x=0->n<=7):oOK x z (uj (nr x n z)):=by
 unfold oOK ss um HQ opB wC noP sE uj nr
 dsimp only
 split<;>refine⟨?_,?_,?_⟩<;>omega
theorem BM {x n z:Int}(h0:0<=n)(h15:n<=15)(h7:x=0->n<=7)(hz:z≠1\/n<=3):oOK x z (uj n):=by
 unfold oOK ss um HQ opB wC noP sE uj
 dsimp only
 refine⟨?_,?_,?_⟩<;>omega
theorem l5 {x n z:Int}:oOK x z (zO n):=by
 unfold oOK ss um HQ opB wC noP sE zO uB
 dsimp only
 refine⟨?_,?_,?_⟩<;>omega
theorem pP {x z:Int}:oOK x z noD:=by
 unfold oOK ss um HQ opB wC noP sE noD uB
 dsimp only
 refine⟨?_,?_,?_⟩<;>omega
theorem BN {x z b i s d:Int}(h1:uB 2 0 b i s d 0)(h2:x=0->(b<=7\/b=16)/\i<=7):oOK x z (memD b i s d):=by
 refine⟨.inr (.inl h1),fun hx hr=>?_,fun _ hn=>?_⟩
 ·have:=h2 hx
  clear h1
  unfold um wC memD at hr
  dsimp only at hr
  omega
 ·unfold HQ noP memD at hn
  dsimp only at hn
  omega
theorem FF {mod rm b:Int}(p:Pos): -2147483648<=EP t (nR mod rm b) p/\EP t (nR mod rm b) p<=2147483647:=by
 have h1:=BY (t:=t) p
 have h4:=BZ (t:=t) p
 have hw:nR mod rm b=0\/nR mod rm b=1\/nR mod rm b=4:=by unfold nR;(repeat' split)<;>decide
 unfold EP
 rcases hw with h|h|h<;>rw[h]
 ·rw[aa rfl];omega
 ·rw[iD];omega
 ·rw[iD];omega
theorem GV {b:Int}(h0:0<=b)(h1:b<256):(2:Int)^(b/64).toNat=1\/(2:Int)^(b/64).toNat=2\/(2:Int)^(b/64).toNat=4\/(2:Int)^(b/64).toNat=8:=by
 have:b/64=0\/b/64=1\/b/64=2\/b/64=3:=by omega
 rcases this with h|h|h|h<;>rw[h]<;>decide
theorem memM_ok {x mod rm z:Int}{p:Pos}(hp:p.In t)(hrm:0<=rm/\rm<=7):oOK x z (EQ t x mod rm p).1:=by
 have hb:=fv t p hp
 obtain⟨e0,e8,ez⟩:=nB (x:=x) (k:=0) (by decide)
 obtain⟨f0,f8,fz⟩:=nB (x:=x) (k:=1) (by decide)
 have e2:=u6 (x:=x) (k:=1) (by decide)
 have hpw:=GV hb.1 hb.2
 unfold EQ
 split
 ·refine BN ?_ ?_
  ·have hd:=FF (t:=t) (mod:=mod) (rm:=rm) (b:=rdU t 1 p) (adv t 1 p)
   generalize EP t (nR mod rm (rdU t 1 p)) (adv t 1 p)=d at hd|-
   generalize (2:Int)^(rdU t 1 p/64).toNat=s at hpw|-
   unfold uB
   split<;>split<;>omega
  ·intro h
   split<;>split<;>omega
 ·split
  ·refine BN ?_ (fun _=>by omega)
   have h4: -2147483648<=EP t 4 p/\EP t 4 p<=2147483647:=by
    have:=BZ (t:=t) p
    unfold EP;rw[iD];omega
   generalize EP t 4 p=d at h4|-
   unfold uB;omega
  ·refine BN ?_ (fun _=>by omega)
   have hd:=FF (t:=t) (mod:=mod) (rm:=rm) (b:=0) p
   generalize EP t (nR mod rm 0) p=d at hd|-
   unfold uB;omega
theorem plM_ok {x m z:Int}{p:Pos}(hp:p.In t):oOK x z (plM t x m z p).1:=by
 obtain⟨e0,e8,ez⟩:=nB (x:=x) (k:=0) (by decide)
 unfold plM
 split
 ·exact BO (by omega) (by omega) (by omega)
 ·exact memM_ok hp (by omega)
theorem Do (t:List UInt8)(x m z:Int)(p:Pos):((plM t x m z p).1.kind=1\/(plM t x m z p).1.kind=2)/\(plM t x m z p).1.imm=0/\(m/64≠3->(plM t x m z p).1.kind=2):=by
 unfold plM EQ
 split
 ·exact⟨.inl rfl,rfl,fun h=>ah (by assumption) h⟩
 ·split
  ·exact⟨.inr rfl,rfl,fun _=>rfl⟩
  ·split
   ·exact⟨.inr rfl,rfl,fun _=>rfl⟩
   ·exact⟨.inr rfl,rfl,fun _=>rfl⟩
end
def EF (f op:Int)(by':Bool):Prop:=
 (f=1/\(1<=op/\op<=10\/op=28))\/(f=2/\(1<=op/\op<=9\/(op=17\/op=25\/op=36)/\by'=false))\/(f=3/\(1<=op/\op<=8\/op=10))\/(f=4/\1<=op/\op<=8)\/(f=5/\1<=op/\op<=9)
def EG (f op:Int)(by':Bool)(frm:Int):Prop:=
 (f=17/\by'=false/\(op=26/\(frm=1\/frm=2)\/op=27/\(frm=1\/frm=2\/frm=4)))\/(f=6/\(10<=op/\op<=16\/op=18\/op=19\/29<=op/\op<=32\/op=35/\by'=true))\/(f=7/\(op=29\/op=30))\/(f=8/\op=9)
def EH (f op:Int):Prop:=
 (f=9/\(op=32\/op=33))\/(f=15/\(op=29\/op=44))\/(f=10/\31<=op/\op<=33)\/(f=16/\op=29)\/((f=11\/f=12\/f=13)/\20<=op/\op<=24)
def EI (f op:Int)(by':Bool):Prop:=
 f=14/\(op=34\/op=37\/op=38\/op=43\/(op=39\/op=40)/\by'=false\/(op=41\/op=42)/\by'=true)
instance (f op:Int) (b:Bool):Decidable (EF f op b):=by unfold EF;infer_instance
instance (f op:Int) (b:Bool) (r:Int):Decidable (EG f op b r):=by unfold EG;infer_instance
instance (f op:Int):Decidable (EH f op):=by unfold EH;infer_instance
instance (f op:Int) (b:Bool):Decidable (EI f op b):=by unfold EI;infer_instance
def tabB (f op:Int)(by':Bool)(frm:Int):Bool:=decide ((EF f op by'\/EG f op by' frm\/EH f op\/EI f op by')/\(f≠17->frm=0))
def tabC (sec:Bool)(n:Nat):Bool:=
 decide ((shz sec n).2.1=0)||(if 0<(shz sec n).2.2.1 then(List.range 8).all fun d=>decide (grp (shz sec n).2.2.1.toNat d=0)||tabB (shz sec n).2.1 (grp (shz sec n).2.2.1.toNat d) (shz sec n).2.2.2.1 (shz sec n).2.2.2.2.1
  else tabB (shz sec n).2.1 (shz sec n).1 (shz sec n).2.2.2.1 (shz sec n).2.2.2.2.1)
theorem tab_F:∀n:Nat,n<256->tabC false n=true:=by decide +kernel
theorem tab_T:∀n:Nat,n<256->tabC true n=true:=by decide +kernel
theorem tab_all (sec:Bool){n:Nat}(h:n<256):tabC sec n=true:=by
 cases sec
 ·exact tab_F n h
 ·exact tab_T n h
section
variable {t:List UInt8}
theorem FL {p:Pos}{q:Int->Prop}[DecidablePred q]{k e:Int}(h:(exb p fun a=>if q a then .error k else .ok a:Except Int Int)= .ok e):p= .ok e/\¬q e:=by
 cases p with
 |error c=>cases h
 |ok b=>
  unfold exb at h
  dsimp only at h
  split at h
  ·cases h
  ·rename_i hn
   cases h;exact⟨rfl,hn⟩
theorem adv_ok {p:Pos}{n e:Int}(h:adv t n p= .ok e):∃b,p= .ok b/\b+n<=t.length/\e=b+n:=by
 cases p with
 |error c=>cases h
 |ok b=>
  unfold adv exb at h
  dsimp only at h
  split at h
  ·cases h;exact⟨b,rfl,by assumption,rfl⟩
  ·cases h
theorem Fw {q:Pos}{e:Int}(hq:q.In t)(h:(oM t q).2.2= .ok e):
  tabB (zM t q).2.1 (opM t q) (zM t q).2.2.2.1 (zM t q).2.2.2.2.1=true/\ur (wdM t q) (zM t q).2.2.2.1 (zM t q).2.2.2.2.1 (opM t q) (zsM t q) (mM t q)=0:=by
 have hb:=ny hq
 have hm:=pc hq
 cases h9:p9M t q with
 |error c=>rw[show(oM t q).2.2= .error c from Dk h9]at h;cases h
 |ok a9=>
  obtain⟨h8,hbad⟩:=FL (q:=fun _=>ur (wdM t q) (zM t q).2.2.2.1 (zM t q).2.2.2.2.1 (opM t q) (zsM t q) (mM t q)≠0) h9
  obtain⟨h7,hop⟩:=FL (q:=fun _=>Bp (zM t q)=true/\opM t q=0) h8
  have h6:∃b,p6M t q= .ok b:=by
   unfold p7M at h7
   split at h7
   ·obtain⟨b,hb,_⟩:=adv_ok h7;exact⟨b,hb⟩
   ·exact⟨_,h7⟩
  obtain⟨b6,h6⟩:=h6
  obtain⟨_,hf⟩:=FL (q:=fun _=>(zM t q).2.1=0) h6
  refine⟨?_,Decidable.not_not.1 hbad⟩
  have ht:=tab_all (za t q) (show(bM t q).toNat<256 by omega)
  unfold tabC at ht
  have hf':¬(shz (za t q) (bM t q).toNat).2.1=0:=hf
  rw[aP hf',kT]at ht
  change (if 0<(zM t q).2.2.1 then _ else tabB (zM t q).2.1 (zM t q).1 (zM t q).2.2.2.1 (zM t q).2.2.2.2.1)=true at ht
  by_cases hg:0<(zM t q).2.2.1
  ·rw[aa hg]at ht
   have hgB:Bp (zM t q)=true:=aF hg
   have eo:opM t q=grp (zM t q).2.2.1.toNat (mM t q/8%8).toNat:=by unfold opM;rw[hgB,aa rfl]
   have:=fc.1 ht (mM t q/8%8).toNat (List.mem_range.2 (by omega))
   change (decide (grp (zM t q).2.2.1.toNat _=0)||tabB (zM t q).2.1 (grp (zM t q).2.2.1.toNat _) (zM t q).2.2.2.1 (zM t q).2.2.2.2.1)=true at this
   rw[<-eo,aP (fun g=>hop ⟨hgB,g⟩),kT]at this
   exact this
  ·rw[ae hg]at ht
   have hgB:Bp (zM t q)=false:=aP hg
   have eo:opM t q=(zM t q).1:=by unfold opM;rw[hgB,iD]
   rw[eo];exact ht
theorem szM_val (by' w:Bool)(op x:Int):(eh op=true->szM by' op w x=8)/\(eh op=false->gD op=true->szM by' op w x=0)/\(eh op=false->gD op=false->(by'=true->szM by' op w x=1)/\(by'=false->szM by' op w x=2\/szM by' op w x=4\/szM by' op w x=8/\x≠0)):=by
 unfold szM
 refine⟨fun h=>by rw[aa h],fun h g=>by rw[ae (by rw[h];decide),aa g],fun h g=>⟨fun k=>?_,fun k=>?_⟩⟩
 ·rw[ae (by rw[h];decide),ae (by rw[g];decide),aa k]
 ·rw[ae (by rw[h];decide),ae (by rw[g];decide),ae (by rw[k];decide)]
  split
  ·right;right;exact⟨rfl,by rintro rfl;omega⟩
  ·split
   ·exact .inl rfl
   ·exact .inr (.inl rfl)
def kOK (n:Nat)(kd ks:Int):Bool:=(prK n).any (nS kd ks)
theorem k_f1:∀n,n<45->(1<=n/\n<=10\/n=28)->kOK n 1 1=true/\kOK n 2 1=true:=by decide +kernel
theorem k_f2:∀n,n<45->(1<=n/\n<=9\/n=17\/n=36\/n=26\/n=27)->kOK n 1 1=true/\kOK n 1 2=true:=by decide +kernel
theorem k_lea:kOK 25 1 2=true:=by decide +kernel
theorem k_ri:∀n,n<45->(1<=n/\n<=10\/20<=n/\n<=24)->kOK n 1 3=true/\kOK n 2 3=true:=by decide +kernel
theorem k_sh:∀n,n<45->20<=n->n<=24->kOK n 1 1=true/\kOK n 2 1=true:=by decide +kernel
theorem k_r0:∀n,n<45->(n=11\/n=12\/n=18\/n=19\/n=30\/n=35)->kOK n 1 0=true/\kOK n 2 0=true:=by decide +kernel
theorem k_0r:∀n,n<45->(13<=n/\n<=16\/n=29\/n=31\/n=32)->kOK n 0 1=true/\kOK n 0 2=true:=by decide +kernel
theorem k_0i:∀n,n<45->(n=29\/n=31\/n=32\/n=33\/n=44)->kOK n 0 3=true:=by decide +kernel
theorem k_00:∀n,n<45->(n=34\/37<=n/\n<=43)->kOK n 0 0=true:=by decide +kernel
end
theorem xn {x:Ins}{n:Nat}(h:n<=8\/n=10):yH x n=yh x.src.imm x.size:=by unfold yH;rw[aa h]
theorem Df {x:Ins}:yH x 9=(decide (x.size=8/\x.dst.kind=1)||yh x.src.imm x.size):=by unfold yH;rw[iD,aa rfl]
theorem BL {x:Ins}{n:Nat}(h:20<=n/\n<=24):yH x n=decide (¬(x.src.kind=1/\x.src.reg≠1)/\0<=x.src.imm/\x.src.imm<=255):=by
 unfold yH;rw[iN,iN,aa h]
theorem numB_26 {x:Ins}:yH x 26=decide (x.frm=1\/x.frm=2/\2<x.size):=rfl
theorem numB_27 {x:Ins}:yH x 27=decide (x.frm=1\/x.frm=2/\2<x.size\/x.frm=4/\x.size=8):=rfl
theorem tF {x:Ins}{n:Nat}(h:n=29\/n=31\/n=32\/n=33):yH x n=yh x.src.imm 4:=by rcases h with rfl|rfl|rfl|rfl<;>rfl
theorem numB_44 {x:Ins}:yH x 44=decide (0<=x.src.imm/\x.src.imm<=255):=rfl
theorem t4 {x:Ins}{n:Nat}(h:11<=n/\n<=19\/n=25\/n=28\/n=30\/34<=n/\n<=43):yH x n=true:=by
 unfold yH;rw[iN,iN,iN,iN,iN,iN,iN]
structure SzV (z op:Int)(by':Bool)(x:Int):Prop where
 ve:29<=op/\op<=32->z=8
 vz:op=33\/op=34\/op=37\/op=38\/op=43\/op=44->z=0
 vb:¬(29<=op/\op<=34\/op=37\/op=38\/op=43\/op=44)->by'=true->z=1
 vn:¬(29<=op/\op<=34\/op=37\/op=38\/op=43\/op=44)->by'=false->z=2\/z=4\/z=8/\x≠0
theorem szV (by' w:Bool)(op x:Int):SzV (szM by' op w x) op by' x:=by
 obtain⟨h1,h2,h3⟩:=szM_val by' w op x
 have e8:eh op=true↔29<=op/\op<=32:=by unfold eh;rw[aG];omega
 have e0:gD op=true↔(op=33\/op=34\/op=37\/op=38\/op=43\/op=44):=by unfold gD;rw[aG]
 have n8:eh op=false↔¬(29<=op/\op<=32):=by rw[<-e8,my]
 have n0:gD op=false↔¬(op=33\/op=34\/op=37\/op=38\/op=43\/op=44):=by rw[<-e0,my]
 rw[e8]at h1
 rw[n8,e0]at h2
 rw[n8,n0]at h3
 refine⟨fun h=>h1 (by omega),fun h=>h2 (by omega) (by omega),fun h k=>?_,fun h k=>?_⟩
 ·exact(h3 (by omega) (by omega)).1 k
 ·exact(h3 (by omega) (by omega)).2 k
theorem sz_mem {f frm z x:Int}{by':Bool}{n:Nat}(h:tabB f n by' frm=true)(V:SzV z n by' x)(hn:1<=n)(hn2:n<45):z∈szL (szK n):=by
 have T:=(bh h).1
 obtain⟨v1,v2,v3,v4⟩:=V
 unfold EF EG EH EI at T
 unfold szK szL
 cases by' with
 |true=>
  have v3:=fun g=>v3 g rfl
  clear v4
  simp only[Bool.true_eq_false,and_false,false_and,or_false,and_true,false_or]at T
  by_cases c0:n<=16\/n=18\/n=19\/(20<=n/\n<=24)\/n=28
  ·rw[aa c0,aa rfl];simp only[aN,gg,or_false];omega
  rw[ae c0]
  by_cases c1:n=17\/n=25\/n=26\/n=27\/n=36\/n=39\/n=40
  ·omega
  rw[ae c1]
  by_cases c2:29<=n/\n<=32
  ·rw[aa c2,iD,iD,aa rfl];simp only[aN,gg,or_false];omega
  rw[ae c2]
  by_cases c3:n=35\/n=41\/n=42
  ·rw[aa c3,iD,iD,iD,aa rfl];simp only[aN,gg,or_false];omega
  rw[ae c3,iD,iD,iD,iD];simp only[aN,gg,or_false];omega
 |false=>
  have v4:=fun g=>v4 g rfl
  clear v3
  simp only[og,and_false,or_false,and_true,true_and]at T
  by_cases c0:n<=16\/n=18\/n=19\/(20<=n/\n<=24)\/n=28
  ·rw[aa c0,aa rfl];simp only[aN,gg,or_false];omega
  rw[ae c0]
  by_cases c1:n=17\/n=25\/n=26\/n=27\/n=36\/n=39\/n=40
  ·rw[aa c1,iD,aa rfl];simp only[aN,gg,or_false];omega
  rw[ae c1]
  by_cases c2:29<=n/\n<=32
  ·rw[aa c2,iD,iD,aa rfl];simp only[aN,gg,or_false];omega
  rw[ae c2]
  by_cases c3:n=35\/n=41\/n=42
  ·omega
  rw[ae c3,iD,iD,iD,iD];simp only[aN,gg,or_false];omega
theorem insP_of {op z cd frm len x:Int}{D S:Opd}{n:Nat}(hlen:0<=len/\len<=15)(hcd:0<=cd/\cd<=15)(hcz:(n=33\/n=35\/n=36)\/cd=0)(hfrm:(n=26\/n=27)\/frm=0)(hsz:z∈szL (szK n))
  (hk:kOK n D.kind S.kind=true) (hnum:yH ⟨op,z,cd,frm,D,S,len⟩ n=true) (hD:oOK x z D) (hS:oOK x (sSz ⟨op,z,cd,frm,D,S,len⟩ n) S) (hx:x=0->z≠8\/29<=n/\n<=32):wV ⟨op,z,cd,frm,D,S,len⟩ n:=by
 refine⟨hlen.1,hlen.2,?_,hfrm,hcz,hcd.1,hcd.2,hD.1,hS.1,?_⟩
 ·unfold shB
  rw[hnum,aF hsz]
  show(true&&(kOK n D.kind S.kind&&true))=true
  rw[hk];rfl
 ·by_cases h0:x=0
  ·exact .inr ⟨hD.2.1 h0,hS.2.1 h0,hx h0⟩
  ·exact .inl fun g=>g.elim (hD.2.2 h0) (hS.2.2 h0)
section
variable {t:List UInt8}
theorem Fi {w by':Bool}{frm op z m:Int}(h:ur w by' frm op z m=0):(frm=4->z=8)/\((frm=1\/frm=2)->frm<z)/\¬(op=25/\m/64=3):=by
 unfold ur at h
 split at h
 ·omega
 ·rename_i g
  split at h
  ·omega
  ·rename_i g2
   refine⟨fun h4=>?_,fun h4=>?_,g2⟩
   ·by_cases h8:z=8
    ·exact h8
    ·exact ah (.inr (.inl ⟨h4,h8⟩)) g
   ·by_cases h8:z<=frm
    ·exact ah (.inr (.inr ⟨h4,h8⟩)) g
    ·omega
theorem G6 {x:Ins}{n:Nat}(h:¬(20<=n/\n<=24))(hf:x.frm=0):sSz x n=x.size:=by unfold sSz;rw[ae h,hf,iD]
theorem sSz_f {x:Ins}{n:Nat}(h:¬(20<=n/\n<=24))(hf:0<x.frm):sSz x n=x.frm:=by unfold sSz;rw[ae h,aa hf]
theorem sSz_8 {x:Ins}{n:Nat}(h:20<=n/\n<=24):sSz x n=8:=by unfold sSz;rw[aa h]
theorem JL {z x op:Int}{by':Bool}(V:SzV z op by' x)(h:¬(op=33\/op=34\/op=37\/op=38\/op=43\/op=44)):ii z:=by
 obtain⟨v1,_,v3,v4⟩:=V
 unfold ii
 by_cases h8:29<=op/\op<=32
 ·have:=v1 h8;omega
 ·cases hb:by' with
  |true=>have:=v3 (by omega) hb;omega
  |false=>have:=v4 (by omega) hb;omega
theorem Ja {f frm z x b m cd len:Int}{w by':Bool}{n:Nat}{p:Pos}(hp:p.In t)(hn:1<=n)(hn2:n<45)(hT:tabB f n by' frm=true)(V:SzV z n by' x)(hm0:0<=m)(hm:m<256)
  (hbad:ur w by' frm n z m=0) (hlen:0<=len/\len<=15) (hcd:0<=cd/\cd<=15) (hcz:(n=33\/n=35\/n=36)\/cd=0):
  wV ⟨n,z,cd,frm,(su t f frm n z x b m p).1,(su t f frm n z x b m p).2.1,len⟩ n:=by
 have hsz:=sz_mem hT V hn hn2
 obtain⟨T,hfr⟩:=bh hT
 obtain⟨b4,b12,blea⟩:=Fi hbad
 obtain⟨e0,e8,ez⟩:=nB (x:=x) (k:=0) (by decide)
 obtain⟨g0,g8,gz⟩:=nB (x:=x) (k:=2) (by decide)
 have hrg:∀z,oOK x z (uj (nr x (m/8%8+lK x 2) z)):=fun z=>BO (by omega) (by omega) (by omega)
 have hpl:∀z,oOK x z (plM t x m z p).1:=fun z=>plM_ok hp
 have hpk:=fun z=>Do t x m z p
 have hx8:x=0->z≠8\/29<=n/\n<=32:=fun h0=>by
  obtain⟨v1,v2,v3,v4⟩:=V
  by_cases h8:29<=n/\n<=32
  ·exact .inr h8
  ·left
   by_cases hz:(n:Int)=33\/(n:Int)=34\/(n:Int)=37\/(n:Int)=38\/(n:Int)=43\/(n:Int)=44
   ·have:=v2 hz;omega
   ·cases hby:by' with
    |true=>have:=v3 (by omega) hby;omega
    |false=>have:=v4 (by omega) hby;omega
 have hP:¬(n=33\/n=34\/n=37\/n=38\/n=43\/n=44)->ii z:=fun h=>JL V (by omega)
 have f26:f≠17->(n=26\/n=27)\/frm=0:=fun h=> .inr (hfr h)
 have key:∀(D S:Opd) (q:Pos),su t f frm n z x b m p=(D,S,q)->kOK n D.kind S.kind=true->yH ⟨n,z,cd,frm,D,S,len⟩ n=true->oOK x z D->oOK x (sSz ⟨n,z,cd,frm,D,S,len⟩ n) S->((n=26\/n=27)\/frm=0)->
   wV ⟨n,z,cd,frm,(su t f frm n z x b m p).1,(su t f frm n z x b m p).2.1,len⟩ n:=fun D S q e k1 k2 k3 k4 k5=>by
  rw[e]
  exact insP_of hlen hcd hcz k5 hsz k1 k2 k3 k4 hx8
 rcases T with T|T|T|T
 ·unfold EF at T
  rcases T with ⟨rfl,T⟩|⟨rfl,T⟩|⟨rfl,T⟩|⟨rfl,T⟩|⟨rfl,T⟩
  ·have hk:=k_f1 n hn2 (by omega)
   refine key _ _ _ rfl ?_ ?_ (hpl z) (by rw[G6 (by omega) (hfr (by decide))];exact hrg z) (f26 (by decide))
   ·rcases(hpk z).1 with e|e<;>rw[e]
    ·exact hk.1
    ·exact hk.2
   ·by_cases h9:n=9
    ·subst h9;rw[Df];simp[uj,wS (hP (by decide))]
    ·by_cases h28:n=28
     ·exact t4 (by omega)
     ·rw[xn (by omega)];exact wS (hP (by omega))
  ·by_cases hl:n=25
   ·subst hl
    have hk2:=(hpk z).2.2 (fun g=>blea ⟨rfl,g⟩)
    refine key _ _ _ rfl ?_ (t4 (by omega)) (hrg z) (by rw[G6 (by omega) (hfr (by decide))];exact hpl z) (f26 (by decide))
    rw[hk2];exact k_lea
   ·have hk:=k_f2 n hn2 (by omega)
    refine key _ _ _ rfl ?_ ?_ (hrg z) (by rw[G6 (by omega) (hfr (by decide))];exact hpl z) (f26 (by decide))
    ·rcases(hpk z).1 with e|e<;>rw[e]
     ·exact hk.1
     ·exact hk.2
    ·by_cases h9:n=9
     ·subst h9;rw[Df,(hpk z).2.1,wS (hP (by decide)),Bool.or_true]
     ·by_cases h8:n<=8
      ·rw[xn (.inl h8),(hpk z).2.1];exact wS (hP (by omega))
      ·by_cases h17:n=17
       ·exact t4 (by omega)
       ·have:n=36:=by omega
        exact t4 (by omega)
  ·have hk:=k_ri n hn2 (by omega)
   refine key _ _ _ rfl hk.1 ?_ (BM (by omega) (by omega) (by omega) (.inr (by decide))) l5 (f26 (by decide))
   rw[xn (by omega)];exact rJ (hP (by omega)) _
  ·have hk:=k_ri n hn2 (by omega)
   refine key _ _ _ rfl ?_ ?_ (hpl z) l5 (f26 (by decide))
   ·rcases(hpk z).1 with e|e<;>rw[e]
    ·exact hk.1
    ·exact hk.2
   ·rw[xn (by omega)];exact yi (hP (by omega)) _
  ·have hk:=k_ri n hn2 (by omega)
   refine key _ _ _ rfl ?_ ?_ (hpl z) l5 (f26 (by decide))
   ·rcases(hpk z).1 with e|e<;>rw[e]
    ·exact hk.1
    ·exact hk.2
   ·by_cases h9:n=9
    ·subst h9
     rw[Df]
     show(_||yh (rdS t (jp 4 z) _) z)=true
     rw[rJ (hP (by decide)),Bool.or_true]
    ·rw[xn (by omega)];exact rJ (hP (by omega)) _
 ·unfold EG at T
  rcases T with ⟨rfl,hby,T⟩|⟨rfl,T⟩|⟨rfl,T⟩|⟨rfl,T⟩
  ·have hk:=k_f2 n hn2 (by omega)
   refine key _ _ _ rfl ?_ ?_ (hrg z) (by rw[sSz_f (by omega) (show 0<frm by omega)];exact hpl frm) (.inl (by omega))
   ·rcases(hpk frm).1 with e|e<;>rw[e]
    ·exact hk.1
    ·exact hk.2
   ·by_cases h26:n=26
    ·subst h26;rw[numB_26];exact aF (by dsimp only;omega)
    ·obtain rfl:n=27:=by omega
     rw[numB_27];exact aF (by dsimp only;omega)
  ·by_cases hs:EE n=true
   ·have hs2:=bh hs
    have hk:=k_0r n hn2 (by omega)
    refine key _ _ (plM t x m z p).2 (show ra t n z (plM t x m z p)=_ by unfold ra;rw[aa hs]) ?_ ?_ pP (by rw[G6 (by omega) (hfr (by decide))];exact hpl z) (f26 (by decide))
    ·rcases(hpk z).1 with e|e<;>rw[e]
     ·exact hk.1
     ·exact hk.2
    ·by_cases h16:n<=16
     ·exact t4 (by omega)
     ·rw[tF (by omega),(hpk z).2.1];exact wS (.inr (.inr (.inl rfl)))
   ·have hs2:=of_decide_eq_false (by rw[my]at hs;exact hs)
    by_cases h10:n=10
    ·subst h10
     have hk:=k_ri 10 hn2 (by omega)
     refine key _ _ _ (show ra t 10 z (plM t x m z p)=(_,zO (rdS t (jp 4 z) (plM t x m z p).2),adv t (jp 4 z) (plM t x m z p).2)from rfl) ?_ ?_ (hpl z) l5 (f26 (by decide))
     ·rcases(hpk z).1 with e|e<;>rw[e]
      ·exact hk.1
      ·exact hk.2
     ·rw[xn (by omega)];exact rJ (hP (by omega)) _
    ·have hk:=k_r0 n hn2 (by omega)
     refine key _ _ (plM t x m z p).2 (show ra t n z (plM t x m z p)=_ by unfold ra;rw[ae hs,iN]) ?_ (t4 (by omega)) (hpl z) pP (f26 (by decide))
     rcases(hpk z).1 with e|e<;>rw[e]
     ·exact hk.1
     ·exact hk.2
  ·have z8:z=8:=V.ve (by omega)
   have hr:oOK x z (uj (b%8+lK x 0)):=BM (by omega) (by omega) (by omega) (.inl (by omega))
   by_cases h29:n=29
   ·subst h29
    refine key _ _ p rfl (k_0r 29 (by decide) (by decide)).1 (by rw[tF (by omega)];exact wS (.inr (.inr (.inl rfl)))) pP (by rw[G6 (by omega) (hfr (by decide))];exact hr) (f26 (by decide))
   ·obtain rfl:n=30:=by omega
    exact key _ _ p rfl (k_r0 30 (by decide) (by decide)).1 (t4 (by omega)) hr pP (f26 (by decide))
  ·obtain rfl:n=9:=by omega
   refine key _ _ _ rfl (k_ri 9 (by decide) (by decide)).1 ?_ (BO (by omega) (by omega) (by omega)) l5 (f26 (by decide))
   rw[Df]
   by_cases z8:z=8
   ·rw[cO];exact .inl (aF ⟨z8,rfl⟩)
   ·show(_||yh (rdS t z p) z)=true
    have e:jp 4 z=z:=by have:=hP (by decide);unfold ii at this;rcases this with rfl|rfl|rfl|rfl<;>first|rfl|exact ah rfl z8
    have:=rJ (t:=t) (hP (by decide)) p
    rw[e]at this
    rw[this,Bool.or_true]
 ·unfold EH at T
  rcases T with ⟨rfl,T⟩|⟨rfl,T⟩|⟨rfl,T⟩|⟨rfl,T⟩|⟨T',T⟩
  ·refine key _ _ _ rfl (k_0i n hn2 (by omega)) ?_ pP l5 (f26 (by decide))
   rw[tF (by omega)];exact yi (.inr (.inr (.inl rfl))) _
  ·by_cases h44:n=44
   ·subst h44
    have hr:=fv t p hp
    refine key _ _ _ rfl (k_0i 44 hn2 (by omega)) ?_ pP l5 (f26 (by decide))
    rw[numB_44];exact aF (by show 0<=rdU t 1 p/\rdU t 1 p<=255;omega)
   ·obtain rfl:n=29:=by omega
    refine key _ _ _ rfl (k_0i 29 hn2 (by omega)) ?_ pP l5 (f26 (by decide))
    rw[tF (by omega)];exact yi (.inr (.inr (.inl rfl))) _
  ·refine key _ _ _ rfl (k_0i n hn2 (by omega)) ?_ pP l5 (f26 (by decide))
   rw[tF (by omega)];exact rJ (z:=4) (.inr (.inr (.inl rfl))) _
  ·refine key _ _ _ rfl (k_0i n hn2 (by omega)) ?_ pP l5 (f26 (by decide))
   rw[tF (by omega)];exact rJ (z:=4) (.inr (.inr (.inl rfl))) _
  ·have hk:=k_ri n hn2 (by omega)
   have hkr:=k_sh n hn2 (by omega) (by omega)
   rcases T' with rfl|rfl|rfl
   ·have hr:=fv t (plM t x m z p).2 (lO hp)
    refine key _ _ _ rfl ?_ ?_ (hpl z) l5 (f26 (by decide))
    ·rcases(hpk z).1 with e|e<;>rw[e]
     ·exact hk.1
     ·exact hk.2
    ·rw[BL (by omega)]
     refine aF ⟨fun g=>?_,?_⟩
     ·exact ah g.1 (by show ¬(3:Int)=1;decide)
     ·show 0<=rdU t 1 _/\rdU t 1 _<=255;omega
   ·refine key _ _ _ rfl ?_ ?_ (hpl z) l5 (f26 (by decide))
    ·rcases(hpk z).1 with e|e<;>rw[e]
     ·exact hk.1
     ·exact hk.2
    ·rw[BL (by omega)]
     exact aF ⟨fun g=>ah g.1 (by show ¬(3:Int)=1;decide),by show(0:Int)<=1/\(1:Int)<=255;decide⟩
   ·refine key _ _ _ rfl ?_ ?_ (hpl z) (by rw[sSz_8 (by omega)];exact BM (by decide) (by decide) (by omega) (.inl (by decide))) (f26 (by decide))
    ·rcases(hpk z).1 with e|e<;>rw[e]
     ·exact hkr.1
     ·exact hkr.2
    ·rw[BL (by omega)]
     exact aF ⟨fun g=>ah rfl g.2,by show(0:Int)<=0/\(0:Int)<=255;decide⟩
 ·unfold EI at T
  obtain⟨rfl,T⟩:=T
  exact key _ _ p rfl (k_00 n hn2 (by omega)) (t4 (by omega)) pP pP (f26 (by decide))
theorem Ib {at0 e:Int}(h0:0<=at0)(h1:at0<=t.length)(h:(oM t (.ok at0)).2.2= .ok e):
  ∃n:Nat,1<=n/\n<45/\(rG t at0).1.op=n/\wV (rG t at0).1 n/\(rG t at0).2=0/\(rG t at0).1.len=e-at0/\1<=e-at0/\e<=t.length:=by
 have hq:Pos.In (.ok at0) t:=fun a ha=>by cases ha;exact⟨h0,h1⟩
 obtain⟨hT,hbad⟩:=Fw hq h
 have ho:=Am hq
 have hb:=ny hq
 have hm:=pc hq
 have hl:=decLen h0 h1 h
 obtain⟨n,hn⟩:=bU ho.1
 have hT1:=(bh hT).1
 have hn1:1<=n:=by
  unfold EF EG EH EI at hT1
  omega
 rw[Ba h]
 refine⟨n,hn1,by omega,hn,?_,rfl,rfl,by omega,hl.2.2⟩
 have hp9:(p9M t (.ok at0)).In t:=xp hq
 unfold oM
 rw[hn]at hT hbad|-
 refine Ja hp9 hn1 (by omega) hT ?_ hm.1 hm.2 hbad (by omega) ?_ ?_
 ·unfold zsM;rw[hn];exact szV ..
 ·unfold cdM;split<;>omega
 ·unfold cdM;rw[hn];split<;>omega
def Ne0 (p:Pos):Prop:=∀c,p= .error c->c≠0
theorem lx {n:Int}{p:Pos}(h:Ne0 p):Ne0 (adv t n p):=fun c hc=>by
 cases p with
 |error k=>cases hc;exact h _ rfl
 |ok b=>
  unfold adv exb at hc
  dsimp only at hc
  split at hc
  ·cases hc
  ·cases hc;decide
theorem CQ {p:Pos}{q:Int->Prop}[DecidablePred q]{k:Int}(h:Ne0 p)(hk:(∃a,q a)->k≠0):Ne0 (exb p fun a=>if q a then .error k else .ok a):=fun c hc=>by
 cases p with
 |error k=>cases hc;exact h _ rfl
 |ok b=>
  unfold exb at hc
  dsimp only at hc
  split at hc
  ·rename_i g;cases hc;exact hk ⟨b,g⟩
  ·cases hc
theorem Bi {w:Int}{p:Pos}(h:Ne0 p):Ne0 (FE t w p):=by
 unfold FE;split
 ·exact h
 ·exact lx h
theorem pU {x m z:Int}{p:Pos}(h:Ne0 p):Ne0 (plM t x m z p).2:=by
 unfold plM EQ
 split
 ·exact h
 ·split
  ·exact Bi (lx h)
  ·split
   ·exact Bi (w:=4) h
   ·exact Bi h
theorem opsM_ne {f frm op z x b m:Int}{p:Pos}(h:Ne0 p):Ne0 (su t f frm op z x b m p).2.2:=by
 unfold su
 by_cases f1:f=1
 ·rw[aa f1]
  exact pU h
 rw[ae f1]
 by_cases f2:f=2
 ·rw[aa f2]
  exact pU h
 rw[ae f2]
 by_cases f17:f=17
 ·rw[aa f17]
  exact pU h
 rw[ae f17]
 by_cases f3:f=3
 ·rw[aa f3]
  exact lx h
 rw[ae f3]
 by_cases f4:f=4
 ·rw[aa f4]
  exact lx (pU h)
 rw[ae f4]
 by_cases f5:f=5
 ·rw[aa f5]
  exact lx (pU h)
 rw[ae f5]
 by_cases f6:f=6
 ·rw[aa f6]
  unfold ra
  cases EE op
  ·rw[iD]
   by_cases ho:op=10
   ·rw[aa ho]
    exact lx (pU h)
   ·rw[ae ho]
    exact pU h
  ·rw[aa rfl]
   exact pU h
 rw[ae f6]
 by_cases f7:f=7
 ·rw[aa f7]
  by_cases ho:op=29
  ·rw[aa ho]
   exact h
  ·rw[ae ho]
   exact h
 rw[ae f7]
 by_cases f8:f=8
 ·rw[aa f8]
  exact lx h
 rw[ae f8]
 by_cases f9:f=9
 ·rw[aa f9]
  exact lx h
 rw[ae f9]
 by_cases f15:f=15
 ·rw[aa f15]
  exact lx h
 rw[ae f15]
 by_cases f10:f=10\/f=16
 ·rw[aa f10]
  exact lx h
 rw[ae f10]
 by_cases f11:f=11
 ·rw[aa f11]
  exact lx (pU h)
 rw[ae f11]
 by_cases f12:f=12
 ·rw[aa f12]
  exact pU h
 rw[ae f12]
 by_cases f13:f=13
 ·rw[aa f13]
  exact pU h
 rw[ae f13]
 exact h
theorem p9_ne {q:Pos}(h:Ne0 q):Ne0 (p9M t q):=by
 refine CQ (q:=fun _=>ur (wdM t q) (zM t q).2.2.2.1 (zM t q).2.2.2.2.1 (opM t q) (zsM t q) (mM t q)≠0) (CQ (q:=fun _=>Bp (zM t q)=true/\opM t q=0) ?_ (fun _=>by decide)) (fun⟨_,g⟩=>g)
 have h1:Ne0 (p1M t q):=by unfold p1M;split;exact lx h;exact h
 have h2:Ne0 (p2M t q):=CQ (q:=fun _=>pkB t (p1M t q)∈uD) h1 (fun _=>by decide)
 have h3:Ne0 (p3M t q):=by unfold p3M;split;exact lx h2;exact h2
 have h5:Ne0 (p5M t q):=by unfold p5M;split;exact lx (lx h3);exact lx h3
 have h6:Ne0 (p6M t q):=CQ (q:=fun _=>(zM t q).2.1=0) h5 (fun _=>by decide)
 unfold p7M;split;exact lx h6;exact h6
theorem Ia {at0:Int}(h0:0<=at0)(h1:at0<=t.length):((∃n:Nat,1<=n/\n<45/\(rG t at0).1.op=n/\wV (rG t at0).1 n)/\(rG t at0).2=0/\1<=(rG t at0).1.len/\at0+(rG t at0).1.len<=t.length)\/((rG t at0).1=xW/\(rG t at0).2≠0):=by
 cases h:(oM t (.ok at0)).2.2 with
 |ok e=>
  obtain⟨n,a1,a2,a3,a4,a5,a6,a7,a8⟩:=Ib h0 h1 h
  exact .inl ⟨⟨n,a1,a2,a3,a4⟩,a5,by omega,by omega⟩
 |error c=>
  have hne:c≠0:=opsM_ne (p9_ne (t:=t) (q:= .ok at0) (fun c hc=>by cases hc)) c h
  have e:rG t at0=(xW,c):=by unfold rG;rw[h]
  rw[e]
  exact .inr ⟨rfl,hne⟩
end
section
variable {t:List UInt8}
theorem rdU_I64 (n:Int)(p:Pos):I64 (rdU t n p):=by
 unfold rdU
 cases p with
 |error _=>show I64 0;decide
 |ok a=>
  dsimp only
  split
  ·exact IS t a n
  ·decide
theorem rdS_I64 (n:Int)(h:n<=8)(p:Pos):I64 (rdS t n p):=jv _ (by omega) _
theorem I9 {f frm op z x b m:Int}{p:Pos}(hz:z<=8):I64 (su t f frm op z x b m p).1.imm/\I64 (su t f frm op z x b m p).2.1.imm:=by
 have i0:I64 0:=by decide
 have pl:∀z,I64 (plM t x m z p).1.imm:=fun z=>by rw[(Do t x m z p).2.1];decide
 have h4:jp 4 z<=8:=by unfold jp;split<;>omega
 have rs:∀(n:Int),n<=8->∀q,I64 (rdS t n q):=fun n h q=>rdS_I64 n h q
 have ru:∀q,I64 (rdU t 1 q):=rdU_I64 1
 unfold su
 by_cases f1:f=1
 ·rw[aa f1]
  exact⟨(pl z),i0⟩
 rw[ae f1]
 by_cases f2:f=2
 ·rw[aa f2]
  exact⟨i0,(pl z)⟩
 rw[ae f2]
 by_cases f17:f=17
 ·rw[aa f17]
  exact⟨i0,(pl frm)⟩
 rw[ae f17]
 by_cases f3:f=3
 ·rw[aa f3]
  exact⟨i0,rs _ (by omega) _⟩
 rw[ae f3]
 by_cases f4:f=4
 ·rw[aa f4]
  exact⟨(pl z),rs _ (by omega) _⟩
 rw[ae f4]
 by_cases f5:f=5
 ·rw[aa f5]
  exact⟨(pl z),rs _ (by omega) _⟩
 rw[ae f5]
 by_cases f6:f=6
 ·rw[aa f6]
  unfold ra
  cases EE op
  ·rw[iD]
   by_cases ho:op=10
   ·rw[aa ho]
    exact⟨(pl z),rs _ (by omega) _⟩
   ·rw[ae ho]
    exact⟨(pl z),i0⟩
  ·rw[aa rfl]
   exact⟨i0,(pl z)⟩
 rw[ae f6]
 by_cases f7:f=7
 ·rw[aa f7]
  by_cases ho:op=29
  ·rw[aa ho]
   exact⟨i0,i0⟩
  ·rw[ae ho]
   exact⟨i0,i0⟩
 rw[ae f7]
 by_cases f8:f=8
 ·rw[aa f8]
  exact⟨i0,rs _ (by omega) _⟩
 rw[ae f8]
 by_cases f9:f=9
 ·rw[aa f9]
  exact⟨i0,rs _ (by omega) _⟩
 rw[ae f9]
 by_cases f15:f=15
 ·rw[aa f15]
  refine⟨i0,?_⟩
  show I64 (if op=44 then rdU t 1 p else rdS t 1 p)
  split
  ·exact ru _
  ·exact rs _ (by omega) _
 rw[ae f15]
 by_cases f10:f=10\/f=16
 ·rw[aa f10]
  exact⟨i0,rs _ (by omega) _⟩
 rw[ae f10]
 by_cases f11:f=11
 ·rw[aa f11]
  exact⟨(pl z),ru _⟩
 rw[ae f11]
 by_cases f12:f=12
 ·rw[aa f12]
  exact⟨(pl z),by show I64 1;decide⟩
 rw[ae f12]
 by_cases f13:f=13
 ·rw[aa f13]
  exact⟨(pl z),i0⟩
 rw[ae f13]
 exact⟨i0,i0⟩
theorem dec_imm (at0:Int):I64 (rG t at0).1.dst.imm/\I64 (rG t at0).1.src.imm:=by
 have hz:zsM t (.ok at0)<=8:=by
  unfold zsM szM
  (repeat' split)<;>decide
 have h:=I9 (t:=t) (f:=(zM t (.ok at0)).2.1) (frm:=(zM t (.ok at0)).2.2.2.2.1) (op:=opM t (.ok at0)) (x:=xM t (.ok at0)) (b:=bM t (.ok at0)) (m:=mM t (.ok at0)) (p:=p9M t (.ok at0)) hz
 unfold rG
 split
 ·exact h
 ·exact⟨(by decide:I64 0),(by decide:I64 0)⟩
end
noncomputable section
theorem iterP {σ α β:Type}{f:(σ->Option α)->σ->Option α}{g:(σ->Option β)->σ->Option β}(I:σ->Prop)(μ:σ->Nat)(R:Option α->Option β->Prop)
  (h:∀x r1 r2,I x->(∀y,I y->μ y<μ x->R (r1 y) (r2 y))->R (f r1 x) (g r2 x)):∀(n:Nat) (x:σ),I x->μ x<n->R (iter n f x) (iter n g x)
 |0,x,_,hm=>ah hm (cN _)
 |n+1,x,hI,hm=>h x (iter n f) (iter n g) hI fun y hy hlt=>iterP I μ R h n y hy (by omega)
theorem iterQ {σ τ α β:Type}{f:(σ->Option α)->σ->Option α}{g:(τ->Option β)->τ->Option β}(I:σ->τ->Prop)(μ:σ->Nat)(R:Option α->Option β->Prop)
  (h:∀x y r1 r2,I x y->(∀a b,I a b->μ a<μ x->R (r1 a) (r2 b))->R (f r1 x) (g r2 y)):∀(n:Nat) (x:σ) (y:τ),I x y->μ x<n->R (iter n f x) (iter n g y)
 |0,x,_,_,hm=>ah hm (cN _)
 |n+1,x,y,hI,hm=>h x y (iter n f) (iter n g) hI fun a b hy hlt=>iterQ I μ R h n a b hy (by omega)
theorem FO {m:List Page}(hm:MemR m){a p:Int}(h:fo m a p 1 0=0):¬fnd m a<0:=by
 have:=pD hm 1 0 h 0 (bV 0) (by omega)
 rwa [show a+((0:Nat):Int)=a by omega]at this
theorem fnd_lo {m:List Page}(hm:MemR m){a:Int}(h:¬fnd m a<0):0<=a/\a<=65535:=by
 rcases qN hm a with h0|⟨i,hi,h0,b1,b2,r0,r1,_⟩
 ·rw[h0]at h;exact ah (by decide) h
 ·exact⟨r0,r1⟩
theorem DZ {m:List Page}(hT:MemT m){a:Int}(ha:I64 a):
  ∃(t:List UInt8) (k:Int),t.length<=15/\iU (((m,()),a,()),())=some ((t,k,()),())/\jA (((m,()),a,()),())=some ((t,k,()),()):=by
 have hm:=hT.r
 have hl:=hT.len
 unfold iU jA
 dsimp only
 have f1:=mu m hm a 4 1 (by decide) (by decide) ha
 have f2:=mp m hm a 4 1 (by decide) ha (by decide) (by decide)
 have f1:cB (((m,()),a,1,4,()),())=_:=f1
 have f2:bY (((m,()),a,1,4,()),())=_:=f2
 rw[lX m (by omega) (by unfold F;omega),hT.ok,af]
 dsimp only
 rw[eu,ap,f1,f2,af,af]
 dsimp only
 by_cases hf:fo m a 4 1 0=0
 rotate_left
 ·rw[aD hf,eF,aV,aV]
  exact⟨[],_,by simp,rfl,rfl⟩
 rw[hf,bK rfl,eu,ap,ap]
 have hr:=fnd_lo hm (FO hm hf)
 refine iterP (fun x=>∃n:Nat,1<=n/\n<=15/\(∀k,k<n->¬fnd m (a+(k:Nat))<0)/\x=((a,(n:Int),()),(m,()),())) (fun x=>15-x.1.2.1.toNat)
  (fun o1 o2=>∃(t:List UInt8) (k:Int),t.length<=15/\o1=some ((t,k,()),())/\o2=some ((t,k,()),())) ?_ F _ ⟨1,by decide,by decide,fun k hk=>by rw[show k=0 by omega,show a+((0:Nat):Int)=a by omega];exact FO hm hf,rfl⟩ (by unfold F;simp)
 rintro _ r1 r2 ⟨n,n1,n2,hok,rfl⟩ hrec
 dsimp only
 have hI:I64 (a+n):=by unfold I64;omega
 have fin:∃(t:List UInt8) (k:Int),t.length<=15/\(bnd (fQ (((m,()),a,(n:Int),()),())) (fun x7=>some ((x7.1,0,()),())))=some ((t,k,()),())/\(bnd (cU (((m,()),a,(n:Int),()),())) (fun x7=>some ((x7.1,(0:Int),()),())))=some ((t,k,()),()):=by
  rw[Kl m hm a n (by omega) ha hok,CG m hm a n (by omega) ha hok]
  exact⟨_,0,by rw[wl];simp;omega,rfl,rfl⟩
 by_cases hn:n<15
 ·have g1:=mu m hm (a+n) 4 1 (by decide) (by decide) hI
  have g2:=mp m hm (a+n) 4 1 (by decide) hI (by decide) (by decide)
  have g1:cB (((m,()),a+n,1,4,()),())=_:=g1
  have g2:bY (((m,()),a+n,1,4,()),())=_:=g2
  rw[kN (show(n:Int)<15 by omega),aV,aV,aW,g1,g2,af,af]
  dsimp only
  simp only[af]
  by_cases hg:fo m (a+n) 4 1 0=0
  ·rw[bK hg,aV,aV,aW]
   refine hrec _ ⟨n+1,by omega,by omega,fun k hk=>?_,rfl⟩ (by dsimp only;omega)
   by_cases hkn:k=n
   ·rw[hkn];exact FO hm hg
   ·exact hok k (by omega)
  ·rw[aD hg,ap,ap]
   exact fin
 ·rw[kJ (show ¬(n:Int)<15 by omega),ap,ap]
  simp only[af,ap]
  exact fin
theorem exM_rip {g:List Int}{rip fl:Int}{m:List Page}{x:Ins}{n z:Nat}(hm:MemT m)(hg:lj g)(hx:ExV x n):I64 (exM g rip fl m x n z).2.1:=by
 have hs:(MS.mk g m 0 []).ok 0:=⟨hm,bV 0,hg⟩
 have hnx:I64 (aL .i64 rip x.len):=aB _
 unfold exM
 dsimp only
 split
 ·exact hnx
 split
 ·exact hnx
 split
 rotate_left
 ·exact hnx
 have h8:(n=31\/n=32\/n=29)->OpV x.src 8:=fun h=>by
  have hsv:=hx.sv
  rwa [show sSz x n=x.size from by unfold sSz;rw[iN,hx.fr.2 (by omega),iD],hx.szs.2.2.1 (by omega)]at hsv
 unfold MS.flow
 by_cases h29:n=29
 ·rw[aa h29];exact hnx
 rw[ae h29]
 by_cases h30:n=30
 ·rw[aa h30];exact hnx
 rw[ae h30]
 by_cases h31:n=31
 ·rw[aa h31];exact(hs.go _ (h8 (by omega))).2
 rw[ae h31]
 by_cases h34:n=34
 ·rw[aa h34];exact hs.po.2.1
 rw[ae h34]
 by_cases h32:n=32
 ·rw[aa h32];exact(hs.go _ (h8 (by omega))).2
 rw[ae h32]
 by_cases h33:n=33
 ·rw[aa h33]
  have hk3:=hx.kd.2.2.2.2.2.2.2.1 h33
  split
  ·unfold MS.go;rw[aa hk3];exact aB _
  ·exact hnx
 rw[ae h33]
 repeat' split
 all_goals exact hnx
theorem Di {o:Opd}{z:Int}(h:ss o z):I64 o.disp:=by
 unfold ss opB uB at h
 unfold I64
 omega
structure StOK (g:List Int)(p f:Int)(m:List Page):Prop where
 mT:MemT m
 gT:lj g
 fT:I64 f
 bT:ct f=true
 pT:I64 p
theorem Hl {g:List Int}{rip fl:Int}{m:List Page}(hS:StOK g rip fl m):
  ∃(g':List Int) (p' f':Int) (m':List Page) (l':List Acc) (k':Int),StOK g' p' f' m'/\(1<=l'.length/\l'.length<=1000)/\
   jL (((g,rip,fl,()),(m,()),()),())=some (((g',p',f',()),(m',()),l',k',()),())/\
   kS (((g,rip,fl,()),(m,()),()),())=some (((g',p',f',()),(),k',()),m',l',()):=by
 obtain⟨t,k,ht,e1,e2⟩:=DZ hS.mT hS.pT
 have hlen:=hS.mT.len
 have hcopy:=tp m (by omega)
 unfold jL kS
 dsimp only
 rw[e1,e2,af,af]
 dsimp only
 by_cases hk:k=0
 rotate_left
 ·rw[aD hk,eF,aV,aV,af,am]
  dsimp only
  rw[show eqI 15 0=false from rfl,ap,af,am]
  dsimp only
  rw[show bm (eqI 15 0)=true from rfl,aV,hcopy,af]
  exact⟨g,rip,fl,m,_,15,hS,by simp,rfl,rfl⟩
 subst hk
 rw[show eqI 0 0=true from rfl,eu,ap,ap,af,am]
 dsimp only
 have E1:=zW (t:=t) (at0:=0) (by omega) (by omega) (by omega)
 have E2:=Fy (t:=t) (at0:=0) (by omega) (by omega) (by omega)
 have hdis:=Ia (t:=t) (at0:=0) (by omega) (by omega)
 have him:=dec_imm (t:=t) 0
 rw[show eqI 0 0=true from rfl,aV,E1,E2,af,af,af,am]
 dsimp only[p5,p18]
 rw[vm]
 generalize rG t 0=D at hdis him|-
 obtain⟨x,c⟩:=D
 dsimp only at hdis him|-
 rcases hdis with ⟨⟨n,n1,n2,hn,hP⟩,hc,_,_⟩|⟨_,hc⟩
 rotate_left
 ·rw[aD hc,eF,aV,aV,hcopy,af]
  exact⟨g,rip,fl,m,_,c,hS,by simp,rfl,rfl⟩
 subst hc
 rw[show eqI 0 0=true from rfl,eu,ap,ap]
 have hPd:=hP
 obtain⟨_,_,_,_,_,_,_,hd,hsr,_⟩:=hPd
 have hV:=ExV_of hn n1 n2 hP ⟨Di hd,him.1,Di hsr,him.2⟩
 obtain⟨z,hz⟩:∃z:Nat,x.size=z:=⟨x.size.toNat,by
  have hs:=hP.2.2.1
  unfold shB at hs
  simp only[ar,aG]at hs
  have:=Hx n n2 n1 _ hs.1
  omega⟩
 obtain⟨x1,ok,fb,fI⟩:=exec_m (rip:=rip) hS.mT hS.gT hS.fT hS.bT hV hz
 have x2:=exec_r (rip:=rip) hS.mT hS.gT hS.fT hS.bT hV hz
 have hp:=exM_rip (rip:=rip) (fl:=fl) (z:=z) hS.mT hS.gT hV
 rw[x1,x2,af,af]
 generalize exM g rip fl m x n z=e at ok fb fI hp
 have ok2:=ok.l
 unfold exR exS
 have hfit:∀a:Acc,dO [a] e.1.l=true:=fun a=>j5 (by simp;omega)
 by_cases hc:e.1.code=0
 ·rw[ae (by simpa using hc),ae (by simpa using hc)]
  dsimp only
  simp only[hfit,aV]
  exact⟨e.1.g,e.2.1,e.2.2,e.1.m,_,0,⟨ok.m,ok.g,fI,fb,hp⟩,by simp[eI];omega,rfl,rfl⟩
 ·rw[aa hc,aa hc]
  dsimp only
  simp only[hfit,aV]
  exact⟨g,rip,fl,m,_,e.1.code,hS,by simp[eI];omega,rfl,rfl⟩
end
abbrev CpT:=List Int×Int×Int×Unit
noncomputable def stI (c:CpT)(m:List Page):CpT×List Page×Int:=match kS ((c,(m,()),()),())with
 |some z=>(z.1.1,z.2.1,z.1.2.2.1)
 |none=>(c,m,0)
noncomputable def mt:Nat->CpT->List Page->CpT×List Page×Int×Int
 |0,c,m=>(c,m,0,0)
 |n+1,c,m=>if(stI c m).2.2=0 then((mt n (stI c m).1 (stI c m).2.1).1,(mt n (stI c m).1 (stI c m).2.1).2.1,(mt n (stI c m).1 (stI c m).2.1).2.2.1+1,(mt n (stI c m).1 (stI c m).2.1).2.2.2)else(c,m,0,(stI c m).2.2)
def Kb (i:Int)(r:CpT×List Page×Int×Int):CpT×List Page×Int×Int:=(r.1,r.2.1,r.2.2.1+i,r.2.2.2)
theorem Du:∀(n:Nat) (c:CpT) (m:List Page),(mt n c m).2.2.2=0->(mt n c m).2.2.1=n
 |0,_,_,_=>rfl
 |n+1,c,m,h=>by
  rw[mt]at h|-
  by_cases e:(stI c m).2.2=0
  ·rw[aa e]at h|-
   have:=Du n _ _ h
   dsimp only at this|-
   omega
  ·rw[ae e]at h
   exact ah h e
theorem G4:∀(n:Nat) (c:CpT) (m:List Page),0<=(mt n c m).2.2.1/\(mt n c m).2.2.1<=n
 |0,_,_=>⟨oz _,oz _⟩
 |n+1,c,m=>by
  rw[mt]
  by_cases e:(stI c m).2.2=0
  ·rw[aa e]
   have:=G4 n (stI c m).1 (stI c m).2.1
   dsimp only
   omega
  ·rw[ae e]
   dsimp only
   omega
theorem Dt:∀(a b:Nat) (c:CpT) (m:List Page),mt (a+b) c m=if(mt a c m).2.2.2=0 then Kb a (mt b (mt a c m).1 (mt a c m).2.1)else mt a c m
 |0,b,c,m=>by rw[eP,mt,aa rfl];simp[Kb]
 |a+1,b,c,m=>by
  rw[show a+1+b=(a+b)+1 by omega,mt,mt]
  by_cases e:(stI c m).2.2=0
  ·rw[aa e,aa e,Dt a b]
   dsimp only
   by_cases h:(mt a (stI c m).1 (stI c m).2.1).2.2.2=0
   ·rw[aa h,aa h]
    unfold Kb
    dsimp only
    rw[show(mt b (mt a (stI c m).1 (stI c m).2.1).1 (mt a (stI c m).1 (stI c m).2.1).2.1).2.2.1+(a:Int)+1=(mt b (mt a (stI c m).1 (stI c m).2.1).1 (mt a (stI c m).1 (stI c m).2.1).2.1).2.2.1+((a+1:Nat):Int)by omega]
   ·rw[ae h,ae h]
  ·rw[ae e,ae e]
   dsimp only
   rw[ae e]
theorem uN {g:List Int}{rip fl:Int}{m:List Page}(hS:StOK g rip fl m)(n:Nat)(hn:n<=500):
  ∃(g':List Int) (p' f':Int) (m':List Page),StOK g' p' f' m'/\(mt n (g,rip,fl,()) m).1=(g',p',f',())/\(mt n (g,rip,fl,()) m).2.1=m'/\
   ko (((g,rip,fl,()),(m,()),(n:Int),()),())=some (((g',p',f',()),(m',()),(mt n (g,rip,fl,()) m).2.2.1,(mt n (g,rip,fl,()) m).2.2.2,()),())/\
   fg (((g,rip,fl,()),(m,()),(n:Int),()),())=some (((g',p',f',()),(),(mt n (g,rip,fl,()) m).2.2.1,(mt n (g,rip,fl,()) m).2.2.2,()),m',()):=by
 have hm:=hS.mT.len
 unfold ko fg
 dsimp only
 rw[G5 hS.fT,HS,af,af]
 dsimp only
 rw[hS.bT,eu,ap,ap,uo m (by omega),lX m (by omega) (by unfold F;omega),af,af]
 dsimp only
 simp only[hS.mT.ok,eu,af,ap]
 rw[ca,bB]
 simp only[aF (show 0<=(n:Int)/\(n:Int)<=500 by omega),eu,af,ap]
 rw[tp m (by omega),af]
 dsimp only
 obtain⟨R,hR⟩:∃R,R=mt n (g,rip,fl,()) m:=⟨_,rfl⟩
 rw[<-hR]
 refine iterQ (fun x y=>∃(g:List Int) (p f:Int) (i:Nat) (m:List Page),StOK g p f m/\i<=n/\R=Kb i (mt (n-i) (g,p,f,()) m)/\x=(((n:Int),(i:Int),()),(g,p,f,()),(m,()),([],0,0,()),(),())/\y=(((n:Int),(n:Int),(i:Int),()),(g,p,f,()),([],0,0,()),(),(),m,())) (fun x=>(x.1.1-x.1.2.1).toNat)
  (fun o1 o2=>∃(g':List Int) (p' f':Int) (m':List Page),StOK g' p' f' m'/\R.1=(g',p',f',())/\R.2.1=m'/\o1=some (((g',p',f',()),(m',()),R.2.2.1,R.2.2.2,()),())/\o2=some (((g',p',f',()),(),R.2.2.1,R.2.2.2,()),m',())) ?_ F _ _
  ⟨g,rip,fl,0,m,hS,by omega,by rw[hR];simp[Kb],rfl,rfl⟩ (by unfold F;dsimp only;omega)
 clear hR
 rintro _ _ r1 r2 ⟨g,p,f,i,m,hS,hi,hE,rfl,rfl⟩ hrec
 have hm':=hS.mT.len
 dsimp only[d5]
 by_cases hlt:i<n
 rotate_left
 ·have:i=n:=by omega
  subst this
  rw[jd,mt]at hE
  unfold Kb at hE
  dsimp only at hE
  rw[Int.zero_add]at hE
  rw[kJ,ap,ap,GQ m (by omega),af,hE]
  exact⟨g,p,f,m,hS,rfl,rfl,rfl,rfl⟩
 obtain⟨g',p',f',m',l',k',ok,hl,e1,e2⟩:=Hl hS
 have hst:stI (g,p,f,()) m=((g',p',f',()),m',k'):=by unfold stI;rw[e2]
 rw[show n-i=(n-(i+1))+1 by omega,mt,hst]at hE
 dsimp only at hE
 rw[kN,aV,aV,e1,e2,af,af]
 dsimp only
 by_cases hk:k'=0
 ·rw[aa hk]at hE
  rw[bK hk,eu,ap,ap,aW]
  refine hrec _ _ ⟨g',p',f',i+1,m',ok,by omega,?_,rfl,rfl⟩ (by dsimp only;omega)
  rw[hE]
  unfold Kb
  dsimp only
  rw[show(mt (n-(i+1)) (g',p',f',()) m').2.2.1+1+(i:Int)=(mt (n-(i+1)) (g',p',f',()) m').2.2.1+((i+1:Nat):Int)by omega]
 ·rw[ae hk]at hE
  unfold Kb at hE
  dsimp only at hE
  rw[Int.zero_add]at hE
  rw[aD hk,eF,aV,aV,GQ m (by omega),af,hE]
  exact⟨g,p,f,m,hS,rfl,rfl,rfl,rfl⟩
structure Src (code:List Int)(k:Int)(s:List Int×(Int×(Int×Unit))):Prop where
 code:s.1=code
 at0:0<=s.2.1
 atk:s.2.1<=k
 sd0:0<=s.2.2.1
 sd1:s.2.2.1<2147483648
def kR (code:List Int):Prop:=(∀b∈code,0<=b/\b<=255)/\code.length<=1048576
theorem Src.mono {code:List Int}{k j:Int}{s:List Int×(Int×(Int×Unit))}(h:Src code k s)(hk:k<=j):Src code j s:=⟨h.code,h.at0,ow h.atk hk,h.sd0,h.sd1⟩
theorem EC {code:List Int}(_hc:kR code):Ret (ip ((code,()),())) fun r=>Src code 0 r.2.1:=by
 unfold ip
 dsimp only
 refine Ret.some ⟨rfl,by simp,by simp,?_,?_⟩
 ·dsimp only;rw[bW,cS];omega
 ·dsimp only;rw[bW,cS];omega
theorem mj {code:List Int}(hc:kR code){k:Int}(hk:k<=4611686018427387904){s:List Int×(Int×(Int×Unit))}(h:Src code k s):
  Ret (bF ((),s,())) fun r=>0<=r.1/\r.1<=255/\Src code (k+1) r.2.1:=by
 obtain⟨c,at_,sd,_⟩:=s
 obtain⟨h1,h2,h3,h4,h5⟩:=h
 dsimp only at h1 h2 h3 h4 h5
 subst h1
 unfold bF
 dsimp only
 rw[aW]
 refine Ret.br (fun hl=>?_) fun hl=>?_
 ·rw[zZ,bW]at hl
  have e1:bo .i64 (at_+1) 1=at_:=by rw[bN];omega
  rw[e1]
  obtain⟨n,rfl⟩:=bU h2
  have hn:n<c.length:=by omega
  have hb:=hc.1 _ (fG hn)
  refine Ret.need (cQ h2 (by rw[bW];omega)) (Ret.need (cQ h2 (by rw[bW];omega)) ?_)
  rw[le hn,qi,dh,aW (a:=sd*31),aW,cS]
  exact Ret.some ⟨hb.1,hb.2,rfl,by dsimp only;omega,by dsimp only;omega,by dsimp only;omega,by dsimp only;omega⟩
 ·refine Ret.br (fun hl2=>Ret.some ⟨by dsimp only;omega,by dsimp only;omega,rfl,by dsimp only;omega,by dsimp only;omega,h4,h5⟩) fun hl2=>?_
  rw[dh,aW,cS (a:=sd*1103515245+12345),ig (by omega) (by omega) (by omega),cS]
  exact Ret.some ⟨by dsimp only;omega,by dsimp only;omega,rfl,by dsimp only;omega,by dsimp only;omega,by dsimp only;omega,by dsimp only;omega⟩
theorem nH {code:List Int}(hc:kR code){k:Int}(hk:k<=4611686018427387000){s:List Int×(Int×(Int×Unit))}(h:Src code k s)(n:Int)(hn:1<=n):
  Ret (ak ((n,()),s,())) fun r=>0<=r.1/\r.1<n/\Src code (k+3) r.2.1:=by
 unfold ak
 dsimp only
 have hs:∀ {j} {s':List Int×(Int×(Int×Unit))},Src code j s'->(s.1,s'.2)=s':=fun h'=>by rw[h.code,<-h'.code]
 refine Ret.br (fun h1=>?_) fun h1=>Ret.br (fun h2=>?_) fun h2=>?_
 ·rw[zZ]at h1
  exact Ret.some ⟨by dsimp only;omega,by dsimp only;omega,h.mono (by omega)⟩
 ·refine Ret.bnd (mj hc (by omega) h) fun r hr=>?_
  obtain⟨a,b,c⟩:=hr
  refine Ret.need (by rw[aD (by rw[le_nf]at h1;omega)];rfl) ?_
  rw[le_nf]at h1
  rw[cS a]
  have e1:=eg r.1 (show n≠0 by omega)
  have e2:=eZ r.1 (show 0<n by omega)
  refine Ret.some ⟨e1,e2,?_⟩
  dsimp only;rw[hs c];exact c.mono (by omega)
 ·refine Ret.bnd (mj hc (by omega) h) fun r hr=>?_
  obtain⟨a,b,c⟩:=hr
  rw[hs c]
  refine Ret.bnd (mj hc (by omega) c) fun r2 hr2=>?_
  obtain⟨a2,b2,c2⟩:=hr2
  rw[hs c2]
  refine Ret.bnd (mj hc (by omega) c2) fun r3 hr3=>?_
  obtain⟨a3,b3,c3⟩:=hr3
  rw[le_nf]at h1
  refine Ret.need (by rw[aD];rfl) ?_
  rw[dh,dh,aW (a:=r.1*65536),aW,cS]
  have e1:=eg (r.1*65536+r2.1*256+r3.1) (show n≠0 by omega)
  have e2:=eZ (r.1*65536+r2.1*256+r3.1) (show 0<n by omega)
  refine Ret.some ⟨e1,e2,?_⟩
  dsimp only;rw[hs c3];exact c3.mono (by omega)
abbrev uT:=List Int×(Int×(Int×Unit))
theorem Src.put {code:List Int}{k j:Int}{s s':List Int×(Int×(Int×Unit))}(h:Src code k s)(h':Src code j s'):(s.1,s'.2)=s':=by rw[h.code,<-h'.code]
theorem uM {code:List Int}(hc:kR code){k:Int}(hk:k<=4611686018427387000){s:List Int×(Int×(Int×Unit))}(h:Src code k s):
  Ret (cf ((),s,())) fun r=>0<=r.1/\r.1<4294967296/\Src code (k+4) r.2.1:=by
 unfold cf
 dsimp only
 refine Ret.bnd (mj hc (by omega) h) fun r1 hr1=>?_
 obtain⟨a1,b1,c1⟩:=hr1
 rw[h.put c1]
 refine Ret.bnd (mj hc (by omega) c1) fun r2 hr2=>?_
 obtain⟨a2,b2,c2⟩:=hr2
 rw[h.put c2]
 refine Ret.bnd (mj hc (by omega) c2) fun r3 hr3=>?_
 obtain⟨a3,b3,c3⟩:=hr3
 rw[h.put c3]
 refine Ret.bnd (mj hc (by omega) c3) fun r4 hr4=>?_
 obtain⟨a4,b4,c4⟩:=hr4
 rw[h.put c4,dh,dh,dh,aW (a:=r1.1),aW (a:=r1.1+256*r2.1),aW]
 exact Ret.some ⟨by dsimp only;omega,by dsimp only;omega,c4.mono (by omega)⟩
theorem mo {P:Int->Prop}{xs:List Int}{i:Int}{d:Int}(h0:0<=i)(h1:i<(xs.length:Int))(h:∀x∈xs,P x):P (bk xs i d):=by
 obtain⟨hi,e⟩:=It (d:=d) h0 h1
 rw[e];exact h _ (fG hi)
theorem Ke {x:Int}(h:DY .u x):0<=x/\x<=255:=by
 obtain⟨⟨n,e,w⟩,_⟩:=h
 cases e
 simp only[Lit.wf,ar,aG]at w
 simp only[IntKind.min,IntKind.max,IntKind.signed,IntKind.bits]at w
 simp at w
 omega
theorem fJ {code:List Int}(hc:kR code){k:Int}(hk:k<=4611686018427387000){s s0:List Int×(Int×(Int×Unit))}(h0:s0.1=code)(h:Src code k s)(n:Int)(hn:1<=n):
  Ret (ak ((n,()),s,())) fun r=>0<=r.1/\r.1<n/\Src code (k+3) (s0.1,r.2.1.2):=
 (nH hc hk h n hn).mono fun r hr=>⟨hr.1,hr.2.1,by have:=hr.2.2;rw[show(s0.1,r.2.1.2)=r.2.1 from by rw[h0,<-this.code]];exact this⟩
theorem wJ {code:List Int}(hc:kR code){k:Int}(hk:k<=4611686018427387000){s:List Int×(Int×(Int×Unit))}(h:Src code k s)(n:Int)(hn:1<=n):
  Ret (aE ((n,()),s,())) fun r=>Src code (k+3) r.2.1:=by
 unfold aE
 refine Ret.bnd (nH hc hk h n hn) fun r hr=>?_
 refine Ret.some ?_
 dsimp only
 have:=hr.2.2
 rwa [show(s.1,r.2.1.2)=r.2.1 from by rw[h.code,<-this.code]]
theorem Dz {code:List Int}(hc:kR code){k:Int}(hk:k<=4611686018427000000){s:List Int×(Int×(Int×Unit))}(h:Src code k s)(n:Nat)(hn:n<=100000):
  Ret (dp (((n:Int),()),s,())) fun r=>r.1.length=n/\Src code (k+n) r.2.1:=by
 unfold dp
 dsimp only
 refine Ret.iter (fun x=>x.1.1=(n:Int)/\∃j:Nat,j<=n/\x.1.2.1=(j:Int)/\x.2.2.1.length=j/\Src code (k+j) x.2.1) (fun x=>n-x.1.2.1.toNat) ?_ F _ ⟨rfl,0,by omega,by simp,by simp,by simpa using h⟩ (by unfold F;dsimp only;omega)
 rintro⟨⟨m,i,_⟩,s',u,_⟩ rec ⟨h1,j,hj,h2,h3,h4⟩ hrec
 dsimp only at h1 h2 h3 h4 hrec|-
 subst h1 h2
 refine Ret.br (fun hl=>?_) fun hl=>?_
 ·rw[xe]at hl
  refine Ret.bnd (mj hc (by omega) h4) fun r hr=>?_
  obtain⟨a,b,c⟩:=hr
  rw[show(s'.1,r.2.1.2)=r.2.1 from by rw[h4.code,<-c.code]]
  refine Ret.need (j5 (by simp;omega)) ?_
  rw[aW]
  exact hrec _ ⟨rfl,j+1,by omega,by dsimp only;omega,by dsimp only;simp[eI,h3],by dsimp only;exact c.mono (by omega)⟩ (by dsimp only;omega)
 ·rw[lt_nf]at hl
  have:j=n:=by omega
  subst this
  exact Ret.some ⟨by dsimp only;simp[l6,h3],h4⟩
def PermD (m:List Page):Prop:=∀i,i<m.length->(pgN m i).perm=1\/(pgN m i).perm=3\/(pgN m i).perm=4\/(pgN m i).perm=5
theorem odd_ret {code:List Int}(hc:kR code){k:Int}(hk:k<=4611686018427387000){s:List Int×(Int×(Int×Unit))}(h:Src code k s):
  Ret (gK ((),s,())) fun r=>I64 r.1/\Src code (k+3) r.2.1:=by
 unfold gK
 dsimp only
 refine Ret.bnd (nH hc hk h 15 (by decide)) fun r hr=>?_
 obtain⟨a,b,c⟩:=hr
 rw[h.put c]
 refine Ret.need (cQ a b) (Ret.some ⟨?_,c⟩)
 dsimp only
 refine mo a (by simpa using b) fun x hx=>?_
 simp only[aN,gg,or_false]at hx
 unfold I64
 omega
theorem i64_of {n:Int}(h: -9223372036854775808<=n)(k:n<9223372036854775808):I64 n:=⟨h,k⟩
theorem JZ {code:List Int}(hc:kR code){k:Int}(hk:k<=4611686018427386000){s:List Int×(Int×(Int×Unit))}(h:Src code k s):
  Ret (dq ((),s,())) fun r=>I64 r.1/\Src code (k+11) r.2.1:=by
 unfold dq
 dsimp only
 refine Ret.bnd (nH hc (by omega) h 8 (by decide)) fun r hr=>?_
 obtain⟨a,b,c⟩:=hr
 rw[h.put c]
 refine Ret.br (fun _=>?_) fun _=>Ret.br (fun _=>?_) fun _=>Ret.br (fun _=>?_) fun _=>Ret.br (fun _=>?_) fun _=>Ret.br (fun _=>?_) fun _=>Ret.br (fun _=>?_) fun _=>?_
 ·refine Ret.bnd (uM hc (by omega) c) fun r1 hr1=>?_
  obtain⟨a1,b1,c1⟩:=hr1
  rw[h.put c1]
  refine Ret.bnd (uM hc (by omega) c1) fun r2 hr2=>?_
  obtain⟨a2,b2,c2⟩:=hr2
  rw[h.put c2]
  exact Ret.some ⟨aB _,c2.mono (by omega)⟩
 ·refine Ret.bnd (odd_ret hc (by omega) c) fun r1 hr1=>?_
  obtain⟨a1,c1⟩:=hr1
  rw[h.put c1]
  exact Ret.some ⟨a1,c1.mono (by omega)⟩
 ·refine Ret.bnd (nH hc (by omega) c 300 (by decide)) fun r1 hr1=>?_
  obtain⟨a1,b1,c1⟩:=hr1
  rw[h.put c1]
  exact Ret.some ⟨aB _,c1.mono (by omega)⟩
 ·refine Ret.bnd (uM hc (by omega) c) fun r1 hr1=>?_
  obtain⟨a1,b1,c1⟩:=hr1
  rw[h.put c1]
  exact Ret.some ⟨aB _,c1.mono (by omega)⟩
 ·refine Ret.bnd (nH hc (by omega) c 64 (by decide)) fun r1 hr1=>?_
  obtain⟨a1,b1,c1⟩:=hr1
  rw[h.put c1]
  rw[dl]
  exact Ret.need (gY a1) (Ret.some ⟨aB _,c1.mono (by omega)⟩)
 ·refine Ret.bnd (nH hc (by omega) c 63 (by decide)) fun r1 hr1=>?_
  obtain⟨a1,b1,c1⟩:=hr1
  rw[h.put c1]
  rw[dl]
  exact Ret.need (gY a1) (Ret.some ⟨aB _,c1.mono (by omega)⟩)
 ·refine Ret.bnd (nH hc (by omega) c 300 (by decide)) fun r1 hr1=>?_
  obtain⟨a1,b1,c1⟩:=hr1
  rw[h.put c1]
  exact Ret.some ⟨i64_of (by dsimp only;omega) (by dsimp only;omega),c1.mono (by omega)⟩
def kX:List (Int×Int):=[(4096,3),(16640,4),(16896,5),(17152,5),(17408,3),(17664,3),(17920,1),(20224,3)]
structure Drawn (n:Nat)(ps:List Page):Prop where
 sub:(ps.map fun p=>(p.base,p.perm)).Sublist (kX.take n)
 dat:∀p∈ps,p.data.length=256
theorem Drawn.memT {ps:List Page}(h:Drawn 8 ps):MemT ps/\PermD ps:=by
 have hs:(ps.map fun p=>(p.base,p.perm)).Sublist kX:=h.sub
 have hl:ps.length<=8:=by have:=hs.length_le;simpa[kX]using this
 have hmem:∀i,i<ps.length->((pgN ps i).base,(pgN ps i).perm)∈kX:=fun i hi=>hs.subset (gR.2 ⟨_,by rw[pe hi];exact fG hi,rfl⟩)
 have hp:kX.Pairwise fun a b=>a.1<b.1:=by unfold kX;simp
 have hp':=hp.sublist hs
 rw[List.pairwise_map]at hp'
 refine⟨⟨by omega,fun i hi=>?_,fun i hi=>?_⟩,fun i hi=>?_⟩
 ·have:=hmem i hi
  have hd:=h.dat (pgN ps i) (by rw[pe hi];exact fG hi)
  simp only[kX,aN,gg,or_false,Prod.mk.injEq]at this
  omega
 ·rw[pe hi,pe (by omega:i<ps.length)]
  exact List.pairwise_iff_getElem.1 hp' i (i+1) (by omega) hi (by omega)
 ·have:=hmem i hi
  simp only[kX,aN,gg,or_false,Prod.mk.injEq]at this
  omega
def m7:List Page:=kX.map fun p=>Page.mk p.1 p.2 []
theorem Drawn.skip {n:Nat}{ps:List Page}(h:Drawn n ps):Drawn (n+1) ps:=
 ⟨h.sub.trans (List.take_sublist_take_left (kV n)),h.dat⟩
theorem Drawn.more {n:Nat}{ps:List Page}(h:Drawn n ps)(hn:n<8)(d:List UInt8)(hd:d.length=256):Drawn (n+1) (ps++[Page.mk (pgN m7 n).base (pgN m7 n).perm d]):=by
 refine⟨?_,fun p hp=>?_⟩
 ·have hn':n<kX.length:=hn
  rw[iy,<-List.take_append_getElem hn']
  refine h.sub.append ?_
  have:pgN m7 n=Page.mk kX[n].1 kX[n].2 []:=by rw[pe (by simp[m7];exact hn')];simp[m7]
  rw[this]
  exact List.Sublist.refl _
 ·rcases jc.1 hp with hp|hp
  ·exact h.dat p hp
  ·rw[cx]at hp;subst hp;exact hd
theorem Src.at {code:List Int}{k:Int}{s s0:uT}(h0:s0.1=code)(h:Src code k s):Src code k (s0.1,s.2):=by
 rw[show((s0.1,s.2):uT)=s from by rw[h0,<-h.code]];exact h
theorem kE {code:List Int}(hc:kR code){k:Int}(hk:k<=4611686018427387000){s s0:uT}(h0:s0.1=code)(h:Src code k s)(n:Int)(hn:1<=n):
  Ret (aE ((n,()),s,())) fun r=>Src code (k+3) (s0.1,r.2.1.2):=(wJ hc hk h n hn).mono fun _ hr=>hr.at h0
theorem KN {code:List Int}(hc:kR code){k:Int}(hk:k<=4611686018427387000){s s0:uT}(h0:s0.1=code)(h:Src code k s):
  Ret (cf ((),s,())) fun r=>(0<=r.1/\r.1<4294967296)/\Src code (k+4) (s0.1,r.2.1.2):=(uM hc hk h).mono fun _ hr=>⟨⟨hr.1,hr.2.1⟩,hr.2.2.at h0⟩
theorem HG {code:List Int}(hc:kR code){k:Int}(hk:k<=4611686018427386000){s s0:uT}(h0:s0.1=code)(h:Src code k s):
  Ret (dq ((),s,())) fun r=>I64 r.1/\Src code (k+11) (s0.1,r.2.1.2):=(JZ hc hk h).mono fun _ hr=>⟨hr.1,hr.2.at h0⟩
theorem KI {code:List Int}(hc:kR code){k:Int}(hk:k<=4611686018427386000){s s0:uT}(h0:s0.1=code)(h:Src code k s):
  Ret (dX ((),s,())) fun r=>(r.1=1\/r.1=2\/r.1=4\/r.1=8)/\Src code (k+3) (s0.1,r.2.1.2):=by
 unfold dX
 dsimp only
 refine Ret.bnd (fJ hc (by omega) h0 h 4 (by decide)) fun r ⟨a,b,c⟩=>?_
 refine Ret.need (cQ a b) (Ret.some ⟨?_,c⟩)
 dsimp only
 exact mo (P:=fun x=>x=1\/x=2\/x=4\/x=8) a (by simpa using b) (by simp)
abbrev OpT:=Int×(Int×(Int×(Int×(Int×(Int×(Int×Unit))))))
theorem ne_m1 {a:Int}(h:0<=a):a≠ -1:=by omega
def memT (o:OpT):Prop:=uB o.1 o.2.1 o.2.2.1 o.2.2.2.1 o.2.2.2.2.1 o.2.2.2.2.2.1 o.2.2.2.2.2.2.1
theorem GC {code:List Int}(hc:kR code){k:Int}(hk:k<=4611686018427385900){s s0:uT}(h0:s0.1=code)(h:Src code k s):
  Ret (cA ((),s,())) fun r=>memT r.1/\Src code (k+40) (s0.1,r.2.1.2):=by
 unfold cA
 dsimp only
 have hs:=h.code
 refine Ret.bnd (fJ hc (by omega) hs h 16 (by decide)) fun r2 ⟨a2,b2,c2⟩=>?_
 refine Ret.bnd (fJ hc (by omega) hs c2 256 (by decide)) fun r3 ⟨a3,b3,c3⟩=>?_
 refine Ret.bnd (KN hc (by omega) hs c3) fun r4 ⟨⟨a4,b4⟩,c4⟩=>?_
 refine Ret.bnd (fJ hc (by omega) hs c4 40 (by decide)) fun r5 ⟨a5,b5,c5⟩=>?_
 refine Ret.bnd (fJ hc (by omega) hs c5 6 (by decide)) fun r6 ⟨a6,b6,c6⟩=>?_
 refine Ret.need (cQ a6 b6) ?_
 rw[bN,bN,dh]
 have hd:=mo (P:=fun x=> -2147483648<=x/\x<=2147483647) (xs:=[0,r3.1-128,r4.1-2147483648,8*r5.1,-129,128]) (d:=aJ .i) a6 b6 (by simp;omega)
 generalize bk [0,r3.1-128,r4.1-2147483648,8*r5.1,-129,128] r6.1 (aJ .i)=D at hd|-
 refine Ret.bnd (fJ hc (by omega) hs c6 6 (by decide)) fun r7 ⟨a7,b7,c7⟩=>?_
 refine Ret.br (fun _=>Ret.some ⟨?_,(c7.mono (by omega)).at h0⟩) fun _=>?_
 ·unfold memT uB;dsimp only;omega
 refine Ret.bnd (Q:=fun y=>∃(b:Int) (s':uT),y=Sum.inl ((),s',(0,0,0,0,0,0,0,()),(2,0,b,-1,1,D,0,()),())/\ -1<=b/\b<=15/\Src code (k+30) s') ?_ ?_
 ·refine Ret.br (fun _=>Ret.some ⟨_,_,rfl,by decide,by decide,c7.mono (by omega)⟩) fun _=>?_
  refine Ret.bnd (Q:=fun y=>∃(b:Int) (s':uT),y=Sum.inl ((),s',(0,0,0,0,0,0,0,()),(2,0,b,-1,1,D,0,()),())/\ -1<=b/\b<=15/\Src code (k+30) s') ?_ (by rintro _ ⟨b,s',rfl,h1,h2,h3⟩;rw[am];exact Ret.some ⟨b,s',rfl,h1,h2,h3⟩)
  refine Ret.br (fun _=>?_) fun _=>Ret.some ⟨_,_,rfl,by omega,by omega,c7.mono (by omega)⟩
  refine Ret.bnd (fJ hc (by omega) hs c7 4 (by decide)) fun r8 ⟨a8,b8,c8⟩=>?_
  refine Ret.need (cQ a8 b8) ?_
  have hb:=mo (P:=fun x=> -1<=x/\x<=15) (xs:=[4,5,12,13]) (d:=aJ .i) a8 b8 (by simp)
  exact Ret.some ⟨_,_,rfl,hb.1,hb.2,c8.mono (by omega)⟩
 rintro _ ⟨b,s',rfl,b0,b1,cs⟩
 rw[am]
 dsimp only
 refine Ret.bnd (kE hc (by omega) cs.code cs 2 (by decide)) fun r13 c13=>Ret.br (fun _=>?_) fun _=>Ret.some ⟨?_,(c13.mono (by omega)).at h0⟩
 ·refine Ret.bnd (fJ hc (by omega) cs.code c13 11 (by decide)) fun r14 ⟨a14,b14,c14⟩=>?_
  refine Ret.need (cQ a14 b14) ?_
  refine Ret.bnd (KI hc (by omega) cs.code c14) fun r15 ⟨a15,c15⟩=>Ret.some ⟨?_,(c15.mono (by omega)).at h0⟩
  obtain⟨i0,i1,i2⟩:=mo (P:=fun x=>0<=x/\x<=15/\x≠4) (xs:=[0,1,2,3,5,6,7,8,12,13,15]) (d:=aJ .i) a14 b14 (by simp)
  refine⟨rfl,rfl,rfl,b0,(by show b<=16;omega),?_,i1,i2,?_,.inl ?_,hd.1,hd.2⟩
  ·exact ow (by decide) i0
  ·rcases a15 with h|h|h|h
   ·exact .inl h
   ·exact .inr ⟨ne_m1 i0,.inl h⟩
   ·exact .inr ⟨ne_m1 i0,.inr (.inl h)⟩
   ·exact .inr ⟨ne_m1 i0,.inr (.inr h)⟩
  ·show b≠16;omega
 ·unfold memT uB;dsimp only;omega
def regT (z:Int)(o:OpT):Prop:=o.1=1/\o.2.2.1=0/\o.2.2.2.1=0/\o.2.2.2.2.1=0/\o.2.2.2.2.2.1=0/\o.2.2.2.2.2.2.1=0/\sE o.2.1 z
theorem pY {code:List Int}(hc:kR code){k:Int}(hk:k<=4611686018427386000){s s0:uT}(h0:s0.1=code)(h:Src code k s)(z:Int):
  Ret (bb ((z,()),s,())) fun r=>regT z r.1/\Src code (k+9) (s0.1,r.2.1.2):=by
 unfold bb
 dsimp only
 have hs:=h.code
 refine Ret.bnd (fJ hc (by omega) hs h 16 (by decide)) fun r2 ⟨a2,b2,c2⟩=>?_
 refine Ret.br (fun hz=>?_) fun _=>?_
 ·rw[lJ]at hz
  refine Ret.bnd (kE hc (by omega) hs c2 5 (by decide)) fun r3 c3=>?_
  refine Ret.bnd (Q:=fun y=>∃(b:Int) (s':uT),y=Sum.inl ((b,()),s',(0,0,0,0,0,0,0,()),())/\0<=b/\b<=19/\Src code (k+9) s') ?_ ?_
  ·refine Ret.br (fun _=>?_) fun _=>Ret.some ⟨_,_,rfl,by omega,by omega,c3.mono (by omega)⟩
   refine Ret.bnd (fJ hc (by omega) hs c3 4 (by decide)) fun r4 ⟨a4,b4,c4⟩=>?_
   rw[aW]
   exact Ret.some ⟨_,_,rfl,by omega,by omega,c4.mono (by omega)⟩
  ·rintro _ ⟨b,s',rfl,b0,b1,cs⟩
   rw[am]
   exact Ret.some ⟨by unfold regT sE;dsimp only;omega,cs.at h0⟩
 ·rw[am]
  exact Ret.some ⟨by unfold regT sE;dsimp only;omega,(c2.mono (by omega)).at h0⟩
def rmT (z:Int)(o:OpT):Prop:=regT z o\/memT o
theorem pZ {code:List Int}(hc:kR code){k:Int}(hk:k<=4611686018427385000){s s0:uT}(h0:s0.1=code)(h:Src code k s)(z:Int):
  Ret (aT ((z,()),s,())) fun r=>rmT z r.1/\Src code (k+43) (s0.1,r.2.1.2):=by
 unfold aT
 dsimp only
 have hs:=h.code
 refine Ret.bnd (kE hc (by omega) hs h 2 (by decide)) fun r2 c2=>?_
 refine Ret.br (fun _=>?_) fun _=>?_
 ·refine Ret.bnd (GC hc (by omega) hs c2) fun r3 ⟨a3,c3⟩=>Ret.some ⟨.inr a3,(c3.mono (by omega)).at h0⟩
 ·refine Ret.bnd (pY hc (by omega) hs c2 z) fun r3 ⟨a3,c3⟩=>Ret.some ⟨.inl a3,(c3.mono (by omega)).at h0⟩
theorem Bt {code:List Int}(hc:kR code){k:Int}(hk:k<=4611686018427385000){s s0:uT}(h0:s0.1=code)(h:Src code k s){z:Int}(hz:1<=z):
  Ret (cl ((z,()),s,())) fun r=>I64 r.1.2.2.2.2.2.2.1/\Src code (k+13) (s0.1,r.2.1.2):=by
 unfold cl
 dsimp only
 have hs:=h.code
 refine Ret.bnd (fJ hc (by omega) hs h 256 (by decide)) fun r2 ⟨a2,b2,c2⟩=>?_
 refine Ret.bnd (KN hc (by omega) hs c2) fun r3 ⟨_,c3⟩=>?_
 refine Ret.bnd (fJ hc (by omega) hs c3 65536 (by decide)) fun r4 ⟨a4,b4,c4⟩=>?_
 refine Ret.bnd (fJ hc (by omega) hs c4 7 (by decide)) fun r5 ⟨a5,b5,c5⟩=>?_
 have hm:1<=jp z 4/\jp z 4<=4:=by unfold jp;split<;>omega
 refine Ret.need (cQ a5 b5) (Ret.bnd (Ret.of_eq (jq _ _ hm.1 (by omega)) rfl) fun r6 hr6=>?_)
 subst hr6
 exact Ret.some ⟨jv _ (by omega) _,(c5.mono (by omega)).at h0⟩
theorem Ret.left {α γ β:Type}{o:Option (Sum α γ)}{f:Sum α γ->Option β}{R:β->Prop}(Q:α->Prop)(h:Ret o (fun z=>ba z Q fun _=>False))(k:∀x,Q x->Ret (f (.inl x)) R):Ret (bnd o f) R:=by
 obtain⟨z,rfl,hz⟩:=h
 cases z with
 |inl x=>exact k x hz
 |inr x=>exact hz.elim
theorem Ret.any {α β:Type}{o:Option α}{f:α->Option β}{R:β->Prop}(h:Ret o fun _=>True)(k:∀x,Ret (f x) R):Ret (Go.Den.bnd o f) R:=Ret.bnd h fun x _=>k x
theorem lh {z:Int}{o:OpT}(h:regT z o):I64 o.2.2.2.2.2.2.1:=by rw[h.2.2.2.2.2.1];unfold I64;omega
theorem C8 {o:OpT}(h:memT o):I64 o.2.2.2.2.2.2.1:=by rw[h.2.2.1];unfold I64;omega
theorem kM {z:Int}{o:OpT}(h:rmT z o):I64 o.2.2.2.2.2.2.1:=by
 rcases h with h|h
 ·exact lh h
 ·exact C8 h
abbrev InT:=Int×(Int×(Int×(Int×(Int×(Int×(Int×(Int×(Int×(Int×(Int×(Int×(Int×(Int×(Int×(Int×(Int×(Int×(Int×Unit))))))))))))))))))
def J {A R:Type}(code:List Int)(k:Int)(z:A×(uT×(InT×R))):Prop:=Src code k z.2.1/\I64 (p10 z.2.2.1)/\I64 (p17 z.2.2.1)
def J2 {A R:Type}(code:List Int)(k:Int)(z:A×(uT×(R×(InT×Unit)))):Prop:=Src code k z.2.1/\I64 (p10 z.2.2.2.1)/\I64 (p17 z.2.2.2.1)
def immI (x:Ins):Prop:=I64 x.dst.imm/\I64 x.src.imm
theorem other_r {code:List Int}(hc:kR code){k:Int}(hk:k<=4611686018427380000){s s0:uT}(h0:s0.1=code)(h:Src code k s){x:Ins}(hx:immI x)(more:Int):
  Ret (fC ((x,more,()),s,())) fun r=>immI r.1/\Src code (k+150) (s0.1,r.2.1.2):=by
 unfold fC
 dsimp only
 refine Ret.left (J code k) ?_ ?_
 ·refine Ret.br (fun _=>Ret.some ⟨h,hx⟩) fun _=>?_
  refine Ret.left (J code k) ?_ fun _ hz=>Ret.some hz
  refine Ret.br (fun _=>Ret.some ⟨h,hx⟩) fun _=>?_
  refine Ret.left (J code k) ?_ fun _ hz=>Ret.some hz
  exact Ret.br (fun _=>Ret.some ⟨h,hx⟩) fun _=>Ret.some ⟨h,hx⟩
 rintro z ⟨cs,hi⟩
 rw[am]
 refine Ret.br (fun _=>?_) fun _=>?_
 ·refine Ret.bnd (pY hc (by omega) cs.code cs _) fun r8 ⟨a8,c8⟩=>?_
  refine Ret.left (J code (k+12)) (Ret.br (fun _=>Ret.bnd (fJ hc (by omega) cs.code c8 16 (by decide)) fun r9 ⟨_,_,c9⟩=>Ret.some ⟨c9.mono (by omega),lh a8,hi.2⟩) fun _=>Ret.some ⟨c8.mono (by omega),lh a8,hi.2⟩) ?_
  rintro z ⟨cs,hi⟩
  rw[am]
  refine Ret.any (Ret.br (fun _=>Ret.some trivial) fun _=>Ret.some trivial) fun x12=>?_
  refine Ret.left (J code (k+15)) (Ret.br (fun _=>?_) fun _=>Ret.some ⟨cs.mono (by omega),hi⟩) ?_
  ·refine Ret.bnd (fJ hc (by omega) cs.code cs 3 (by decide)) fun r13 ⟨a13,b13,c13⟩=>?_
   refine Ret.need (cQ a13 b13) ?_
   refine Ret.any (Ret.br (fun _=>Ret.some trivial) fun _=>Ret.any (Ret.br (fun _=>Ret.some trivial) fun _=>Ret.some trivial) fun _=>Ret.some trivial) fun x15=>?_
   exact Ret.left (J code (k+15)) (Ret.br (fun _=>Ret.some ⟨c13.mono (by omega),hi⟩) fun _=>Ret.some ⟨c13.mono (by omega),hi⟩) fun _ hz=>Ret.some hz
  rintro z ⟨cs,hi⟩
  rw[am]
  refine Ret.any (show Ret (gn _) _ from Ret.br (fun _=>Ret.some trivial) fun _=>Ret.some trivial) fun x20=>?_
  refine Ret.bnd (pZ hc (by omega) cs.code cs x20.1) fun r21 ⟨a21,c21⟩=>?_
  exact Ret.some ⟨⟨hi.1,kM a21⟩,(c21.mono (by omega)).at h0⟩
 refine Ret.br (fun _=>?_) fun _=>?_
 ·refine Ret.bnd (pY hc (by omega) cs.code cs _) fun r8 ⟨a8,c8⟩=>?_
  refine Ret.bnd (GC hc (by omega) cs.code c8) fun r9 ⟨a9,c9⟩=>?_
  exact Ret.some ⟨⟨lh a8,C8 a9⟩,(c9.mono (by omega)).at h0⟩
 refine Ret.left (J code k) ?_ ?_
 ·refine Ret.br (fun _=>Ret.some ⟨cs,hi⟩) fun _=>?_
  refine Ret.left (J code k) ?_ fun _ hz=>Ret.some hz
  exact Ret.br (fun _=>Ret.some ⟨cs,hi⟩) fun _=>Ret.some ⟨cs,hi⟩
 rintro z ⟨cs,hi⟩
 rw[am]
 refine Ret.br (fun _=>?_) fun _=>?_
 ·refine Ret.bnd (pZ hc (by omega) cs.code cs _) fun r8 ⟨a8,c8⟩=>?_
  refine Ret.bnd (kE hc (by omega) cs.code c8 2 (by decide)) fun r9 c9=>?_
  refine Ret.br (fun _=>?_) fun _=>Ret.some ⟨⟨hi.1,kM a8⟩,(c9.mono (by omega)).at h0⟩
  refine Ret.bnd (Bt hc (by omega) cs.code c9 (by decide)) fun r10 ⟨a10,c10⟩=>?_
  exact Ret.some ⟨⟨hi.1,a10⟩,(c10.mono (by omega)).at h0⟩
 refine Ret.br (fun _=>?_) fun _=>Ret.br (fun _=>?_) fun _=>Ret.br (fun _=>?_) fun _=>?_
 ·refine Ret.bnd (pZ hc (by omega) cs.code cs _) fun r8 ⟨a8,c8⟩=>?_
  exact Ret.some ⟨⟨kM a8,hi.2⟩,(c8.mono (by omega)).at h0⟩
 ·refine Ret.bnd (fJ hc (by omega) cs.code cs 16 (by decide)) fun r9 ⟨_,_,c9⟩=>?_
  refine Ret.bnd (Bt hc (by omega) cs.code c9 (by decide)) fun r10 ⟨a10,c10⟩=>?_
  exact Ret.some ⟨⟨hi.1,a10⟩,(c10.mono (by omega)).at h0⟩
 ·refine Ret.bnd (fJ hc (by omega) cs.code cs 16 (by decide)) fun r9 ⟨_,_,c9⟩=>?_
  refine Ret.bnd (pZ hc (by omega) cs.code c9 _) fun r10 ⟨a10,c10⟩=>?_
  exact Ret.some ⟨⟨kM a10,hi.2⟩,(c10.mono (by omega)).at h0⟩
 refine Ret.left (J code k) (Ret.br (fun _=>Ret.some ⟨cs,hi⟩) fun _=>Ret.some ⟨cs,hi⟩) ?_
 rintro z ⟨cs,hi⟩
 rw[am]
 refine Ret.br (fun _=>Ret.some ⟨hi,(cs.mono (by omega)).at h0⟩) fun _=>?_
 refine Ret.left (J code k) (Ret.br (fun _=>Ret.some ⟨cs,hi⟩) fun _=>Ret.some ⟨cs,hi⟩) ?_
 rintro z ⟨cs,hi⟩
 rw[am]
 refine Ret.br (fun _=>Ret.some ⟨hi,(cs.mono (by omega)).at h0⟩) fun _=>Ret.br (fun _=>?_) fun _=>Ret.some ⟨hi,(cs.mono (by omega)).at h0⟩
 refine Ret.bnd (fJ hc (by omega) cs.code cs 256 (by decide)) fun r9 ⟨a9,b9,c9⟩=>?_
 exact Ret.some ⟨⟨hi.1,(by show I64 r9.1;unfold I64;omega)⟩,(c9.mono (by omega)).at h0⟩
def J3 {A R:Type}(code:List Int)(k:Int)(z:(Int×A)×(uT×(R×(InT×Unit)))):Prop:=(z.1.1=2\/z.1.1=4\/z.1.1=8)/\J2 code k z
def AM (x:Ins):Prop:=immI x/\∃n:Nat,1<=n/\n<45/\x.op=n/\wV x n
theorem ok_of (x:Ins):Ret (gZ ((x,()),())) fun r=>r.1=true->∃n:Nat,1<=n/\n<45/\x.op=n/\wV x n:=by
 by_cases ho:1<=x.op/\x.op<=44
 ·obtain⟨n,hn⟩:=bU (show 0<=x.op by omega)
  have h1:1<=n:=by omega
  have h2:n<45:=by omega
  exact Ret.of_eq (II x h1 h2 hn) fun h=>⟨n,h1,h2,hn,bh h⟩
 ·exact Ret.of_eq (DK x ho).2 fun h=>ah h (by decide)
theorem fit0:∀z:Nat,z<9->2<=z->yh 0 (z:Int)=true:=by decide +kernel
theorem add_ok {z:Int}{o p:OpT}(hz:z=2\/z=4\/z=8)(ho:rmT z o)(hp:regT z p):AM (Ins.mk 1 z 0 0 (iO o) (iO p) 0):=by
 refine⟨⟨kM ho,lh hp⟩,1,by decide,by decide,rfl,?_⟩
 obtain⟨p1,p2,p3,p4,p5,p6,p7⟩:=hp
 have hpb:ss (iO p) z:= .inl ⟨p1,p2,p3,p4,p5,p6,p7⟩
 have hk:(iO o).kind=1\/(iO o).kind=2:=by
  rcases ho with h|h
  ·exact .inl h.1
  ·exact .inr h.1
 have hob:ss (iO o) z:=by
  rcases ho with ⟨o1,o2,o3,o4,o5,o6,o7⟩|h
  ·exact .inl ⟨o1,o2,o3,o4,o5,o6,o7⟩
  ·exact .inr (.inl h)
 have hs:sSz (Ins.mk 1 z 0 0 (iO o) (iO p) 0) 1=z:=by unfold sSz;rw[iD,ae (show ¬(0:Int)<0 by decide)]
 refine⟨oz 0,(show(0:Int)<=15 by decide),?_,.inr rfl,.inr rfl,oz 0,(show(0:Int)<=15 by decide),hob,by rw[hs];exact hpb,.inl ?_⟩
 ·unfold shB
  have e1:decide ((Ins.mk 1 z 0 0 (iO o) (iO p) 0).size∈szL (szK 1))=true:=by
   show decide (z∈szL 0)=true
   rcases hz with rfl|rfl|rfl<;>decide
  have e2:(prK 1).any (nS (iO o).kind (iO p).kind)=true:=by
   rw[show(iO p).kind=1 from p1]
   rcases hk with h|h<;>rw[h]<;>decide
  have e3:yH (Ins.mk 1 z 0 0 (iO o) (iO p) 0) 1=true:=by
   show yh (iO p).imm z=true
   rw[show(iO p).imm=0 from p6]
   rcases hz with rfl|rfl|rfl
   ·exact fit0 2 (by decide) (by decide)
   ·exact fit0 4 (by decide) (by decide)
   ·exact fit0 8 (by decide) (by decide)
  rw[e1,e3]
  show(true&&((prK 1).any (nS (iO o).kind (iO p).kind)&&true))=true
  rw[e2]
  rfl
 ·rintro(⟨a,b⟩|⟨a,b⟩)
  ·have a:o.1=1:=a
   have b:16<=o.2.1:=b
   rcases ho with ⟨_,_,_,_,_,_,o7⟩|h
   ·unfold sE at o7
    omega
   ·have:=h.1
    omega
  ·have b:16<=p.2.1:=b
   unfold sE at p7
   omega
theorem I0 {x:Ins}{n:Nat}(h:wV x n)(hk:x.dst.kind=2){d:Int}(d0:0<=d)(d1:d<100):wV (Ins.mk x.op x.size x.cond x.frm (Opd.mk x.dst.kind x.dst.reg x.dst.base (-1) 1 d x.dst.imm) x.src x.len) n:=by
 obtain⟨a1,a2,a3,a4,a5,a6,a7,a8,a9,a10⟩:=h
 refine⟨a1,a2,a3,a4,a5,a6,a7,?_,a9,?_⟩
 ·unfold ss opB uB at a8|-
  dsimp only
  omega
 ·refine a10.imp id fun⟨b1,b2,b3⟩=>⟨?_,b2,b3⟩
  unfold um wC at b1|-
  dsimp only
  omega
theorem Db {x:Ins}{n:Nat}(h:wV x n)(hk:x.src.kind=2){d:Int}(d0:0<=d)(d1:d<100):wV (Ins.mk x.op x.size x.cond x.frm x.dst (Opd.mk x.src.kind x.src.reg x.src.base (-1) 1 d x.src.imm) x.len) n:=by
 obtain⟨a1,a2,a3,a4,a5,a6,a7,a8,a9,a10⟩:=h
 have hs:sSz (Ins.mk x.op x.size x.cond x.frm x.dst (Opd.mk x.src.kind x.src.reg x.src.base (-1) 1 d x.src.imm) x.len) n=sSz x n:=rfl
 refine⟨a1,a2,a3,a4,a5,a6,a7,a8,?_,?_⟩
 ·rw[hs]
  unfold ss opB uB at a9|-
  dsimp only
  omega
 ·refine a10.imp id fun⟨b1,b2,b3⟩=>⟨b1,?_,b3⟩
  rw[hs]
  unfold um wC at b2|-
  dsimp only
  omega
theorem instr_r {code:List Int}(hc:kR code){k:Int}(hk:k<=4611686018427370000){s s0:uT}(h0:s0.1=code)(h:Src code k s):
  Ret (fB ((),s,())) fun r=>AM r.1/\Src code (k+400) (s0.1,r.2.1.2):=by
 unfold fB
 dsimp only
 have hs:=h.code
 refine Ret.bnd (fJ hc (by omega) hs h 44 (by decide)) fun r2 ⟨a2,b2,c2⟩=>?_
 refine Ret.bnd (KI hc (by omega) hs c2) fun r3 ⟨a3,c3⟩=>?_
 refine Ret.bnd (fJ hc (by omega) hs c3 4 (by decide)) fun r4 ⟨a4,b4,c4⟩=>?_
 refine Ret.need (cQ a4 b4) ?_
 have hm:=mo (P:=fun x=>x=2\/x=4\/x=8) (xs:=[2,4,8,8]) (d:=aJ .i) a4 b4 (by simp)
 have z0:I64 (0:Int):=by unfold I64;decide
 have hz1:1<=r3.1:=by omega
 refine Ret.left (fun z=>J3 code (k+9) z/\1<=z.2.2.2.1.2.1) (Ret.br (fun _=>Ret.some ⟨⟨hm,c4.mono (by omega),z0,z0⟩,hz1⟩) fun _=>Ret.some ⟨⟨hm,c4.mono (by omega),z0,z0⟩,hz1⟩) ?_
 rintro z ⟨⟨hm,cs,hi⟩,hz⟩
 rw[am]
 refine Ret.left (J3 code (k+230)) (Ret.br (fun _=>?_) fun _=>?_) ?_
 ·
  refine Ret.bnd (pZ hc (by omega) cs.code cs _) fun r7 ⟨a7,c7⟩=>?_
  refine Ret.bnd (pY hc (by omega) cs.code c7 _) fun r8 ⟨a8,c8⟩=>?_
  refine Ret.bnd (fJ hc (by omega) cs.code c8 3 (by decide)) fun r9 ⟨_,_,c9⟩=>?_
  refine Ret.left (J3 code (k+130)) (Ret.br (fun _=>?_) fun _=>?_) ?_
  ·refine Ret.bnd (Bt hc (by omega) cs.code c9 hz) fun r10 ⟨a10,c10⟩=>?_
   exact Ret.some ⟨hm,c10.mono (by omega),kM a7,a10⟩
  ·refine Ret.left (J3 code (k+130)) (Ret.br (fun _=>?_) fun _=>Ret.some ⟨hm,c9.mono (by omega),kM a7,lh a8⟩) fun _ hz=>Ret.some hz
   refine Ret.left (J3 code (k+130)) (Ret.br (fun _=>?_) fun _=>Ret.some ⟨hm,c9.mono (by omega),kM a7,lh a8⟩) fun _ hz=>Ret.some hz
   refine Ret.bnd (pY hc (by omega) cs.code c9 _) fun r11 ⟨a11,c11⟩=>?_
   refine Ret.bnd (pZ hc (by omega) cs.code c11 _) fun r12 ⟨a12,c12⟩=>?_
   exact Ret.some ⟨hm,c12.mono (by omega),lh a11,kM a12⟩
  rintro z ⟨hm,cs,hi⟩
  rw[am]
  refine Ret.any (Ret.br (fun _=>Ret.some trivial) fun _=>Ret.some trivial) fun x19=>?_
  refine Ret.br (fun _=>?_) fun _=>Ret.some ⟨hm,cs.mono (by omega),hi⟩
  refine Ret.bnd (kE hc (by omega) cs.code cs 5 (by decide)) fun r20 c20=>?_
  refine Ret.left (J3 code (k+230)) (Ret.br (fun _=>?_) fun _=>Ret.some ⟨hm,c20.mono (by omega),hi⟩) fun _ hz=>Ret.some hz
  refine Ret.bnd (pY hc (by omega) cs.code c20 _) fun r21 ⟨a21,c21⟩=>?_
  refine Ret.bnd (HG hc (by omega) cs.code c21) fun r22 ⟨a22,c22⟩=>?_
  exact Ret.some ⟨hm,c22.mono (by omega),lh a21,a22⟩
 ·refine Ret.left (J3 code (k+230)) (Ret.br (fun _=>?_) fun _=>?_) fun _ hz=>Ret.some hz
  ·refine Ret.bnd (pZ hc (by omega) cs.code cs _) fun r7 ⟨a7,c7⟩=>?_
   refine Ret.bnd (pY hc (by omega) cs.code c7 _) fun r8 ⟨a8,c8⟩=>?_
   exact Ret.some ⟨hm,c8.mono (by omega),kM a7,lh a8⟩
  refine Ret.left (J3 code (k+9)) ?_ ?_
  ·refine Ret.br (fun _=>Ret.some ⟨hm,cs,hi⟩) fun _=>?_
   refine Ret.left (J3 code (k+9)) ?_ fun _ hz=>Ret.some hz
   refine Ret.br (fun _=>Ret.some ⟨hm,cs,hi⟩) fun _=>?_
   refine Ret.left (J3 code (k+9)) ?_ fun _ hz=>Ret.some hz
   exact Ret.br (fun _=>Ret.some ⟨hm,cs,hi⟩) fun _=>Ret.some ⟨hm,cs,hi⟩
  rintro z ⟨hm,cs,hi⟩
  rw[am]
  refine Ret.left (J3 code (k+230)) (Ret.br (fun _=>?_) fun _=>?_) fun _ hz=>Ret.some hz
  ·refine Ret.bnd (pZ hc (by omega) cs.code cs _) fun r7 ⟨a7,c7⟩=>?_
   exact Ret.some ⟨hm,c7.mono (by omega),kM a7,hi.2⟩
  refine Ret.any (show Ret (ax _) _ by rw[ca];exact Ret.of_eq (bB _ _ _) trivial) fun x35=>?_
  refine Ret.left (J3 code (k+230)) (Ret.br (fun _=>?_) fun _=>?_) fun _ hz=>Ret.some hz
  ·refine Ret.bnd (pZ hc (by omega) cs.code cs _) fun r7 ⟨a7,c7⟩=>?_
   exact Ret.some ⟨hm,c7.mono (by omega),hi.1,kM a7⟩
  refine Ret.any (show Ret (ax _) _ by rw[ca];exact Ret.of_eq (bB _ _ _) trivial) fun x37=>?_
  refine Ret.left (J3 code (k+230)) (Ret.br (fun _=>?_) fun _=>?_) fun _ hz=>Ret.some hz
  ·refine Ret.bnd (pZ hc (by omega) cs.code cs _) fun r7 ⟨a7,c7⟩=>?_
   refine Ret.bnd (fJ hc (by omega) cs.code c7 256 (by decide)) fun r8 ⟨a8,b8,c8⟩=>?_
   refine Ret.bnd (kE hc (by omega) cs.code c8 3 (by decide)) fun r9 c9=>?_
   exact Ret.left (J3 code (k+230)) (Ret.br (fun _=>Ret.some ⟨hm,c9.mono (by omega),kM a7,z0⟩) fun _=>Ret.some ⟨hm,c9.mono (by omega),kM a7,(by show I64 r8.1;unfold I64;omega)⟩) fun _ hz=>Ret.some hz
  ·refine Ret.bnd (other_r hc (by omega) cs.code cs (x:=m8 _) hi _) fun r7 ⟨a7,c7⟩=>?_
   exact Ret.some ⟨hm,c7.mono (by omega),a7.1,a7.2⟩
 rintro z ⟨hm,cs,hi⟩
 rw[am]
 refine Ret.bnd (ok_of _) fun r54 h54=>?_
 refine Ret.br (fun _=>?_) fun hb=>?_
 ·refine Ret.bnd (pZ hc (by omega) cs.code cs _) fun r7 ⟨a7,c7⟩=>?_
  refine Ret.bnd (pY hc (by omega) cs.code c7 _) fun r8 ⟨a8,c8⟩=>?_
  exact Ret.some ⟨add_ok hm a7 a8,(c8.mono (by omega)).at h0⟩
 ·rw[vN]at hb
  exact Ret.some ⟨⟨hi,h54 hb⟩,(cs.mono (by omega)).at h0⟩
theorem near_r {code:List Int}(hc:kR code){k:Int}(hk:k<=4611686018427360000){s s0:uT}(h0:s0.1=code)(h:Src code k s):
  Ret (fP ((),s,())) fun r=>AM r.1/\Src code (k+420) (s0.1,r.2.1.2):=by
 unfold fP
 dsimp only
 have hs:=h.code
 refine Ret.bnd (instr_r hc (by omega) hs h) fun r2 ⟨hv,c2⟩=>?_
 refine Ret.br (fun hd=>?_) fun _=>?_
 ·rw[lJ]at hd
  refine Ret.bnd (kE hc (by omega) hs c2 2 (by decide)) fun r3 c3=>?_
  refine Ret.left (fun z=>Src code (k+406) z.2.1/\AM (m8 z.2.2.2.1)) (Ret.br (fun _=>?_) fun _=>Ret.some ⟨c3.mono (by omega),hv⟩) ?_
  ·refine Ret.bnd (fJ hc (by omega) hs c3 100 (by decide)) fun r4 ⟨a4,b4,c4⟩=>?_
   obtain⟨hi,n,n1,n2,hn,hP⟩:=hv
   exact Ret.some ⟨c4.mono (by omega),hi,n,n1,n2,hn,I0 hP hd a4 b4⟩
  rintro z ⟨cs,hv⟩
  rw[am]
  refine Ret.br (fun hd=>?_) fun _=>Ret.some ⟨hv,(cs.mono (by omega)).at h0⟩
  rw[lJ]at hd
  refine Ret.bnd (kE hc (by omega) cs.code cs 2 (by decide)) fun r7 c7=>?_
  refine Ret.br (fun _=>?_) fun _=>Ret.some ⟨hv,(c7.mono (by omega)).at h0⟩
  refine Ret.bnd (fJ hc (by omega) cs.code c7 100 (by decide)) fun r8 ⟨a8,b8,c8⟩=>?_
  obtain⟨hi,n,n1,n2,hn,hP⟩:=hv
  exact Ret.some ⟨⟨hi,n,n1,n2,hn,Db hP hd a8 b8⟩,(c8.mono (by omega)).at h0⟩
 ·rw[am]
  refine Ret.br (fun hd=>?_) fun _=>Ret.some ⟨hv,(c2.mono (by omega)).at h0⟩
  rw[lJ]at hd
  refine Ret.bnd (kE hc (by omega) hs c2 2 (by decide)) fun r7 c7=>?_
  refine Ret.br (fun _=>?_) fun _=>Ret.some ⟨hv,(c7.mono (by omega)).at h0⟩
  refine Ret.bnd (fJ hc (by omega) hs c7 100 (by decide)) fun r8 ⟨a8,b8,c8⟩=>?_
  obtain⟨hi,n,n1,n2,hn,hP⟩:=hv
  exact Ret.some ⟨⟨hi,n,n1,n2,hn,Db hP hd a8 b8⟩,(c8.mono (by omega)).at h0⟩
def orK (u:Nat):Bool:=u&&& 2245 != u||[1,4,64,128,2048].all fun b=>ct (ior .i64 (u:Int) b)
theorem orK_all:∀u:Nat,u<2246->orK u=true:=by decide +kernel
theorem or_flag {f b:Int}(hI:I64 f)(hf:ct f=true)(hb:b∈([1,4,64,128,2048]:List Int)):ct (ior .i64 f b)=true:=by
 obtain⟨u,hu,rfl,hm⟩:=CU hI hf
 have:=orK_all u hu
 unfold orK at this
 rw[hm]at this
 simp only[bne_self_eq_false,kT,fc]at this
 exact this b hb
theorem flags_r {code:List Int}(hc:kR code){k:Int}(hk:k<=4611686018427360000){s s0:uT}(h0:s0.1=code)(h:Src code k s):
  Ret (fA ((),s,())) fun r=>(I64 r.1/\ct r.1=true)/\Src code (k+15) (s0.1,r.2.1.2):=by
 unfold fA
 dsimp only
 have z1:I64 (0:Int):=by unfold I64;decide
 have z2:ct 0=true:=by decide
 refine Ret.iter (fun x=>x.1.2.1=5/\x.2.2.1=[1,4,64,128,2048]/\(I64 x.1.1/\ct x.1.1=true)/\∃j:Nat,j<=5/\x.1.2.2.1=(j:Int)/\Src code (k+3*j) x.2.1) (fun x=>5-x.1.2.2.1.toNat) ?_ F _
  ⟨rfl,rfl,by dsimp only;exact⟨z1,z2⟩,0,by decide,rfl,by simpa using h⟩ (by unfold F;simp)
 rintro⟨⟨f,n,i,_⟩,s',t,_⟩ rec ⟨e1,e2,hf,j,hj,e3,cs⟩ hrec
 dsimp only at e1 e2 hf e3 cs hrec|-
 subst e1 e2 e3
 refine Ret.br (fun hl=>?_) fun _=>Ret.some ⟨hf,(cs.mono (by omega)).at h0⟩
 rw[xe]at hl
 refine Ret.need (cQ (by omega) (by rw[show da ([1,4,64,128,2048]:List Int)=5 from rfl];omega)) ?_
 refine Ret.bnd (kE hc (by omega) cs.code cs 2 (by decide)) fun r4 c4=>?_
 have hb:=mo (P:=fun x=>x∈([1,4,64,128,2048]:List Int)) (xs:=[1,4,64,128,2048]) (i:=(j:Int)) (d:=aJ .i) (by omega) (by simp;omega) (fun x hx=>hx)
 refine Ret.left (fun z=>z.1.2.1=5/\z.2.2.1=[1,4,64,128,2048]/\(I64 z.1.1/\ct z.1.1=true)/\z.1.2.2.1=(j:Int)/\Src code (k+3*j+3) z.2.1) (Ret.br (fun _=>Ret.some ⟨rfl,rfl,⟨mL ..,or_flag hf.1 hf.2 hb⟩,rfl,c4⟩) fun _=>Ret.some ⟨rfl,rfl,hf,rfl,c4⟩) ?_
 rintro z ⟨e1,e2,hf,e3,cs⟩
 rw[am,e3,aW]
 exact hrec _ ⟨e1,e2,hf,j+1,by omega,by simp,by dsimp only;exact cs.mono (by omega)⟩ (by dsimp only;omega)
abbrev eT (x:Ins)(rex:Int)(nd:Bool)(t:List UInt8):=(x.op,x.size,x.cond,x.frm,x.dst.kind,x.dst.reg,x.dst.base,x.dst.index,x.dst.scale,x.dst.disp,x.dst.imm,x.src.kind,x.src.reg,x.src.base,x.src.index,x.src.scale,x.src.disp,x.src.imm,x.len,rex,nd,t,())
abbrev eo (x:Ins)(rex:Int)(nd:Bool)(t:List UInt8):=(eT x rex nd t,())
theorem lZ (v n:Int)(h0:0<=n)(h1:n<=8):aM ((v,n,()),())=some (leB v n.toNat,()):=by
 obtain⟨k,rfl⟩:=bU h0
 rw[tX v k (by omega),bu]
theorem bE (n:Int):aZ ((n,()),())=some (leB n 1,()):=by
 unfold aZ
 dsimp only
 rw[lZ n 1 (by decide) (by decide),af]
 rfl
theorem fitsE (v z:Int)(hz:z=1\/z=4):∃b:Bool,bC ((v,z,()),())=some (b,()):=by
 unfold bC
 dsimp only
 have e:jp z 4=z:=Km (by omega)
 rw[e,jq _ _ (by omega) (by omega),af]
 exact⟨_,rfl⟩
theorem oddE (x:Ins):∃n:Int,fi ((x,()),())=some (n,()):=by
 unfold fi
 dsimp only
 cases eqI x.size 1<;>exact⟨_,rfl⟩
theorem logE (s:Int)(h1:s<=8):∃n:Int,jl ((s,()),())=some (n,()):=by
 unfold jl
 dsimp only
 refine oZ (fun x=>x.1.1<=8) (fun x=>x.1.1.toNat) (fun _ o=>∃n:Int,o=some (n,())) ?_ F _ h1 (by unfold F;dsimp only;omega)
 rintro⟨⟨a,n,_⟩,_⟩ rec ha hrec
 dsimp only at ha|-
 by_cases h:1<a
 ·rw[ag (kN h)]
  have e:nn .i64 a 2=a/2:=ig (by omega) (by omega) (by omega)
  rw[e]
  exact hrec _ (by dsimp only;omega) (by dsimp only;omega)
 ·rw[aq (kJ h)]
  exact⟨n,rfl⟩
section
variable {x:Ins}{rex:Int}{nd:Bool}{t:List UInt8}
theorem IQ (r bit:Int):Ret (aY ((r,bit,()),eo x rex nd t)) fun z=>∃v rex',z=(v,eo x rex' nd t):=by
 unfold aY
 dsimp only
 by_cases h:16<=r
 ·rw[ag (gY h)]
  exact Ret.some ⟨_,_,rfl⟩
 rw[aq (mI h)]
 by_cases h8:8<=r
 ·rw[ag (gY h8),ag (gY (by unfold an;rw[gB];omega)),af]
  exact Ret.some ⟨_,_,rfl⟩
 ·rw[aq (mI h8),af]
  exact Ret.some ⟨_,_,rfl⟩
theorem f2 {a b:List UInt8}(h1:a.length<=1000)(h2:b.length<=1000):dO a b=true:=j5 (by omega)
theorem pV (k r b i s d m reg:Int)(hs:s<=8)(ht:t.length<=100):
  Ret (aK (((k,r,b,i,s,d,m,()),reg,()),eo x rex nd t)) fun z=>∃rex' t',z=((),eo x rex' nd t')/\t'.length<=t.length+6:=by
 unfold aK
 dsimp only[p5,p21]
 by_cases h1:k=1
 ·rw[ag (bK h1)]
  refine Ret.bnd (IQ r 0) ?_
  rintro _ ⟨v,rex',rfl⟩
  dsimp only
  rw[lZ _ 1 (by decide) (by decide),af]
  dsimp only
  rw[ag (f2 (by omega) (by rw[cM];decide))]
  exact Ret.some ⟨_,_,rfl,by unfold eI;rw[ch,cM];omega⟩
 rw[aq (aD h1)]
 by_cases h2:b=16
 ·rw[ag (bK h2),lZ _ 1 (by decide) (by decide),af,lZ _ 4 (by decide) (by decide),af]
  dsimp only
  rw[ag (f2 (by rw[cM];decide) (by rw[cM];decide)),ag (f2 (by omega) (by unfold eI;rw[ch,cM,cM];decide))]
  exact Ret.some ⟨_,_,rfl,by unfold eI;rw[ch,ch,cM,cM];omega⟩
 rw[aq (aD h2)]
 obtain⟨lg,hlg⟩:=logE s hs
 by_cases h3:b<0
 ·rw[ag (kN h3)]
  refine Ret.left (fun y=>∃(v rex':Int),y=((reg,v,()),eT x rex' nd t,(k,r,b,i,s,d,m,()),())) ?_ ?_
  ·by_cases h4:0<=i
   ·rw[ag (gY h4)]
    refine Ret.bnd (IQ i 1) ?_
    rintro _ ⟨v,rex',rfl⟩
    exact Ret.some ⟨v,rex',rfl⟩
   ·rw[aq (mI h4)]
    exact Ret.some ⟨4,rex,rfl⟩
  ·rintro _ ⟨v,rex',rfl⟩
   dsimp only[ba]
   rw[lZ _ 1 (by decide) (by decide),af,hlg,af,lZ _ 1 (by decide) (by decide),af]
   dsimp only
   rw[ag (f2 (by rw[cM];decide) (by rw[cM];decide)),lZ _ 4 (by decide) (by decide),af]
   dsimp only
   rw[ag (f2 (by unfold eI;rw[ch,cM,cM];decide) (by rw[cM];decide)),ag (f2 (by omega) (by unfold eI;rw[ch,ch,cM,cM,cM];decide))]
   exact Ret.some ⟨_,_,rfl,by unfold eI;rw[ch,ch,ch,cM,cM,cM];omega⟩
 rw[aq (kJ h3)]
 refine Ret.bnd (IQ b 0) ?_
 rintro _ ⟨v,rex',rfl⟩
 obtain⟨q,hq⟩:=fitsE d 1 (.inl rfl)
 dsimp only
 rw[hq,af]
 refine Ret.left (fun y=>∃md:Int,(md=1\/md=2)/\y=((reg,v,md,()),eT x rex' nd t,(k,r,b,i,s,d,m,()),())) ?_ ?_
 ·cases q
  ·exact Ret.some ⟨2,.inr rfl,rfl⟩
  ·exact Ret.some ⟨1,.inl rfl,rfl⟩
 rintro _ ⟨md,hmd,rfl⟩
 dsimp only[ba]
 refine Ret.bnd (Q:=fun _=>True) ?_ ?_
 ·cases eqI d 0<;>exact Ret.some trivial
 rintro z0-
 refine Ret.left (fun y=>∃md:Int,0<=md/\md<=2/\y=((reg,v,md,()),eT x rex' nd t,(k,r,b,i,s,d,m,()),())) ?_ ?_
 ·cases z0
  ·exact Ret.some ⟨md,by omega,by omega,rfl⟩
  ·exact Ret.some ⟨0,by omega,by omega,rfl⟩
 clear hmd md
 rintro _ ⟨md,m0,m2,rfl⟩
 dsimp only[ba]
 refine Ret.bnd (Q:=fun _=>True) ?_ ?_
 ·cases leI 0 i<;>exact Ret.some trivial
 rintro z1-
 refine Ret.left (fun y=>∃(rex2:Int) (t2:List UInt8),t2.length<=t.length+2/\y=((md,()),eT x rex2 nd t2,(k,r,b,i,s,d,m,()),())) ?_ ?_
 ·cases z1
  ·rw[ap,lZ _ 1 (by decide) (by decide),af]
   dsimp only
   rw[ag (f2 (by omega) (by rw[cM];decide))]
   exact Ret.some ⟨rex',_,by unfold eI;rw[ch,cM];omega,rfl⟩
  ·rw[aV]
   refine Ret.bnd (Q:=fun y=>∃(w rex2:Int),y=Sum.inl ((reg,v,md,w,()),eT x rex2 nd t,(k,r,b,i,s,d,m,()),())) ?_ ?_
   ·by_cases h4:0<=i
    ·rw[ag (gY h4)]
     refine Ret.bnd (IQ i 1) ?_
     rintro _ ⟨w,rex2,rfl⟩
     exact Ret.some ⟨w,rex2,rfl⟩
    ·rw[aq (mI h4)]
     exact Ret.some ⟨4,rex',rfl⟩
   ·rintro _ ⟨w,rex2,rfl⟩
    dsimp only[ba]
    rw[lZ _ 1 (by decide) (by decide),af,hlg,af,lZ _ 1 (by decide) (by decide),af]
    dsimp only
    rw[ag (f2 (by rw[cM];decide) (by rw[cM];decide)),ag (f2 (by omega) (by unfold eI;rw[ch,cM,cM];decide))]
    exact Ret.some ⟨rex2,_,by unfold eI;rw[ch,ch,cM,cM];omega,rfl⟩
 rintro _ ⟨rex2,t2,ht2,rfl⟩
 dsimp only[ba]
 have hg:0<=bk ([0,1,4]:List Int) md (aJ .i)/\bk ([0,1,4]:List Int) md (aJ .i)<=4:=by
  have:md=0\/md=1\/md=2:=by omega
  rcases this with rfl|rfl|rfl<;>decide
 rw[ag (cQ),lZ _ _ (by omega) (by omega),af]
 dsimp only
 rw[ag (f2 (by omega) (by rw[cM];omega))]
 exact Ret.some ⟨rex2,_,rfl,by unfold eI;rw[ch,cM];omega⟩
end
theorem oddR (x:Ins):Ret (fi ((x,()),())) fun _=>True:=by
 obtain⟨n,h⟩:=oddE x
 exact Ret.of_eq h trivial
theorem bR (n:Int):Ret (aZ ((n,()),())) fun z=>z.1.length=1:=Ret.of_eq (bE n) (cM _ _)
theorem tA (v n:Int)(h0:0<=n)(h1:n<=8):Ret (aM ((v,n,()),())) fun z=>z.1.length<=8:=Ret.of_eq (lZ v n h0 h1) (by dsimp only;rw[cM];omega)
theorem fitsR (v z:Int)(hz:z=1\/z=4):Ret (bC ((v,z,()),())) fun _=>True:=by
 obtain⟨b,h⟩:=fitsE v z hz
 exact Ret.of_eq h trivial
theorem Ret.test {α:Type}{c:Bool}{o:Option Bool}{f:Bool->Option α}{R:α->Prop}{d:Bool}(h:Ret o fun _=>True)(k:∀b,Ret (f b) R):Ret (bnd (br c o (some d)) f) R:=
 Ret.bnd (Q:=fun _=>True) (Ret.br (fun _=>h) fun _=>Ret.some trivial) fun b _=>k b
theorem al (a b:List UInt8):(eI a b).length=a.length+b.length:=by unfold eI;rw[ch]
def Cs (x:Ins)(nd:Bool)(t:List UInt8)(k:Nat)(z:List UInt8×((Int×Int×Int×Int×Int×Int×Int×Int×Int×Int×Int×Int×Int×Int×Int×Int×Int×Int×Int×Int×Bool×List UInt8×Unit)×Unit)):Prop:=
 ∃(h:List UInt8) (rex':Int) (t':List UInt8),z=(h,eo x rex' nd t')/\h.length<=2/\t'.length<=t.length+k
section
variable {x:Ins}{rex:Int}{nd:Bool}{t:List UInt8}
theorem twoE (b:Int)(hd:x.dst.scale<=8)(hs:x.src.scale<=8)(ht:t.length<=90):Ret (dc ((b,()),eo x rex nd t)) (Cs x nd t 6):=by
 unfold dc
 dsimp only[p5,p11,p12]
 refine Ret.br (fun _=>?_) fun _=>?_
 ·refine Ret.bnd (IQ x.dst.reg 2) ?_
  rintro _ ⟨v,rex',rfl⟩
  refine Ret.bnd (pV (x:=x) (rex:=rex') (nd:=nd) (t:=t) x.src.kind x.src.reg x.src.base x.src.index x.src.scale x.src.disp x.src.imm v hs (by omega)) ?_
  rintro _ ⟨rex2,t2,rfl,ht2⟩
  refine Ret.bnd (oddR _) ?_
  rintro o-
  refine Ret.bnd (bR _) ?_
  rintro h hh
  exact Ret.some ⟨_,_,_,rfl,by omega,ht2⟩
 ·refine Ret.bnd (IQ x.src.reg 2) ?_
  rintro _ ⟨v,rex',rfl⟩
  refine Ret.bnd (pV (x:=x) (rex:=rex') (nd:=nd) (t:=t) x.dst.kind x.dst.reg x.dst.base x.dst.index x.dst.scale x.dst.disp x.dst.imm v hd (by omega)) ?_
  rintro _ ⟨rex2,t2,rfl,ht2⟩
  refine Ret.bnd (oddR _) ?_
  rintro o-
  refine Ret.bnd (bR _) ?_
  rintro h hh
  exact Ret.some ⟨_,_,_,rfl,by omega,ht2⟩
theorem flowE (hs:x.src.scale<=8)(ht:t.length<=90)(ho:29<=x.op/\x.op<=32):Ret (fW ((),eo x rex nd t)) (Cs x nd t 8):=by
 unfold fW
 dsimp only[p11,p12,p17]
 have e:bo .i64 x.op 29=x.op-29:=bN
 refine Ret.br (fun _=>?_) fun _=>?_
 ·refine Ret.bnd (tA _ 4 (by decide) (by decide)) ?_
  rintro l hl
  refine Ret.test ?_ ?_
  ·refine Ret.bnd (fitsR _ 1 (.inl rfl)) fun z _=>Ret.some trivial
  rintro b
  refine Ret.br (fun _=>?_) fun _=>?_
  ·refine Ret.bnd (tA _ 1 (by decide) (by decide)) ?_
   rintro⟨l2,u⟩ hl2
   refine Ret.bnd (bR _) ?_
   rintro h hh
   exact Ret.some ⟨_,rex,l2,rfl,by omega,by dsimp only at hl2;omega⟩
  ·rw[e]
   refine Ret.need (cQ) ?_
   refine Ret.bnd (bR _) ?_
   rintro h hh
   exact Ret.some ⟨_,rex,l.1,rfl,by omega,by omega⟩
 ·refine Ret.bnd (Q:=fun _=>True) ?_ ?_
  ·exact Ret.br (fun _=>Ret.some trivial) fun _=>Ret.some trivial
  rintro b-
  refine Ret.br (fun _=>?_) fun _=>?_
  ·refine Ret.bnd (IQ x.src.reg 0) ?_
   rintro _ ⟨v,rex',rfl⟩
   refine Ret.bnd (bR _) ?_
   rintro h hh
   exact Ret.some ⟨_,rex',t,rfl,by omega,by omega⟩
  ·rw[e]
   refine Ret.need (cQ) ?_
   refine Ret.bnd (pV (x:=x) (rex:=rex) (nd:=nd) (t:=t) x.src.kind x.src.reg x.src.base x.src.index x.src.scale x.src.disp x.src.imm _ hs (by omega)) ?_
   rintro _ ⟨rex2,t2,rfl,ht2⟩
   refine Ret.bnd (bR _) ?_
   rintro h hh
   exact Ret.some ⟨_,_,_,rfl,by omega,by omega⟩
end
abbrev xT (x:Ins):=(x.op,x.size,x.cond,x.frm,x.dst.kind,x.dst.reg,x.dst.base,x.dst.index,x.dst.scale,x.dst.disp,x.dst.imm,x.src.kind,x.src.reg,x.src.base,x.src.index,x.src.scale,x.src.disp,x.src.imm,x.len,())
section
variable {x:Ins}{rex:Int}{nd:Bool}{t:List UInt8}
theorem restE (hd:x.dst.scale<=8)(hs:x.src.scale<=8)(ht:t.length<=80)(ho:x.op=17\/25<=x.op/\x.op<=44/\x.op≠28):Ret (fX ((),eo x rex nd t)) (Cs x nd t 8):=by
 unfold fX
 dsimp only[p5,p17]
 refine Ret.bnd (tA _ 4 (by decide) (by decide)) ?_
 rintro⟨l,u⟩ hl
 dsimp only at hl
 have low2:∀(reg bit:Int) (f:_->Option (List UInt8×_)),(∀v rex',Ret (f (v,eo x rex' nd t)) (Cs x nd t 8))->Ret (bnd (aY ((reg,bit,()),eo x rex nd t)) f) (Cs x nd t 8):=fun reg bit f h=>Ret.bnd (IQ reg bit) (by rintro _ ⟨v,rex',rfl⟩;exact h v rex')
 refine Ret.br (fun _=>?_) fun n1=>?_
 ·refine low2 _ _ _ fun v rex'=>?_
  refine Ret.bnd (pV (x:=x) (rex:=rex') (nd:=nd) (t:=t) x.src.kind x.src.reg x.src.base x.src.index x.src.scale x.src.disp x.src.imm v hs (by omega)) ?_
  rintro _ ⟨rex2,t2,rfl,ht2⟩
  exact Ret.some ⟨_,_,_,rfl,by simp,by omega⟩
 have n1:x.op≠17:=of_decide_eq_false n1
 refine Ret.br (fun _=>?_) fun n2=>?_
 ·refine low2 _ _ _ fun v rex'=>?_
  refine Ret.bnd (pV (x:=x) (rex:=rex') (nd:=nd) (t:=t) x.src.kind x.src.reg x.src.base x.src.index x.src.scale x.src.disp x.src.imm v hs (by omega)) ?_
  rintro _ ⟨rex2,t2,rfl,ht2⟩
  refine Ret.bnd (bR _) ?_
  rintro h hh
  refine Ret.need (f2 (by simp) (by omega)) ?_
  exact Ret.some ⟨_,_,_,rfl,by rw[al,hh];decide,by omega⟩
 have n2:x.op≠36:=of_decide_eq_false n2
 refine Ret.br (fun _=>?_) fun n3=>?_
 ·refine low2 _ _ _ fun v rex'=>?_
  refine Ret.bnd (pV (x:=x) (rex:=rex') (nd:=nd) (t:=t) x.src.kind x.src.reg x.src.base x.src.index x.src.scale x.src.disp x.src.imm v hs (by omega)) ?_
  rintro _ ⟨rex2,t2,rfl,ht2⟩
  refine Ret.bnd (bR _) ?_
  rintro h hh
  exact Ret.some ⟨_,_,_,rfl,by omega,by omega⟩
 have n3:x.op≠25:=of_decide_eq_false n3
 refine Ret.left (fun y=>∃b:Bool,(b=false->x.op≠26/\x.op≠27)/\y=((l,x.op,b,()),eT x rex nd t,xT x,())) ?_ ?_
 ·refine Ret.br (fun h=>?_) fun h=>?_
  ·exact Ret.some ⟨_,fun q=>(by rw[h]at q;cases q),rfl⟩
  ·exact Ret.some ⟨_,fun q=>⟨of_decide_eq_false h,of_decide_eq_false q⟩,rfl⟩
 rintro _ ⟨b,n4,rfl⟩
 dsimp only[ba,p5,p17]
 refine Ret.br (fun _=>?_) fun hb=>?_
 ·refine low2 _ _ _ fun v rex'=>?_
  refine Ret.bnd (pV (x:=x) (rex:=rex') (nd:=nd) (t:=t) x.src.kind x.src.reg x.src.base x.src.index x.src.scale x.src.disp x.src.imm v hs (by omega)) ?_
  rintro _ ⟨rex2,t2,rfl,ht2⟩
  refine Ret.br (fun _=>?_) fun _=>?_
  ·refine Ret.bnd (bR _) ?_
   rintro h hh
   exact Ret.some ⟨_,_,_,rfl,by omega,by omega⟩
  ·refine Ret.bnd (bR _) ?_
   rintro h hh
   refine Ret.need (f2 (by simp) (by omega)) ?_
   exact Ret.some ⟨_,_,_,rfl,by rw[al,hh];decide,by omega⟩
 have n4:=n4 hb
 refine Ret.br (fun _=>?_) fun n5=>?_
 ·refine Ret.bnd (pV (x:=x) (rex:=rex) (nd:=nd) (t:=t) x.dst.kind x.dst.reg x.dst.base x.dst.index x.dst.scale x.dst.disp x.dst.imm 0 hd (by omega)) ?_
  rintro _ ⟨rex2,t2,rfl,ht2⟩
  refine Ret.bnd (bR _) ?_
  rintro h hh
  refine Ret.need (f2 (by simp) (by omega)) ?_
  exact Ret.some ⟨_,_,_,rfl,by rw[al,hh];decide,by omega⟩
 have n5:x.op≠35:=of_decide_eq_false n5
 refine Ret.br (fun _=>?_) fun n6=>?_
 ·refine Ret.bnd (bR _) ?_
  rintro h hh
  refine Ret.need (f2 (by simp) (by omega)) ?_
  exact Ret.some ⟨_,rex,l,rfl,by rw[al,hh];decide,by omega⟩
 have n6:x.op≠33:=of_decide_eq_false n6
 refine Ret.left (fun y=>∃b:Bool,(b=false->x.op≠29/\x.op≠31/\x.op≠32)/\(b=true->29<=x.op/\x.op<=32)/\y=((x.op,b,()),eT x rex nd t,xT x,())) ?_ ?_
 ·refine Ret.br (fun h=>?_) fun h=>?_
  ·have h':x.op=29:=bh h
   exact Ret.some ⟨_,fun q=>(by rw[h]at q;cases q),fun _=>by omega,rfl⟩
  ·have h':x.op≠29:=of_decide_eq_false h
   refine Ret.left (fun y=>∃b:Bool,(b=false->x.op≠29/\x.op≠31/\x.op≠32)/\(b=true->29<=x.op/\x.op<=32)/\y=((x.op,b,()),eT x rex nd t,xT x,())) ?_ ?_
   ·refine Ret.br (fun h2=>?_) fun h2=>?_
    ·have h2':x.op=31:=bh h2
     exact Ret.some ⟨_,fun q=>(by rw[h2]at q;cases q),fun _=>by omega,rfl⟩
    ·have h2':x.op≠31:=of_decide_eq_false h2
     exact Ret.some ⟨_,fun q=>⟨h',h2',of_decide_eq_false q⟩,fun q=>by have:x.op=32:=bh q;omega,rfl⟩
   ·rintro _ ⟨b,q1,q2,rfl⟩
    exact Ret.some ⟨b,q1,q2,rfl⟩
 rintro _ ⟨b2,n7,n8,rfl⟩
 dsimp only[ba,p5,p17]
 refine Ret.br (fun hb2=>?_) fun hb2=>?_
 ·refine Ret.bnd (flowE (x:=x) (rex:=rex) (nd:=nd) (t:=t) hs (by omega) (n8 hb2)) ?_
  rintro _ ⟨h,rex2,t2,rfl,hh,ht2⟩
  exact Ret.some ⟨_,_,_,rfl,hh,ht2⟩
 have n7:=n7 hb2
 refine Ret.br (fun _=>?_) fun n9=>?_
 ·refine Ret.br (fun _=>?_) fun _=>?_
  ·refine low2 _ _ _ fun v rex'=>?_
   refine Ret.bnd (bR _) ?_
   rintro h hh
   exact Ret.some ⟨_,rex',t,rfl,by omega,by omega⟩
  ·refine Ret.bnd (pV (x:=x) (rex:=rex) (nd:=nd) (t:=t) x.dst.kind x.dst.reg x.dst.base x.dst.index x.dst.scale x.dst.disp x.dst.imm 0 hd (by omega)) ?_
   rintro _ ⟨rex2,t2,rfl,ht2⟩
   refine Ret.bnd (bR _) ?_
   rintro h hh
   exact Ret.some ⟨_,_,_,rfl,by omega,by omega⟩
 have n9:x.op≠30:=of_decide_eq_false n9
 refine Ret.br (fun _=>?_) fun n10=>?_
 ·refine Ret.bnd (bR _) ?_
  rintro h hh
  refine Ret.bnd (bR _) ?_
  rintro h2 hh2
  refine Ret.need (f2 (by omega) (by omega)) ?_
  exact Ret.some ⟨_,rex,t,rfl,by rw[al,hh,hh2];decide,by omega⟩
 have n10:x.op≠44:=of_decide_eq_false n10
 refine Ret.br (fun _=>?_) fun n11=>?_
 ·exact Ret.some ⟨_,rex,t,rfl,by simp,by omega⟩
 have n11:x.op≠43:=of_decide_eq_false n11
 have e:bo .i64 x.op 34=x.op-34:=bN
 rw[e]
 refine Ret.need (cQ) ?_
 refine Ret.bnd (bR _) ?_
 rintro h hh
 exact Ret.some ⟨_,rex,t,rfl,by omega,by omega⟩
theorem bodyE (hd:x.dst.scale<=8)(hs:x.src.scale<=8)(h0:0<=x.size)(h8:x.size<=8)(ht:t.length<=70)(o1:1<=x.op)(o2:x.op<=44):Ret (fV ((),eo x rex nd t)) (Cs x nd t 14):=by
 unfold fV
 dsimp only[p5,p11,p17]
 have hmn:0<=jp x.size 4/\jp x.size 4<=8:=by unfold jp;split<;>omega
 have hput:∀(w:Bool) (reg:Int) (f:_->Option (List UInt8×_)),(∀rex' t',t'.length<=t.length+6->Ret (f ((),eo x rex' nd t')) (Cs x nd t 14))->
   Ret (bnd (aK ((bif w then(x.dst.kind,x.dst.reg,x.dst.base,x.dst.index,x.dst.scale,x.dst.disp,x.dst.imm,())else(x.src.kind,x.src.reg,x.src.base,x.src.index,x.src.scale,x.src.disp,x.src.imm,()),reg,()),eo x rex nd t)) f) (Cs x nd t 14):=fun w reg f h=>by
  cases w
  ·refine Ret.bnd (pV (x:=x) (rex:=rex) (nd:=nd) (t:=t) x.src.kind x.src.reg x.src.base x.src.index x.src.scale x.src.disp x.src.imm reg hs (by omega)) ?_
   rintro _ ⟨rex2,t2,rfl,ht2⟩
   exact h rex2 t2 ht2
  ·refine Ret.bnd (pV (x:=x) (rex:=rex) (nd:=nd) (t:=t) x.dst.kind x.dst.reg x.dst.base x.dst.index x.dst.scale x.dst.disp x.dst.imm reg hd (by omega)) ?_
   rintro _ ⟨rex2,t2,rfl,ht2⟩
   exact h rex2 t2 ht2
 have htwo:∀(b:Int) (f:_->Option (List UInt8×_)),(∀h rex' t',h.length<=2->t'.length<=t.length+6->Ret (f (h,eo x rex' nd t')) (Cs x nd t 14))->Ret (bnd (dc ((b,()),eo x rex nd t)) f) (Cs x nd t 14):=fun b f h=>by
  refine Ret.bnd (twoE b hd hs (by omega)) ?_
  rintro _ ⟨h1,rex2,t2,rfl,hh,ht2⟩
  exact h h1 rex2 t2 hh ht2
 have hone:∀(n:Int) (f:_->Option (List UInt8×_)),(∀h:List UInt8×Unit,h.1.length=1->Ret (f h) (Cs x nd t 14))->Ret (bnd (aZ ((n,()),())) f) (Cs x nd t 14):=fun n f h=>Ret.bnd (bR n) h
 have htest:∀(c1 c2:Bool) (f:Bool->Option (List UInt8×_)),(∀b,Ret (f b) (Cs x nd t 14))->Ret (bnd (br c1 (some c2) (some false)) f) (Cs x nd t 14):=fun c1 c2 f h=>Ret.test (Ret.some trivial) h
 refine Ret.bnd (oddR _) ?_
 rintro od-
 refine Ret.bnd (tA _ _ hmn.1 hmn.2) ?_
 rintro⟨im,u⟩ him
 refine Ret.bnd (tA _ 1 (by decide) (by decide)) ?_
 rintro⟨one,u1⟩ hone1
 dsimp only at him hone1
 refine htest _ _ _ fun b1=>?_
 refine Ret.br (fun _=>?_) fun _=>?_
 ·refine hput true _ _ fun rex2 t2 ht2=>?_
  refine Ret.test ?_ fun b=>?_
  ·exact Ret.bnd (fitsR _ 1 (.inl rfl)) fun z _=>Ret.some trivial
  refine Ret.br (fun _=>?_) fun _=>?_
  ·refine Ret.need (f2 (by show t2.length<=1000;omega) (by dsimp only;omega)) ?_
   refine hone _ _ fun h hh=>?_
   exact Ret.some ⟨_,_,_,rfl,by omega,by rw[al];show t2.length+one.length<=t.length+14;omega⟩
  ·refine Ret.need (f2 (by show t2.length<=1000;omega) (by dsimp only;omega)) ?_
   refine hone _ _ fun h hh=>?_
   exact Ret.some ⟨_,_,_,rfl,by omega,by rw[al];show t2.length+im.length<=t.length+14;omega⟩
 refine Ret.br (fun _=>?_) fun n1=>?_
 ·refine htwo _ _ fun h rex2 t2 hh ht2=>?_
  exact Ret.some ⟨_,_,_,rfl,hh,by omega⟩
 have n1:¬x.op<=8:=of_decide_eq_false n1
 refine htest _ _ _ fun b2=>?_
 refine Ret.br (fun _=>?_) fun _=>?_
 ·refine Ret.test ?_ fun b=>?_
  ·exact Ret.bnd (fitsR _ 4 (.inr rfl)) fun z _=>Ret.some trivial
  refine Ret.br (fun _=>?_) fun _=>?_
  ·refine Ret.bnd (IQ x.dst.reg 0) ?_
   rintro _ ⟨v,rex',rfl⟩
   refine Ret.bnd (tA _ 8 (by decide) (by decide)) ?_
   rintro⟨l8,u8⟩ hl8
   dsimp only at hl8
   refine Ret.need (f2 (by show t.length<=1000;omega) (by dsimp only;omega)) ?_
   refine hone _ _ fun h hh=>?_
   exact Ret.some ⟨_,_,_,rfl,by omega,by rw[al];show t.length+l8.length<=t.length+14;omega⟩
  ·refine hput true _ _ fun rex2 t2 ht2=>?_
   refine Ret.need (f2 (by show t2.length<=1000;omega) (by dsimp only;omega)) ?_
   refine hone _ _ fun h hh=>?_
   exact Ret.some ⟨_,_,_,rfl,by omega,by rw[al];show t2.length+im.length<=t.length+14;omega⟩
 refine Ret.br (fun _=>?_) fun n2=>?_
 ·refine htwo _ _ fun h rex2 t2 hh ht2=>?_
  exact Ret.some ⟨_,_,_,rfl,hh,by omega⟩
 have n2:x.op≠9:=of_decide_eq_false n2
 refine htest _ _ _ fun b3=>?_
 refine Ret.br (fun _=>?_) fun _=>?_
 ·refine hput true _ _ fun rex2 t2 ht2=>?_
  refine Ret.need (f2 (by show t2.length<=1000;omega) (by dsimp only;omega)) ?_
  refine hone _ _ fun h hh=>?_
  exact Ret.some ⟨_,_,_,rfl,by omega,by rw[al];show t2.length+im.length<=t.length+14;omega⟩
 refine Ret.br (fun _=>?_) fun n3=>?_
 ·refine htwo _ _ fun h rex2 t2 hh ht2=>?_
  exact Ret.some ⟨_,_,_,rfl,hh,by omega⟩
 have n3:x.op≠10:=of_decide_eq_false n3
 refine Ret.br (fun _=>?_) fun n4=>?_
 ·refine htwo _ _ fun h rex2 t2 hh ht2=>?_
  exact Ret.some ⟨_,_,_,rfl,hh,by omega⟩
 have n4:x.op≠28:=of_decide_eq_false n4
 refine Ret.left (fun y=>∃b:Bool,(b=false->x.op≠11/\x.op≠12)/\y=((od.1,one,b,()),eT x rex nd t,xT x,())) ?_ ?_
 ·refine Ret.br (fun h=>?_) fun h=>?_
  ·exact Ret.some ⟨_,fun q=>(by rw[h]at q;cases q),rfl⟩
  ·exact Ret.some ⟨_,fun q=>⟨of_decide_eq_false h,of_decide_eq_false q⟩,rfl⟩
 rintro _ ⟨b,n5,rfl⟩
 dsimp only[ba]
 refine Ret.br (fun _=>?_) fun hb=>?_
 ·refine hput true _ _ fun rex2 t2 ht2=>?_
  refine hone _ _ fun h hh=>?_
  exact Ret.some ⟨_,_,_,rfl,by omega,by omega⟩
 have n5:=n5 hb
 rw[ca,bB,af]
 refine Ret.br (fun _=>?_) fun n6=>?_
 ·refine hput false _ _ fun rex2 t2 ht2=>?_
  refine hone _ _ fun h hh=>?_
  exact Ret.some ⟨_,_,_,rfl,by omega,by omega⟩
 have n6:¬(13<=x.op/\x.op<=16):=of_decide_eq_false n6
 refine Ret.left (fun y=>∃b:Bool,(b=false->x.op≠18/\x.op≠19)/\y=((od.1,one,b,()),eT x rex nd t,xT x,())) ?_ ?_
 ·refine Ret.br (fun h=>?_) fun h=>?_
  ·exact Ret.some ⟨_,fun q=>(by rw[h]at q;cases q),rfl⟩
  ·exact Ret.some ⟨_,fun q=>⟨of_decide_eq_false h,of_decide_eq_false q⟩,rfl⟩
 rintro _ ⟨b,n7,rfl⟩
 dsimp only[ba,p11]
 refine Ret.br (fun _=>?_) fun hb=>?_
 ·refine hput true _ _ fun rex2 t2 ht2=>?_
  refine hone _ _ fun h hh=>?_
  exact Ret.some ⟨_,_,_,rfl,by omega,by omega⟩
 have n7:=n7 hb
 rw[bB,af]
 refine Ret.br (fun h8=>?_) fun n8=>?_
 ·have h8:20<=x.op/\x.op<=24:=bh h8
  have e:bo .i64 x.op 20=x.op-20:=bN
  rw[e]
  refine Ret.need (cQ) ?_
  refine hput true _ _ fun rex2 t2 ht2=>?_
  refine Ret.br (fun _=>?_) fun _=>?_
  ·refine hone _ _ fun h hh=>?_
   exact Ret.some ⟨_,_,_,rfl,by omega,by omega⟩
  ·refine Ret.need (f2 (by show t2.length<=1000;omega) (by omega)) ?_
   refine hone _ _ fun h hh=>?_
   exact Ret.some ⟨_,_,_,rfl,by omega,by rw[al];show t2.length+one.length<=t.length+14;omega⟩
 have n8:¬(20<=x.op/\x.op<=24):=of_decide_eq_false n8
 refine Ret.bnd (restE (x:=x) (rex:=rex) (nd:=nd) (t:=t) hd hs (by omega) (by omega)) ?_
 rintro _ ⟨h,rex2,t2,rfl,hh,ht2⟩
 exact Ret.some ⟨_,_,_,rfl,hh,by omega⟩
end
theorem szU_all:∀n,n<45->1<=n->∀z∈szL (szK n),z<=(8:Int):=by decide +kernel
theorem rexR (o:Int×Int×Int×Int×Int×Int×Int×Unit)(z:Int):Ret (dZ ((o,z,()),())) fun _=>True:=by
 unfold dZ
 simp only[ca,bB,af]
 refine Ret.br (fun _=>?_) fun _=>?_
 ·refine Ret.br (fun _=>Ret.some trivial) fun _=>?_
  exact Ret.br (fun _=>Ret.some trivial) fun _=>Ret.some trivial
 ·refine Ret.br (fun _=>?_) fun _=>Ret.some trivial
  refine Ret.bnd (Q:=fun _=>True) (Ret.br (fun _=>Ret.some trivial) fun _=>Ret.some trivial) fun b _=>Ret.some trivial
theorem wideR (n:Int):Ret (fk ((n,()),())) fun _=>True:=by
 unfold fk
 dsimp only
 cases eqI n 29<;>cases eqI n 30<;>cases eqI n 31<;>cases eqI n 32<;>exact Ret.some trivial
theorem encodeE {x:Ins}(hx:AM x):Ret (iv ((x,()),())) fun z=>z.1.length<=20:=by
 obtain⟨_,n,n1,n2,hn,hP⟩:=hx
 have hsh:=hP.2.2.1
 obtain⟨_,_,_,_,_,_,_,hod,hos,_⟩:=hP
 have hsz:0<=x.size/\x.size<=8:=by
  unfold shB at hsh
  simp only[ar,aG]at hsh
  exact⟨Hx n n2 n1 _ hsh.1,szU_all n n2 n1 _ hsh.1⟩
 have hd:x.dst.scale<=8:=by unfold ss opB uB at hod;omega
 have hs:x.src.scale<=8:=by unfold ss opB uB at hos;omega
 unfold iv
 dsimp only
 refine Ret.bnd (bodyE (x:=x) (rex:=0) (nd:=false) (t:=[]) hd hs hsz.1 hsz.2 (by simp) (by omega) (by omega)) ?_
 rintro _ ⟨h,rex,t,rfl,hh,ht⟩
 rw[vD x hn,af]
 refine Ret.bnd (rexR _ _) ?_
 rintro a-
 refine Ret.bnd (rexR _ _) ?_
 rintro b-
 refine Ret.test ?_ fun w=>?_
 ·exact Ret.bnd (wideR _) fun z _=>Ret.some trivial
 have ht:t.length<=14:=by simpa using ht
 refine Ret.left (fun y=>∃(a b:Bool) (rex:Int),y=((h,a,b,()),xT x,eT x rex false t,())) ?_ ?_
 ·exact Ret.br (fun _=>Ret.some ⟨_,_,_,rfl⟩) fun _=>Ret.some ⟨_,_,_,rfl⟩
 clear a b
 rintro _ ⟨a,b,rex,rfl⟩
 dsimp only[ba]
 refine Ret.left (fun y=>∃p:List UInt8,p.length<=1/\y=((h,a,b,p,()),eT x rex false t,())) ?_ ?_
 ·refine Ret.br (fun _=>?_) fun _=>?_
  ·refine Ret.bnd (bR _) ?_
   rintro⟨q,u⟩ hq
   exact Ret.some ⟨q,by dsimp only at hq;omega,rfl⟩
  ·exact Ret.some ⟨[],by simp,rfl⟩
 rintro _ ⟨p,hp,rfl⟩
 dsimp only[ba,p19,p21]
 refine Ret.bnd (Q:=fun _=>True) (Ret.br (fun _=>Ret.some trivial) fun _=>Ret.some trivial) ?_
 rintro c-
 refine Ret.bnd (Q:=fun _=>True) (Ret.br (fun _=>Ret.some trivial) fun _=>Ret.some trivial) ?_
 rintro c2-
 refine Ret.left (fun y=>∃p:List UInt8,p.length<=2/\y=((h,p,()),eT x rex false t,())) ?_ ?_
 ·refine Ret.br (fun _=>?_) fun _=>?_
  ·refine Ret.bnd (bR _) ?_
   rintro⟨q,u⟩ hq
   dsimp only at hq
   refine Ret.need (f2 (by omega) (by dsimp only;omega)) ?_
   exact Ret.some ⟨_,by rw[al];show p.length+q.length<=2;omega,rfl⟩
  ·exact Ret.some ⟨p,by omega,rfl⟩
 clear hp p
 rintro _ ⟨p,hp,rfl⟩
 dsimp only[ba]
 refine Ret.need (f2 (by omega) (by omega)) ?_
 refine Ret.need (f2 (by rw[al];omega) (by omega)) ?_
 exact Ret.some (by dsimp only;rw[al,al];omega)
theorem IU {code:List Int}(hc:kR code){k:Int}(hk:k<=4611686018420000000){s s0:uT}(h0:s0.1=code)(h:Src code k s):
  Ret (eY ((),s,())) fun r=>(∃ps,r.1=(ps,())/\Drawn 8 ps)/\Src code (k+8000) (s0.1,r.2.1.2):=by
 unfold eY
 dsimp only
 refine Ret.iter (fun x=>x.2.2.2.2.2.1=m7/\∃j:Nat,j<=8/\x.1.1=(j:Int)/\Drawn j x.2.2.2.2.1/\Src code (k+1000*j) x.2.1) (fun x=>8-x.1.1.toNat) ?_ F _ ⟨rfl,0,by omega,rfl,⟨List.Sublist.refl _,by simp⟩,by simpa using h⟩ (by unfold F;dsimp only;omega)
 rintro⟨⟨i,_⟩,s',_,_,ps,tab,_⟩ rec ⟨h1,j,hj,h2,h3,h4⟩ hrec
 dsimp only at h1 h2 h3 h4 hrec|-
 subst h1 h2
 rw[show da m7=8 from rfl]
 refine Ret.br (fun hl=>?_) fun hl=>?_
 ·rw[xe]at hl
  have hps:ps.length<=8:=by have:=h3.sub.length_le;simp[kX]at this;omega
  refine Ret.bnd (wJ hc (by omega) h4 9 (by decide)) fun r hr=>?_
  rw[h4.put hr,aW]
  refine Ret.br (fun _=>?_) fun _=>?_
  ·exact hrec _ ⟨rfl,j+1,by omega,by dsimp only;omega,h3.skip,hr.mono (by omega)⟩ (by dsimp only;omega)
  ·refine Ret.need (cQ (by omega) hl) ?_
   refine Ret.bnd (show Ret (dp ((16,()),r.2.1,())) _ from Dz hc (by omega) hr 16 (by decide)) fun r1 hr1=>?_
   obtain⟨l1,c1⟩:=hr1
   rw[h4.put c1]
   have lz:(l6 (wt 224 (aJ .u))).length=224:=by unfold l6 wt;rw[lE,List.length_replicate];rfl
   refine Ret.need (j5 (by rw[lz,l1];decide)) ?_
   refine Ret.bnd (show Ret (dp ((16,()),r1.2.1,())) _ from Dz hc (by omega) c1 16 (by decide)) fun r2 hr2=>?_
   obtain⟨l2,c2⟩:=hr2
   rw[h4.put c2]
   refine Ret.need (j5 (by unfold eI;rw[ch,lz,l1,l2];decide)) (Ret.need (j5 (by simp;omega)) ?_)
   refine hrec _ ⟨rfl,j+1,by omega,by dsimp only;omega,?_,?_⟩ (by dsimp only;omega)
   ·dsimp only
    rw[ym]
    exact h3.more (by omega) _ (by unfold eI;rw[ch,ch,lz,l1,l2])
   ·exact c2.mono (by omega)
 ·rw[lt_nf]at hl
  have:j=8:=by omega
  subst this
  exact Ret.some ⟨⟨ps,rfl,h3⟩,(h4.mono (by omega)).at h0⟩
theorem cpu_r {code:List Int}(hc:kR code){s s0:uT}(h0:s0.1=code)(hs:Src code 0 s):
  Ret (fq ((),s,())) fun r=>(∃g p f,r.1=(g,p,f,())/\lj g/\I64 p/\I64 f/\ct f=true)/\Src code 2000 (s0.1,r.2.1.2):=by
 unfold fq
 dsimp only
 refine Ret.bnd (fJ hc (by decide) hs.code hs 40 (by decide)) fun r2 ⟨a2,b2,c2⟩=>?_
 refine Ret.bnd (flags_r hc (by decide) hs.code c2) fun r3 ⟨hf,c3⟩=>?_
 rw[aW]
 refine Ret.iter (fun x=>(∃g,x.2.2.2.1=(g,16896+r2.1,r3.1,())/\lj g)/\∃j:Nat,j<=16/\x.1.1=(j:Int)/\Src code (18+100*j) x.2.1) (fun x=>16-x.1.1.toNat) ?_ F _
  ⟨⟨[],rfl,fun i=>by unfold rg bk;rw[List.getD_nil];unfold I64;decide⟩,0,by decide,rfl,by simpa using c3⟩ (by unfold F;simp)
 rintro⟨⟨i,_⟩,s',zz,c,_⟩ rec ⟨⟨g,e1,hg⟩,j,hj,e2,cs⟩ hrec
 dsimp only at e1 e2 cs hrec|-
 subst e1 e2
 have hI:I64 (16896+r2.1):=by unfold I64;omega
 refine Ret.br (fun hl=>?_) fun _=>?_
 ·rw[xe]at hl
  refine Ret.bnd (fJ hc (by omega) cs.code cs 400 (by decide)) fun r6 ⟨a6,b6,c6⟩=>?_
  refine Ret.bnd (HG hc (by omega) cs.code c6) fun r7 ⟨a7,c7⟩=>?_
  refine Ret.bnd (fJ hc (by omega) cs.code c7 40 (by decide)) fun r8 ⟨a8,b8,c8⟩=>?_
  refine Ret.bnd (fJ hc (by omega) cs.code c8 30 (by decide)) fun r9 ⟨a9,b9,c9⟩=>?_
  refine Ret.bnd (fJ hc (by omega) cs.code c9 4 (by decide)) fun r10 ⟨a10,b10,c10⟩=>?_
  refine Ret.need (cQ a10 b10) (Ret.need (cQ) ?_)
  rw[aW,dh,aW,aW]
  have hb:=mo (P:=I64) (xs:=[17408+r6.1,r7.1,r8.1,17408+8*r9.1]) (d:=aJ .i) a10 b10 (by
   intro x hx
   simp only[aN,gg,or_false]at hx
   unfold I64 at a7|-
   omega)
  exact hrec _ ⟨⟨_,rfl,hg.setA hb⟩,j+1,by omega,by simp,by dsimp only;exact c10.mono (by omega)⟩ (by dsimp only;omega)
 ·refine Ret.bnd (kE hc (by omega) cs.code cs 2 (by decide)) fun r11 c11=>?_
  refine Ret.br (fun _=>?_) fun _=>Ret.some ⟨⟨g,_,_,rfl,hg,hI,hf.1,hf.2⟩,(c11.mono (by omega)).at h0⟩
  refine Ret.bnd (fJ hc (by omega) cs.code c11 60 (by decide)) fun r12 ⟨a12,b12,c12⟩=>?_
  refine Ret.some ⟨⟨_,_,_,rfl,hg.setA (i:=4) ?_,hI,hf.1,hf.2⟩,(c12.mono (by omega)).at h0⟩
  exact aB _
theorem has_ex {m:List Page}(hm:MemR m)(a:Int)(n:Nat)(hn:n<=8192):∃b:Bool,kq (((m,()),a,(n:Int),()),())=some (b,())/\(b=true->∀k,k<n->¬fnd m (a+(k:Nat))<0):=by
 unfold kq
 dsimp only
 rw[ca,bB]
 by_cases h0:0<(n:Int)
 ·rw[ag (kN h0),af,af]
  by_cases hr:0<=a/\a<=65535
  rotate_left
  ·rw[aP hr,eF,aV]
   exact⟨false,rfl,fun h=>by cases h⟩
  rw[aF hr,eu,ap]
  refine oZ (fun x=>∃j:Nat,j<=n/\x=((a,(n:Int),(j:Int),()),(m,()),())/\∀k,k<j->¬fnd m (a+(k:Nat))<0) (fun x=>n-x.1.2.2.1.toNat) (fun _ o=>∃b:Bool,o=some (b,())/\(b=true->∀k,k<n->¬fnd m (a+(k:Nat))<0)) ?_ F _ ⟨0,by omega,rfl,fun k hk=>by omega⟩ (by unfold F;dsimp only;omega)
  rintro _ rec ⟨j,hj,rfl,hall⟩ hrec
  dsimp only
  by_cases hlt:j<n
  ·rw[ag (kN),aW,oK m hm _ (by unfold I64;omega),af]
   dsimp only
   by_cases hf:fnd m (a+(j:Int))<0
   ·rw[ag (kN hf)]
    exact⟨false,rfl,fun h=>by cases h⟩
   ·rw[aq (kJ hf),aW]
    exact hrec _ ⟨j+1,by omega,rfl,fun k hk=>by
     by_cases e:k=j
     ·subst e;exact hf
     ·exact hall k (by omega)⟩ (by dsimp only;omega)
  ·have:j=n:=by omega
   subst this
   rw[aq (kJ)]
   exact⟨true,rfl,fun _=>hall⟩
 ·have:n=0:=by omega
  subst this
  rw[aq (kJ h0),af,ap]
  refine oZ (fun x=>x.1.2.1=0/\x.1.2.2.1=0) (fun _=>0) (fun _ o=>∃b:Bool,o=some (b,())/\(b=true->∀k,k<0->¬fnd m (a+(k:Nat))<0)) ?_ F _ ⟨rfl,rfl⟩ (by unfold F;omega)
  rintro⟨⟨a,n,j,_⟩,_⟩ rec ⟨h1,h2⟩ hrec
  dsimp only at h1 h2|-
  subst h1 h2
  rw[aq (kJ (by decide))]
  exact⟨true,rfl,fun _ k hk=>by omega⟩
theorem xF {code:List Int}(hc:kR code):Ret (io ((code,()),())) fun r=>∃g p f m,r=(((g,p,f,()),(m,()),()),())/\lj g/\I64 p/\I64 f/\ct f=true/\MemT m:=by
 unfold io
 refine Ret.bnd (EC hc) fun s hs=>?_
 refine Ret.bnd (show Ret (fq ((),s.2)) _ from cpu_r hc hs.code hs) ?_
 rintro r3 ⟨⟨g,p,f,e3,hg,hp,hf,hb⟩,c3⟩
 refine Ret.bnd (IU hc (by decide) hs.code c3) ?_
 rintro r4 ⟨⟨ps,e4,hd⟩,c4⟩
 have hT:=hd.memT.1
 rw[e3,e4]
 refine Ret.iter (fun x=>∃(j:Nat) (t:List UInt8) (z:List Int×Int×Int×Unit) (q:uT),j<=5/\t.length<=20*j/\Src code (10000+420*j) q/\x=((t,(j:Int),()),z,(),q,(g,p,f,()),(ps,()),())) (fun x=>5-x.1.2.1.toNat) ?_ F _ ⟨0,[],_,_,by omega,by simp,by simpa using c4,rfl⟩ (by unfold F;simp)
 rintro _ rec ⟨j,t,z,q,hj,ht,cq,rfl⟩ hrec
 dsimp only[p5]
 refine Ret.br (fun hl=>?_) fun _=>?_
 ·rw[xe]at hl
  refine Ret.bnd (near_r hc (by omega) cq.code cq) ?_
  rintro r7 ⟨hv,c7⟩
  refine Ret.bnd (encodeE hv) ?_
  rintro⟨e8,u⟩ h8
  dsimp only at h8
  refine Ret.need (j5 (by dsimp only;omega)) ?_
  rw[aW]
  refine hrec _ ⟨j+1,eI t e8,z,_,by omega,by unfold eI;rw[ch];omega,c7.mono (by omega),rfl⟩ (by dsimp only;omega)
 ·obtain⟨b,hb1,hb2⟩:=has_ex hT.r p t.length (by omega)
  rw[bW,hb1,af]
  cases b with
  |false=>
   rw[ap,af]
   exact Ret.some ⟨g,p,f,ps,rfl,hg,hp,hf,hb,hT⟩
  |true=>
   obtain⟨y,hy,hL⟩:=KA ps hT p t hp (by omega) (hb2 rfl)
   rw[aV,hy,af,af]
   exact Ret.some ⟨g,p,f,y,rfl,hg,hp,hf,hb,hL.memT hT⟩
theorem DI (x:List Page)(hx:x.length<=1048576):dW ((x,x,()),())=some (true,()):=by
 unfold dW
 simp only[bW]
 rw[bK rfl,eu,ap]
 refine iJ (fun s=>s.1.1=x/\s.1.2.1=x/\s.1.2.2.1=(x.length:Int)/\0<=s.1.2.2.2.1/\s.1.2.2.2.1<=(x.length:Int)) (fun s=>x.length-s.1.2.2.2.1.toNat) (fun _=>some (true,())) ?_ F _ ⟨rfl,rfl,rfl,by dsimp only;omega,by dsimp only;omega⟩ (by unfold F;dsimp only;omega)
 rintro⟨⟨y,z,l,i,_⟩,_⟩ rec ⟨h1,h2,h3,h4,h5⟩ hrec
 dsimp only at h1 h2 h3 h4 h5 hrec|-
 subst h1 h2 h3
 by_cases hi:i<(z.length:Int)
 ·rw[ag (kN hi),ag (cQ h4 hi),ag (cQ h4 hi),bK rfl,bK rfl,show eqS _ _=true from aF rfl]
  rw[show bm (kC true (kC true true))=false from rfl,ap,aW]
  exact hrec _ ⟨rfl,rfl,rfl,by dsimp only;omega,by dsimp only;omega⟩ (by dsimp only;omega)
 ·rw[aq (kJ hi)]
theorem uR (x:List Page)(hx:MemT x):eG (((x,()),(x,()),()),())=some (true,()):=by
 have hl:=hx.len
 unfold eG
 dsimp only
 rw[lX x (by omega) (by unfold F;omega),af,hx.ok,aV,af,af]
 dsimp only
 rw[aV,DI x (by omega),af,af]
theorem Ka {more:List Int}(hc:kR more)(i n:Int)(hi:0<=i)(hi2:i<=1000000)(hn:1<=n):Ret (nY ((more,i,n,()),())) fun r=>0<=r.1/\r.1<n:=by
 unfold nY
 dsimp only
 refine Ret.br (fun _=>Ret.some ⟨by dsimp only;omega,by dsimp only;omega⟩) fun h1=>Ret.br (fun h2=>?_) fun h2=>?_
 ·refine Ret.need (by rw[aD];rfl) (Ret.some ?_)
  rw[dh,cS]
  exact⟨eg _ (by omega),eZ _ (by omega)⟩
 ·rw[FI]at h2
  rw[bW]at h2|-
  have hl:0<(more.length:Int):=by omega
  have h3:bm (eqI (more.length:Int) 0)=true:=by rw[aD h2];rfl
  have hb:∀j,0<=j->j<(more.length:Int)->0<=bk more j (aJ .u)/\bk more j (aJ .u)<=255:=fun j h0 h1=>mo (P:=fun x=>0<=x/\x<=255) h0 h1 hc.1
  rw[aW (a:=i),cS (a:=i),cS (a:=i+1)]
  have e1:=eg i (show(more.length:Int)≠0 by omega)
  have e2:=eZ i hl
  have e3:=eg (i+1) (show(more.length:Int)≠0 by omega)
  have e4:=eZ (i+1) hl
  refine Ret.need h3 (Ret.need (cQ e1 e2) (Ret.need h3 (Ret.need (cQ e3 e4) (Ret.need h3 (Ret.need (by rw[aD];rfl) (Ret.some ?_))))))
  obtain⟨x0,x1⟩:=hb _ e1 e2
  obtain⟨y0,y1⟩:=hb _ e3 e4
  have q0:0<=i/(more.length:Int):=qE hi (by omega)
  have q1:i/(more.length:Int)<=i:=Int.ediv_le_self _ hi
  rw[ig hi hl (by omega),qi,qi,dh,aW (a:=bk more (i%more.length) (aJ .u)*31),aW,cS]
  exact⟨eg _ (by omega),eZ _ (by omega)⟩
theorem yb (n:Nat)(g:List Int):eqA n g g=true:=aF rfl
theorem Es (y:VTL.Ty [.list .u,.list .u])(h:VTL.wf [.list .u,.list .u] y):iC (y,())=some (true,()):=by
 obtain⟨code,more,_⟩:=y
 unfold iC
 dsimp only
 by_cases hc:1048576<(code.length:Int)
 ·rw[bW,ag (kN hc),af,aV]
 by_cases hm:1048576<(more.length:Int)
 ·rw[bW,aq (kJ hc),af,bW,ag (kN hm)]
 rw[bW,bW,aq (kJ hc),af,aq (kJ hm)]
 obtain⟨⟨_,h1⟩,⟨_,h2⟩,_⟩:=h
 have hcB:kR code:=⟨fun b hb=>Ke (h1 b hb),by omega⟩
 have hmB:kR more:=⟨fun b hb=>Ke (h2 b hb),by omega⟩
 obtain⟨_,e3,g,p,f,m,rfl,hg,hp,hf,hb,hT⟩:=xF hcB
 rw[e3,af]
 dsimp only
 obtain⟨⟨n,u4⟩,e4,n0,n1⟩:=Ka hmB 0 8 (by decide) (by decide) (by decide)
 rw[e4,af]
 obtain⟨⟨k,u5⟩,e5,k0,k1⟩:=Ka hmB 1 8 (by decide) (by decide) (by decide)
 rw[e5,af]
 dsimp only at n0 n1 k0 k1|-
 obtain⟨n,rfl⟩:=bU n0
 obtain⟨k,rfl⟩:=bU k0
 have hS:StOK g p f m:=⟨hT,hg,hf,hb,hp⟩
 obtain⟨g1,p1,f1,m1,s1,a1,b1,_,i1⟩:=uN hS n (by omega)
 obtain⟨g2,p2,f2,m2,s2,a2,b2,_,i2⟩:=uN s1 k (by omega)
 obtain⟨g3,p3,f3,m3,s3,a3,b3,r3,i3⟩:=uN hS (n+k) (by omega)
 have hnk:aL .i64 (n:Int) (k:Int)=((n+k:Nat):Int):=by rw[aW];omega
 have hadd:=Dt n k (g,p,f,()) m
 rw[a1,b1]at hadd
 have i1':fg (((g,p,f,()),(m,()),(n:Int),u4),())=_:=i1
 have i2':fg (((g1,p1,f1,()),(m1,()),(k:Int),u5),())=_:=i2
 rw[i1',af]
 dsimp only
 rw[i2',af,hnk,i3,af,r3,af]
 dsimp only
 have hcc:∀a:Int,eqI a a=true:=fun a=>bK rfl
 simp only[yb,hcc,show kC true (kC true true)=true from rfl,eu,ap,uR m3 s3.mT,af]
 by_cases hz:(mt n (g,p,f,()) m).2.2.2=0
 ·rw[aa hz]at hadd
  have hcn:=Du n _ _ hz
  have e1:(g3,p3,f3,())=(g2,p2,f2,()):=by rw[<-a3,<-a2,hadd];rfl
  have e2:m3=m2:=by rw[<-b3,<-b2,hadd];rfl
  have e3:(mt (n+k) (g,p,f,()) m).2.2.1=(mt k (g1,p1,f1,()) m1).2.2.1+n:=by rw[hadd];rfl
  have e4:(mt (n+k) (g,p,f,()) m).2.2.2=(mt k (g1,p1,f1,()) m1).2.2.2:=by rw[hadd];rfl
  simp only[Prod.mk.injEq]at e1
  obtain⟨rfl,rfl,rfl,_⟩:=e1
  subst e2
  have hq:aL .i64 (n:Int) (mt k (g1,p1,f1,()) m1).2.2.1=(mt k (g1,p1,f1,()) m1).2.2.1+n:=by
   have hle:=G4 k (g1,p1,f1,()) m1
   have:=fd (n:=(n:Int)+(mt k (g1,p1,f1,()) m1).2.2.1) ⟨by omega,by omega⟩
   unfold aL
   rw[this];omega
  rw[hcn,e3,e4]
  simp only[bK hz,eu,ap,hcc,aV,af,hq,yb,show kC true (kC true true)=true from rfl,uR m3 s3.mT]
 ·rw[ae hz]at hadd
  have e1:(g3,p3,f3,())=(g1,p1,f1,()):=by rw[<-a3,<-a1,hadd]
  have e2:m3=m1:=by rw[<-b3,<-b1,hadd]
  simp only[Prod.mk.injEq]at e1
  obtain⟨rfl,rfl,rfl,_⟩:=e1
  subst e2
  rw[hadd]
  simp only[aD hz,eF,aV,hcc,af,yb,show kC true (kC true true)=true from rfl,uR m3 s3.mT]
end Go.Den.G
