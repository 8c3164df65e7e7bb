/- Theory for the proofs of this claim: see its last text. -/
import Derived.Test.YtmpliclmlpjopaaGreatFnExecInstr
import Derived.Test.YtmpliclmlpjopaaGreatDenF
import Derived.KernelRfl
import Derived.Laws.MathBits
import Derived.Test.YtmpliclmlpjopaaGreatPbExecInstr
namespace Go.Den.G
open Go.Den
set_option maxRecDepth 100000
noncomputable section
theorem xW {r:Int×MS}{g:List Int}{m:List Page}(hg:r.2.g=g)(hm:r.2.m=m):∃v c' l',r=(v,MS.mk g m c' l'):=by
 obtain⟨v,g',m',c',l'⟩:=r
 cases hg;cases hm
 exact⟨v,c',l',rfl⟩
theorem pI {g:List Int}{m:List Page}{c:Int}{l:List Acc}{k:Nat}(hs:(MS.mk g m c l).ok k)(hk:k≤1000){o:Opd}{n:Nat}(hn:bX (n:Int)=true)(hv:OpV o n)(nx:Int):
  ∃v c' l',(MS.mk g m c l).rd nx o n=(v,⟨g,m,c',l'⟩)∧(∀rip fl,au ((cB o (),((n:Int),())),((g,rip,fl,nx,c,()),m,l,()))=some (v,((g,rip,fl,nx,c',()),m,l',())))∧(MS.mk g m c' l').ok (k+1)∧I64 v:=by
 obtain⟨h1,h2,h3,h4⟩:=hs.rd nx hn hv
 have h5:=fun rip fl=>DI hs hk hn hv rip fl nx
 obtain⟨v,c',l',e⟩:=xW h3 h4
 rw[e]at h1 h2
 refine⟨v,c',l',e,fun rip fl=>?_,h1,h2⟩
 have:=h5 rip fl
 rw[e]at this
 exact this
theorem qr {g:List Int}{m:List Page}{c:Int}{l:List Acc}{k:Nat}(hs:(MS.mk g m c l).ok k)(hk:k≤1000){o:Opd}{n:Nat}(hn:bX (n:Int)=true)(hv:OpV o n)(h0:o.kind=1∨o.kind=2)(nx:Int){v:Int}(hI:I64 v):
  ∃g' m' c' l',(MS.mk g m c l).wr nx o n v=⟨g',m',c',l'⟩∧(∀rip fl,an ((cB o (),((n:Int),(v,()))),((g,rip,fl,nx,c,()),m,l,()))=some ((),((g',rip,fl,nx,c',()),m',l',())))∧(MS.mk g' m' c' l').ok (k+1):=
 ⟨_,_,_,_,rfl,fun rip fl=>write_m hs hk hn hv h0 rip fl nx,hs.wr nx hI hn hv⟩
theorem pu_ex {g:List Int}{m:List Page}{c:Int}{l:List Acc}{k:Nat}(hs:(MS.mk g m c l).ok k)(hk:k≤1000)(v:Int):
  ∃g' m' c' l',(MS.mk g m c l).pu v=⟨g',m',c',l'⟩∧(∀rip fl nx,bQ ((v,()),((g,rip,fl,nx,c,()),m,l,()))=some ((),((g',rip,fl,nx,c',()),m',l',())))∧(MS.mk g' m' c' l').ok (k+1):=
 ⟨_,_,_,_,rfl,fun rip fl nx=>push_m hs hk v rip fl nx,hs.pu v⟩
theorem po_ex {g:List Int}{m:List Page}{c:Int}{l:List Acc}{k:Nat}(hs:(MS.mk g m c l).ok k)(hk:k≤1000):
  ∃v g' m' c' l',(MS.mk g m c l).po=(v,⟨g',m',c',l'⟩)∧(∀rip fl nx,bY ((),((g,rip,fl,nx,c,()),m,l,()))=some (v,((g',rip,fl,nx,c',()),m',l',())))∧(MS.mk g' m' c' l').ok (k+1)∧I64 v:=
 ⟨_,_,_,_,_,rfl,fun rip fl nx=>pop_m hs hk rip fl nx,hs.po.1,hs.po.2.1⟩
theorem go_ex {g:List Int}{m:List Page}{c:Int}{l:List Acc}{k:Nat}(hs:(MS.mk g m c l).ok k)(hk:k≤1000){x:Ins}(hv:OpV x.src 8)(nx:Int):
  ∃v c' l',(MS.mk g m c l).go nx x=(v,⟨g,m,c',l'⟩)∧(∀rip fl,bg ((x,()),((g,rip,fl,nx,c,()),m,l,()))=some (v,((g,rip,fl,nx,c',()),m,l',())))∧(MS.mk g m c' l').ok (k+1)∧I64 v:=by
 obtain⟨h1,h2⟩:=hs.go nx hv
 have h5:=fun rip fl=>goal_m hs hk hv rip fl nx
 have h3:((MS.mk g m c l).go nx x).2.g=g∧((MS.mk g m c l).go nx x).2.m=m:=by
  unfold MS.go
  split
  ·exact⟨rfl,rfl⟩
  ·exact(hs.rd nx (n:=8) rfl hv).2.2
 obtain⟨v,c',l',e⟩:=xW h3.1 h3.2
 rw[e]at h1 h2
 refine⟨v,c',l',e,fun rip fl=>?_,h1,h2⟩
 have:=h5 rip fl
 rw[e]at this
 exact this
theorem ld_ex {g:List Int}{m:List Page}{c:Int}{l:List Acc}{k:Nat}(hs:(MS.mk g m c l).ok k)(hk:k≤1000){a:Int}(ha:I64 a){n:Nat}(hn:bX (n:Int)=true):
  ∃v c' l',(MS.mk g m c l).ld a n=(v,⟨g,m,c',l'⟩)∧(∀rip fl nx,aL ((a,((n:Int),())),((g,rip,fl,nx,c,()),m,l,()))=some (v,((g,rip,fl,nx,c',()),m,l',())))∧(MS.mk g m c' l').ok (k+1)∧I64 v:=by
 obtain⟨h1,h2,h3,h4⟩:=hs.ld a n
 have h5:=fun rip fl nx=>zH hs hk ha hn rip fl nx
 obtain⟨v,c',l',e⟩:=xW h3 h4
 rw[e]at h1 h2
 refine⟨v,c',l',e,fun rip fl nx=>?_,h1,h2⟩
 have:=h5 rip fl nx
 rw[e]at this
 exact this
theorem st_ex {g:List Int}{m:List Page}{c:Int}{l:List Acc}{k:Nat}(hs:(MS.mk g m c l).ok k)(hk:k≤1000){a:Int}(ha:I64 a){n:Nat}(hn:bX (n:Int)=true)(v:Int):
  ∃m' c' l',(MS.mk g m c l).st a n v=⟨g,m',c',l'⟩∧(∀rip fl nx,aE ((a,((n:Int),(v,()))),((g,rip,fl,nx,c,()),m,l,()))=some ((),((g,rip,fl,nx,c',()),m',l',())))∧(MS.mk g m' c' l').ok (k+1):=by
 obtain⟨h1,h2⟩:=hs.st ha hn v
 have h5:=fun rip fl nx=>vP hs hk (v:=v) ha hn rip fl nx
 obtain⟨m',c',l',e⟩:∃m' c' l',(MS.mk g m c l).st a n v=⟨g,m',c',l'⟩:=by
  generalize (MS.mk g m c l).st a n v=r at h2
  obtain⟨g',m',c',l'⟩:=r
  cases h2
  exact⟨m',c',l',rfl⟩
 rw[e]at h1
 refine⟨m',c',l',e,fun rip fl nx=>?_,h1⟩
 have:=h5 rip fl nx
 rw[e]at this
 exact this
def wS (n z:Nat):Nat:=if 20≤n∧n≤24 then 8 else z
def mT (n z:Nat)(a b fl:Int):Int×Int:=
 if n≤8∨n=10 then uK n z a b fl else if n=11∨n=12∨n=18∨n=19 then vA n z a fl
 else if 20≤n then ip n z a (bL b 1) fl else((pp n z a b fl).1,(pp n z a b fl).2.2)
def MS.rd0 (s:MS)(nx:Int)(o:Opd)(n:Nat):Int×MS:=if o.kind≠0 then s.rd nx o n else(0,s)
def MS.reck (s:MS)(nx fl:Int)(x:Ins)(n z:Nat):MS×Int:=
 let a:=s.rd nx x.dst z
 let b:=a.2.rd0 nx x.src (wS n z)
 let r:=mT n z a.1 b.1 fl
 (if n≠8∧n≠10 then b.2.wr nx x.dst z r.1 else b.2,r.2)
theorem oi {x:Ins}{n z:Nat}(hx:ExV x n)(hn:n≤24)(hz:x.size=z)(hz':bX (z:Int)=true):bU ((x,()),())=some ((wS n z:Int),())∧sSz x n=(wS n z:Int):=by
 have hf:=hx.fr.2 (by omega)
 have h0:=(di hz').1
 unfold bU be sSz wS
 dsimp only
 rw[hf,bn rfl,cc,ap,kT,aa,aa,hx.op,hz]
 dsimp only
 by_cases h:20≤n∧n≤24
 ·have hb:inB (n:Int) 20 24=true:=by unfold inB;simp;omega
  rw[hb,aR,aa,aR,if_pos h,if_pos h]
  exact⟨rfl,rfl⟩
 ·have hb:inB (n:Int) 20 24=false:=by unfold inB;simp;omega
  rw[hb,ap,aa,aw (aG (by omega)),if_neg h,if_neg h,if_neg (by decide)]
  exact⟨rfl,rfl⟩
theorem BI (n:Nat):gl (((n:Int),()),())=some (decide (1≤n∧n≤8∨n=10),()):=by
 unfold gl
 dsimp only
 rw[kT,aa]
 dsimp only
 have hb:inB (n:Int) 1 8=decide (1≤n∧n≤8):=by unfold inB;rw[Bool.eq_iff_iff];simp;omega
 have he:eqI (n:Int) 10=decide (n=10):=by unfold eqI;rw[Bool.eq_iff_iff];simp;omega
 rw[hb,he,iu,aa]
 congr 2
 rw[Bool.eq_iff_iff];simp
theorem BN (n:Nat):gn (((n:Int),()),())=some (decide (n=11∨n=12∨n=18∨n=19),()):=by
 unfold gn
 dsimp only
 have he:∀j:Nat,eqI (n:Int) (j:Int)=decide (n=j):=fun j=>by unfold eqI;rw[Bool.eq_iff_iff];simp;omega
 have e1:=he 11
 have e2:=he 12
 have e3:=he 18
 have e4:=he 19
 rw[show((11:Nat):Int)=11 from rfl]at e1
 rw[show((12:Nat):Int)=12 from rfl]at e2
 rw[show((18:Nat):Int)=18 from rfl]at e3
 rw[show((19:Nat):Int)=19 from rfl]at e4
 rw[e1,e2,e3,e4,iu,aa,iu,aa,iu,aa]
 congr 2
 rw[Bool.eq_iff_iff];simp[or_assoc]
theorem ve (n:Nat):be (((n:Int),()),())=some (decide (20≤n∧n≤24),()):=by
 unfold be
 dsimp only
 rw[kT,aa]
 congr 2
 unfold inB;rw[Bool.eq_iff_iff];simp;omega
theorem rckV_ok {n z:Nat}{a b fl:Int}(hz:bX (z:Int)=true)(ha:I64 a)(hI:I64 fl)(hf:bK fl=true):I64 (mT n z a b fl).1∧bK (mT n z a b fl).2=true∧I64 (mT n z a b fl).2:=by
 unfold mT
 split
 ·exact yt hz ha
 split
 ·exact z4 hz hI hf
 split
 ·exact um hz ha hI hf
 ·have:=rW (op:=n) (n:=z) (a:=a) (b:=b) hI hf
  exact⟨this.1,this.2.2.1,this.2.2.2⟩
theorem reck_m {g:List Int}{m:List Page}{c:Int}{l:List Acc}{k:Nat}(hs:(MS.mk g m c l).ok k)(hk:k+3≤1000){x:Ins}{n z:Nat}(hx:ExV x n)(hn:n≤8∨10≤n∧n≤12∨17≤n∧n≤24)(hz:x.size=z)
  {fl:Int} (hI:I64 fl) (hf:bK fl=true) (nx:Int):
  ∃g' m' c' l' fl',(MS.mk g m c l).reck nx fl x n z=(⟨g',m',c',l'⟩,fl')∧(∀rip,bR ((x,()),((g,rip,fl,nx,c,()),m,l,()))=some ((),((g',rip,fl',nx,c',()),m',l',())))∧(MS.mk g' m' c' l').ok (k+3)∧I64 fl'∧bK fl'=true:=by
 have hz':bX (z:Int)=true:=by rw[←hz];exact hx.szs.1 (by omega)
 have hkd:=hx.kd.1 (by omega)
 have hdv:=hx.dv
 have hsv:=hx.sv
 obtain⟨hss,hss2⟩:=oi hx (by omega) hz hz'
 rw[hz]at hdv
 rw[hss2]at hsv
 have hzs:bX (wS n z:Int)=true:=by unfold wS;split;rfl;exact hz'
 obtain⟨v1,c1,l1,e1,r1,ok1,I1⟩:=pI hs (by omega) hz' hdv nx
 have hb:∃v2 c2 l2,(MS.mk g m c1 l1).rd0 nx x.src (wS n z)=(v2,⟨g,m,c2,l2⟩)∧(MS.mk g m c2 l2).ok (k+2)∧I64 v2∧(x.src.kind=0→v2=0∧c2=c1∧l2=l1)∧
   (x.src.kind≠0→∀rip fl,au ((cB x.src (),((wS n z:Int),())),((g,rip,fl,nx,c1,()),m,l1,()))=some (v2,((g,rip,fl,nx,c2,()),m,l2,()))):=by
  unfold MS.rd0
  by_cases h0:x.src.kind=0
  ·rw[if_neg (by simpa using h0)]
   exact⟨0,c1,l1,rfl,ok1.mono (by omega),by unfold I64;omega,fun _=>⟨rfl,rfl,rfl⟩,fun h=>absurd h0 h⟩
  ·rw[if_pos h0]
   obtain⟨v2,c2,l2,e2,r2,ok2,I2⟩:=pI ok1 (by omega) hzs hsv nx
   exact⟨v2,c2,l2,e2,ok2,I2,fun h=>absurd h h0,fun _=>r2⟩
 obtain⟨v2,c2,l2,e2,ok2,I2,h20,h21⟩:=hb
 obtain⟨rI,rf,rfI⟩:=rckV_ok (n:=n) (b:=v2) hz' I1 hI hf
 have hw:∃g' m' c' l',(if n≠8∧n≠10 then(MS.mk g m c2 l2).wr nx x.dst z (mT n z v1 v2 fl).1 else(MS.mk g m c2 l2))=⟨g',m',c',l'⟩∧(MS.mk g' m' c' l').ok (k+3)∧
   (n≠8∧n≠10→∀rip fl',an ((cB x.dst (),((z:Int),((mT n z v1 v2 fl).1,()))),((g,rip,fl',nx,c2,()),m,l2,()))=some ((),((g',rip,fl',nx,c',()),m',l',())))∧
   (¬(n≠8∧n≠10)→g'=g∧m'=m∧c'=c2∧l'=l2):=by
  by_cases h:n≠8∧n≠10
  ·rw[if_pos h]
   obtain⟨g',m',c',l',e3,r3,ok3⟩:=qr ok2 (by omega) hz' hdv hkd nx rI
   exact⟨g',m',c',l',e3,ok3,fun _=>r3,fun g=>absurd h g⟩
  ·rw[if_neg h]
   exact⟨g,m,c2,l2,rfl,ok2.mono (by omega),fun g=>absurd g h,fun _=>⟨rfl,rfl,rfl,rfl⟩⟩
 obtain⟨g',m',c',l',e3,ok3,w1,w2⟩:=hw
 refine⟨g',m',c',l',(mT n z v1 v2 fl).2,?_,fun rip=>?_,ok3,rfI,rf⟩
 ·unfold MS.reck
  dsimp only
  rw[e1]
  dsimp only
  rw[e2]
  dsimp only
  rw[e3]
 unfold bR
 dsimp only
 rw[hz,r1,aa]
 dsimp only
 refine(Ret.bnd (Q:=fun y=>y=Sum.inl ((v1,(v2,())),((g,rip,fl,nx,c2,()),(m,(l2,((cz x ()),())))))) ?_ ?_).eq
 ·by_cases h0:x.src.kind=0
  ·obtain⟨rfl,rfl,rfl⟩:=h20 h0
   rw[bn h0,cc,ap]
   exact Ret.some rfl
  ·rw[aG h0,dp,aR,hss,aa,h21 h0,aa]
   exact Ret.some rfl
 rintro _ rfl
 rw[ar]
 dsimp only[cz,cB]
 rw[hx.op,hz,BI,aa]
 dsimp only
 refine Ret.bnd (Q:=fun y=>y=Sum.inl (((mT n z v1 v2 fl).1,()),((g,rip,(mT n z v1 v2 fl).2,nx,c2,()),(m,(l2,((cz x ()),())))))) ?_ ?_
 ·have ex:(((n:Int),(z:Int),x.cond,x.frm,x.dst.kind,x.dst.reg,x.dst.base,x.dst.index,x.dst.scale,x.dst.disp,x.dst.imm,x.src.kind,x.src.reg,x.src.base,x.src.index,x.src.scale,x.src.disp,x.src.imm,x.len,()):Int×Int×Int×Int×Int×Int×Int×Int×Int×Int×Int×Int×Int×Int×Int×Int×Int×Int×Int×Unit)=cz x ():=by
   rw[←hx.op,←hz];rfl
  unfold mT
  by_cases ha:n≤8∨n=10
  ·have h1:=hx.n1
   rw[decide_eq_true (by omega),aR,if_pos ha,alu_eq hz' I1 I2,aa]
   dsimp only
   exact Ret.some (by rw[ex])
  ·rw[decide_eq_false (by omega),ap,if_neg ha,BN,aa]
   dsimp only
   refine Ret.bnd (Q:=fun y=>y=Sum.inl (((mT n z v1 v2 fl).1,()),((g,rip,(mT n z v1 v2 fl).2,nx,c2,()),(m,(l2,((cz x ()),())))))) ?_ ?_
   ·unfold mT
    rw[if_neg ha]
    by_cases h1:n=11∨n=12∨n=18∨n=19
    ·rw[decide_eq_true h1,aR,if_pos h1,one_eq hz' I1,aa]
     dsimp only
     exact Ret.some (by rw[ex])
    ·rw[decide_eq_false h1,ap,if_neg h1,ve,aa]
     dsimp only
     refine Ret.bnd (Q:=fun y=>y=Sum.inl (((mT n z v1 v2 fl).1,()),((g,rip,(mT n z v1 v2 fl).2,nx,c2,()),(m,(l2,((cz x ()),())))))) ?_ ?_
     ·unfold mT
      rw[if_neg ha,if_neg h1]
      by_cases h2:20≤n
      ·rw[decide_eq_true (by omega),aR,if_pos h2,show(1:Int)=((1:Nat):Int)from rfl,bB _ 1 rfl,aa,C5 (by omega) hz' I1 hI hf,aa]
       dsimp only
       exact Ret.some (by rw[ex])
      ·rw[decide_eq_false (by omega),ap,if_neg h2,pv hz' I1 I2 hI hf,aa]
       dsimp only
       exact Ret.some (by rw[ex])
     ·rintro _ rfl
      rw[ar]
      exact Ret.some (by unfold mT;rw[if_neg ha,if_neg h1])
   ·rintro _ rfl
    rw[ar]
    exact Ret.some (by unfold mT;rw[if_neg ha])
 rintro _ rfl
 rw[ar]
 dsimp only[cz,cB,cp7]
 rw[hx.op,hz]
 have hbr:br (aX (eqI (n:Int) 8)) (some (aX (eqI (n:Int) 10))) (some false)=some (decide (n≠8∧n≠10)):=by
  by_cases a8:n=8
  ·rw[bn (by omega),cc,ap,decide_eq_false (by omega)]
  ·rw[aG (by omega),dp,aR]
   by_cases a10:n=10
   ·rw[bn (by omega),cc,decide_eq_false (by omega)]
   ·rw[aG (by omega),dp,decide_eq_true (by omega)]
 rw[hbr,aa]
 by_cases h:n≠8∧n≠10
 ·rw[decide_eq_true h,aR]
  have hw:=w1 h rip (mT n z v1 v2 fl).2
  unfold cB at hw
  rw[hw,aa]
  exact Ret.some rfl
 ·obtain⟨rfl,rfl,rfl,rfl⟩:=w2 h
  rw[decide_eq_false h,ap]
  exact Ret.some rfl
end
end Go.Den.G
namespace Go.Den.G
open Go.Den
set_option maxRecDepth 100000
set_option linter.unusedSectionVars false
noncomputable section
def MS.flow (s:MS)(rip fl nx:Int)(x:Ins)(n:Nat):MS×Int:=
 if n=29 then((s.rd nx x.src 8).2.pu (s.rd nx x.src 8).1,rip)
 else if n=30 then(s.po.2.wr nx x.dst 8 s.po.1,rip)
 else if n=31 then((s.go nx x).2.pu nx,(s.go nx x).1)
 else if n=34 then(s.po.2,s.po.1)
 else if n=32 then((s.go nx x).2,(s.go nx x).1)
 else if n=33 then(if gP x.cond fl=true then((s.go nx x).2,(s.go nx x).1)else(s,rip))
 else if n=41 then({s.st (rg s.g 7) 1 (rg s.g 0)with g:=setA s.g 7 (ax .i64 (rg s.g 7) 1)},rip)
 else if n=42 then({(s.ld (rg s.g 6) 1).2.st (rg s.g 7) 1 (s.ld (rg s.g 6) 1).1 with g:=setA (setA s.g 6 (ax .i64 (rg s.g 6) 1)) 7 (ax .i64 (rg (setA s.g 6 (ax .i64 (rg s.g 6) 1)) 7) 1)},rip)
 else if n=38 then({s with code:=17},rip)
 else if n=43∨n=44 then({s with code:=18},rip)
 else(s,rip)
section
variable {g:List Int}{m:List Page}{c:Int}{l:List Acc}{k:Nat}(hs:(MS.mk g m c l).ok k)(hk:k+3≤1000){x:Ins}
include hs hk
theorem flow_29 (hx:ExV x 29)(rip fl nx:Int):∃g' m' c' l' rip',(MS.mk g m c l).flow rip fl nx x 29=(⟨g',m',c',l'⟩,rip')∧am ((x,()),((g,rip,fl,nx,c,()),m,l,()))=some ((),((g',rip',fl,nx,c',()),m',l',()))∧(MS.mk g' m' c' l').ok (k+3):=by
 unfold MS.flow am
 dsimp only
 have hop:=hx.op
 have hsv:=hx.sv
 rw[show sSz x 29=x.size from by unfold sSz;rw[if_neg (by decide),hx.fr.2 (by decide),if_neg (by decide)],hx.szs.2.2.1 (by decide)]at hsv
 obtain⟨v1,c1,l1,e1,r1,ok1,I1⟩:=pI hs (by omega) (n:=8) rfl hsv nx
 obtain⟨g',m',c',l',e2,r2,ok2⟩:=pu_ex ok1 (by omega) v1
 have r1':au ((cB x.src (),(8,())),((g,rip,fl,nx,c,()),m,l,()))=_:=r1 rip fl
 rw[if_pos rfl,e1,hop,bn (by omega),aR,r1',aa,r2,aa]
 exact⟨g',m',c',l',rip,by dsimp only;rw[e2],rfl,ok2.mono (by omega)⟩
theorem flow_30 (hx:ExV x 30)(rip fl nx:Int):∃g' m' c' l' rip',(MS.mk g m c l).flow rip fl nx x 30=(⟨g',m',c',l'⟩,rip')∧am ((x,()),((g,rip,fl,nx,c,()),m,l,()))=some ((),((g',rip',fl,nx,c',()),m',l',()))∧(MS.mk g' m' c' l').ok (k+3):=by
 unfold MS.flow am
 dsimp only
 have hop:=hx.op
 have hdv:=hx.dv
 rw[hx.szs.2.2.1 (by decide)]at hdv
 obtain⟨v1,g1,m1,c1,l1,e1,r1,ok1,I1⟩:=po_ex hs (by omega)
 obtain⟨g',m',c',l',e2,r2,ok2⟩:=qr ok1 (by omega) (n:=8) rfl hdv (hx.kd.1 (by decide)) nx I1
 have r2':an ((cB x.dst (),(8,(v1,()))),((g1,rip,fl,nx,c1,()),m1,l1,()))=_:=r2 rip fl
 rw[if_neg (by decide),if_pos rfl,e1,hop,aG (by omega),ap,bn (by omega),aR,r1,aa]
 dsimp only
 rw[r2',aa]
 exact⟨g',m',c',l',rip,by rw[e2],rfl,ok2.mono (by omega)⟩
theorem flow_31 (hx:ExV x 31)(rip fl nx:Int):∃g' m' c' l' rip',(MS.mk g m c l).flow rip fl nx x 31=(⟨g',m',c',l'⟩,rip')∧am ((x,()),((g,rip,fl,nx,c,()),m,l,()))=some ((),((g',rip',fl,nx,c',()),m',l',()))∧(MS.mk g' m' c' l').ok (k+3):=by
 unfold MS.flow am
 dsimp only
 have hop:=hx.op
 have hsv:=hx.sv
 rw[show sSz x 31=x.size from by unfold sSz;rw[if_neg (by decide),hx.fr.2 (by decide),if_neg (by decide)],hx.szs.2.2.1 (by decide)]at hsv
 obtain⟨v1,c1,l1,e1,r1,ok1,I1⟩:=go_ex hs (by omega) hsv nx
 obtain⟨g',m',c',l',e2,r2,ok2⟩:=pu_ex ok1 (by omega) nx
 rw[if_neg (by decide),if_neg (by decide),if_pos rfl,e1,hop,aG (by omega),ap,aG (by omega),ap,bn (by omega),aR,r1,aa]
 dsimp only
 rw[r2,aa]
 exact⟨g',m',c',l',v1,by rw[e2],rfl,ok2.mono (by omega)⟩
theorem flow_34 (hx:ExV x 34)(rip fl nx:Int):∃g' m' c' l' rip',(MS.mk g m c l).flow rip fl nx x 34=(⟨g',m',c',l'⟩,rip')∧am ((x,()),((g,rip,fl,nx,c,()),m,l,()))=some ((),((g',rip',fl,nx,c',()),m',l',()))∧(MS.mk g' m' c' l').ok (k+3):=by
 unfold MS.flow am
 dsimp only
 have hop:=hx.op
 obtain⟨v1,g1,m1,c1,l1,e1,r1,ok1,I1⟩:=po_ex hs (by omega)
 rw[if_neg (by decide),if_neg (by decide),if_neg (by decide),if_pos rfl,e1,hop,aG (by omega),ap,aG (by omega),ap,aG (by omega),ap,bn (by omega),aR,r1,aa]
 exact⟨g1,m1,c1,l1,v1,rfl,rfl,ok1.mono (by omega)⟩
theorem flow_32 (hx:ExV x 32)(rip fl nx:Int):∃g' m' c' l' rip',(MS.mk g m c l).flow rip fl nx x 32=(⟨g',m',c',l'⟩,rip')∧am ((x,()),((g,rip,fl,nx,c,()),m,l,()))=some ((),((g',rip',fl,nx,c',()),m',l',()))∧(MS.mk g' m' c' l').ok (k+3):=by
 unfold MS.flow am
 dsimp only
 have hop:=hx.op
 have hsv:=hx.sv
 rw[show sSz x 32=x.size from by unfold sSz;rw[if_neg (by decide),hx.fr.2 (by decide),if_neg (by decide)],hx.szs.2.2.1 (by decide)]at hsv
 obtain⟨v1,c1,l1,e1,r1,ok1,I1⟩:=go_ex hs (by omega) hsv nx
 rw[if_neg (by decide),if_neg (by decide),if_neg (by decide),if_neg (by decide),if_pos rfl,e1,hop,aG (by omega),ap,aG (by omega),ap,aG (by omega),ap,aG (by omega),ap,bn (by omega),aR,r1,aa]
 exact⟨g,m,c1,l1,v1,rfl,rfl,ok1.mono (by omega)⟩
theorem flow_33 (hx:ExV x 33)(rip fl nx:Int):∃g' m' c' l' rip',(MS.mk g m c l).flow rip fl nx x 33=(⟨g',m',c',l'⟩,rip')∧am ((x,()),((g,rip,fl,nx,c,()),m,l,()))=some ((),((g',rip',fl,nx,c',()),m',l',()))∧(MS.mk g' m' c' l').ok (k+3):=by
 unfold MS.flow am
 dsimp only
 have hop:=hx.op
 have hk3:=hx.kd.2.2.2.2.2.2.2.1 rfl
 have hgo:∀s:MS,s.go nx x=(ax .i64 nx x.src.imm,s):=fun s=>if_pos hk3
 have hg2:bg ((x,()),((g,rip,fl,nx,c,()),m,l,()))=some (ax .i64 nx x.src.imm,((g,rip,fl,nx,c,()),m,l,())):=by
  unfold bg
  dsimp only
  rw[bn hk3,aR]
 rw[if_neg (by decide),if_neg (by decide),if_neg (by decide),if_neg (by decide),if_neg (by decide),if_pos rfl,hgo,hop,aG (by omega),ap,aG (by omega),ap,aG (by omega),ap,aG (by omega),ap,aG (by omega),ap,bn (by omega),aR,rJ hx.c0 hx.c1,aa]
 dsimp only
 by_cases hh:gP x.cond fl=true
 ·rw[hh,aR,hg2,aa,if_pos rfl]
  exact⟨g,m,c,l,_,rfl,rfl,hs.mono (by omega)⟩
 ·rw[Bool.eq_false_iff.2 hh,ap,if_neg (by decide)]
  exact⟨g,m,c,l,_,rfl,rfl,hs.mono (by omega)⟩
theorem flow_41 (hx:ExV x 41)(rip fl nx:Int):∃g' m' c' l' rip',(MS.mk g m c l).flow rip fl nx x 41=(⟨g',m',c',l'⟩,rip')∧am ((x,()),((g,rip,fl,nx,c,()),m,l,()))=some ((),((g',rip',fl,nx,c',()),m',l',()))∧(MS.mk g' m' c' l').ok (k+3):=by
 unfold MS.flow am
 dsimp only
 have hop:=hx.op
 obtain⟨m',c',l',e1,r1,ok1⟩:=st_ex hs (by omega) (hs.g 7) (n:=1) rfl (rg g 0)
 have r1':aE ((aj g 7 (ag .i),(1,(aj g 0 (ag .i),()))),((g,rip,fl,nx,c,()),m,l,()))=_:=r1 rip fl nx
 rw[if_neg (by decide),if_neg (by decide),if_neg (by decide),if_neg (by decide),if_neg (by decide),if_neg (by decide),if_pos rfl,e1,hop,aG (by omega),ap,aG (by omega),ap,aG (by omega),ap,aG (by omega),ap,aG (by omega),ap,aG (by omega),ap,bn (by omega),aR,r1',aa]
 exact⟨_,m',c',l',rip,rfl,rfl,(ok1.setA (aD _)).mono (by omega)⟩
theorem flow_42 (hx:ExV x 42)(rip fl nx:Int):∃g' m' c' l' rip',(MS.mk g m c l).flow rip fl nx x 42=(⟨g',m',c',l'⟩,rip')∧am ((x,()),((g,rip,fl,nx,c,()),m,l,()))=some ((),((g',rip',fl,nx,c',()),m',l',()))∧(MS.mk g' m' c' l').ok (k+3):=by
 unfold MS.flow am
 dsimp only
 have hop:=hx.op
 obtain⟨v1,c1,l1,e1,r1,ok1,I1⟩:=ld_ex hs (by omega) (hs.g 6) (n:=1) rfl
 obtain⟨m',c',l',e2,r2,ok2⟩:=st_ex ok1 (by omega) (hs.g 7) (n:=1) rfl v1
 have r1':aL ((aj g 6 (ag .i),(1,())),((g,rip,fl,nx,c,()),m,l,()))=_:=r1 rip fl nx
 have r2':aE ((aj g 7 (ag .i),(1,(v1,()))),((g,rip,fl,nx,c1,()),m,l1,()))=_:=r2 rip fl nx
 rw[if_neg (by decide),if_neg (by decide),if_neg (by decide),if_neg (by decide),if_neg (by decide),if_neg (by decide),if_neg (by decide),if_pos rfl,e1,hop,aG (by omega),ap,aG (by omega),ap,aG (by omega),ap,aG (by omega),ap,aG (by omega),ap,aG (by omega),ap,aG (by omega),ap,bn (by omega),aR,r1',aa]
 dsimp only
 rw[r2',aa,e2]
 exact⟨_,m',c',l',rip,rfl,rfl,((ok2.setA (aD _)).setA (aD _)).mono (by omega)⟩
theorem flow_38 (hx:ExV x 38)(rip fl nx:Int):∃g' m' c' l' rip',(MS.mk g m c l).flow rip fl nx x 38=(⟨g',m',c',l'⟩,rip')∧am ((x,()),((g,rip,fl,nx,c,()),m,l,()))=some ((),((g',rip',fl,nx,c',()),m',l',()))∧(MS.mk g' m' c' l').ok (k+3):=by
 unfold MS.flow am
 dsimp only
 have hop:=hx.op
 rw[if_neg (by decide),if_neg (by decide),if_neg (by decide),if_neg (by decide),if_neg (by decide),if_neg (by decide),if_neg (by decide),if_neg (by decide),if_pos rfl,hop,aG (by omega),ap,aG (by omega),ap,aG (by omega),ap,aG (by omega),ap,aG (by omega),ap,aG (by omega),ap,aG (by omega),ap,aG (by omega),ap,bn (by omega),aR]
 exact⟨g,m,17,l,rip,rfl,rfl,⟨hs.m,Nat.le_trans hs.l (by omega),hs.g⟩⟩
theorem flow_43 (hx:ExV x 43)(rip fl nx:Int):∃g' m' c' l' rip',(MS.mk g m c l).flow rip fl nx x 43=(⟨g',m',c',l'⟩,rip')∧am ((x,()),((g,rip,fl,nx,c,()),m,l,()))=some ((),((g',rip',fl,nx,c',()),m',l',()))∧(MS.mk g' m' c' l').ok (k+3):=by
 unfold MS.flow am
 dsimp only
 have hop:=hx.op
 rw[if_neg (by decide),if_neg (by decide),if_neg (by decide),if_neg (by decide),if_neg (by decide),if_neg (by decide),if_neg (by decide),if_neg (by decide),if_neg (by decide),if_pos (by decide),hop,aG (by omega),ap,aG (by omega),ap,aG (by omega),ap,aG (by omega),ap,aG (by omega),ap,aG (by omega),ap,aG (by omega),ap,aG (by omega),ap,aG (by omega),ap]
 rw[show eqI ((43:Nat):Int) 43=true from rfl,aR,aa,ar]
 exact⟨g,m,18,l,rip,rfl,rfl,⟨hs.m,Nat.le_trans hs.l (by omega),hs.g⟩⟩
theorem flow_44 (hx:ExV x 44)(rip fl nx:Int):∃g' m' c' l' rip',(MS.mk g m c l).flow rip fl nx x 44=(⟨g',m',c',l'⟩,rip')∧am ((x,()),((g,rip,fl,nx,c,()),m,l,()))=some ((),((g',rip',fl,nx,c',()),m',l',()))∧(MS.mk g' m' c' l').ok (k+3):=by
 unfold MS.flow am
 dsimp only
 have hop:=hx.op
 rw[if_neg (by decide),if_neg (by decide),if_neg (by decide),if_neg (by decide),if_neg (by decide),if_neg (by decide),if_neg (by decide),if_neg (by decide),if_neg (by decide),if_pos (by decide),hop,aG (by omega),ap,aG (by omega),ap,aG (by omega),ap,aG (by omega),ap,aG (by omega),ap,aG (by omega),ap,aG (by omega),ap,aG (by omega),ap,aG (by omega),ap]
 rw[show eqI ((44:Nat):Int) 43=false from rfl,ap,aa,ar,show eqI ((44:Nat):Int) 44=true from rfl]
 exact⟨g,m,18,l,rip,rfl,rfl,⟨hs.m,Nat.le_trans hs.l (by omega),hs.g⟩⟩
theorem flow_37 (hx:ExV x 37)(rip fl nx:Int):∃g' m' c' l' rip',(MS.mk g m c l).flow rip fl nx x 37=(⟨g',m',c',l'⟩,rip')∧am ((x,()),((g,rip,fl,nx,c,()),m,l,()))=some ((),((g',rip',fl,nx,c',()),m',l',()))∧(MS.mk g' m' c' l').ok (k+3):=by
 unfold MS.flow am
 dsimp only
 have hop:=hx.op
 rw[if_neg (by decide),if_neg (by decide),if_neg (by decide),if_neg (by decide),if_neg (by decide),if_neg (by decide),if_neg (by decide),if_neg (by decide),if_neg (by decide),if_neg (by decide),hop,aG (by omega),ap,aG (by omega),ap,aG (by omega),ap,aG (by omega),ap,aG (by omega),ap,aG (by omega),ap,aG (by omega),ap,aG (by omega),ap,aG (by omega),ap]
 rw[show eqI ((37:Nat):Int) 43=false from rfl,ap,aa,ar,show eqI ((37:Nat):Int) 44=false from rfl]
 exact⟨g,m,c,l,rip,rfl,rfl,hs.mono (by omega)⟩
end
end
end Go.Den.G
namespace Go.Den.G
open Go.Den
set_option maxRecDepth 100000
set_option linter.unusedSectionVars false
set_option linter.unusedVariables false
noncomputable section
theorem Al {g:List Int}{r v:Int}{n:Nat}(hn:bX (n:Int)=true)(h15:r≤15){α:Type}(Z:List Int→Option α):
  (br (leI 4 (n:Int)) (bnd (af ((v,((n:Int),())),())) (fun x32=>Z (aN (cw 16 (ag .i) g) r x32.1))) (bnd (af ((v,((n:Int),())),())) (fun x33=>(bnd (af (((aj g r (ag .i)),((n:Int),())),())) (fun x34=>Z (aN (cw 16 (ag .i) g) r (ax .i64 (aj g r (ag .i)) (aM .i64 x33.1 x34.1))))))))=Z (pQ g r n v):=by
 unfold pQ Go.Den.G.setA
 rw[if_neg (by omega),bB _ n hn,bB _ n hn,aa,aa,aa]
 by_cases h4:4≤n
 ·rw[ah (fv (by omega)),if_pos h4]
 ·rw[aw (jy (by omega)),if_neg h4]
theorem oT:aB ((0,()),())=some (false,()):=kC 0
theorem isHigh2:aB ((2,()),())=some (false,()):=kC 2
theorem qZ {g:List Int}{r:Int}{n:Nat}(h:¬16≤r):bL (aj g r (ag .i)) n=ji g r n:=by
 unfold ji
 rw[if_neg h]
def MS.move (s:MS)(fl nx:Int)(x:Ins)(n z:Nat):MS:=
 if n=9 then(s.rd nx x.src z).2.wr nx x.dst z (s.rd nx x.src z).1
 else if n=28 then
  let a:=s.rd nx x.dst z
  let b:=a.2.rd nx x.src z
  (b.2.wr nx x.dst z b.1).wr nx x.src z a.1
 else if n=25 then s.wr nx x.dst z (lz s.g nx x.src)
 else if n=26 then(s.rd nx x.src x.frm.toNat).2.wr nx x.dst z (s.rd nx x.src x.frm.toNat).1
 else if n=27 then(s.rd nx x.src x.frm.toNat).2.wr nx x.dst z (sx (8*x.frm.toNat-1) (s.rd nx x.src x.frm.toNat).1)
 else if n=35 then s.wr nx x.dst 1 (if gP x.cond fl=true then 1 else 0)
 else if n=36 then
  let a:=s.rd nx x.src z
  let b:=if gP x.cond fl=true then a else a.2.rd nx x.dst z
  b.2.wr nx x.dst z b.1
 else if n=39 then {s with g:=pQ s.g 0 z (sx (8*(z/2)-1) (ji s.g 0 (z/2)))}
 else if n=40 then {s with g:=pQ s.g 2 z (ci .i64 (sx (8*z-1) (ji s.g 0 z)) 63)}
 else s
section
variable {g:List Int}{m:List Page}{c:Int}{l:List Acc}{k:Nat}(hs:(MS.mk g m c l).ok k)(hk:k+4≤1000){x:Ins}{z:Nat}
include hs hk
theorem move_9 (hx:ExV x 9)(hz:x.size=z)(rip fl nx:Int):∃g' m' c' l',(MS.mk g m c l).move fl nx x 9 z=⟨g',m',c',l'⟩∧aC ((x,()),((g,rip,fl,nx,c,()),m,l,()))=some ((),((g',rip,fl,nx,c',()),m',l',()))∧(MS.mk g' m' c' l').ok (k+4):=by
 unfold MS.move aC
 dsimp only
 have hop:=hx.op
 have hz':bX (z:Int)=true:=by rw[←hz];exact hx.szs.1 (by decide)
 have hdv:=hx.dv
 rw[hz]at hdv
 have hsv:=hx.sv
 rw[show sSz x 9=x.size from by unfold sSz;rw[if_neg (by decide),hx.fr.2 (by decide),if_neg (by decide)],hz]at hsv
 obtain⟨v1,c1,l1,e1,r1,ok1,I1⟩:=pI hs (by omega) hz' hsv nx
 obtain⟨g',m',c',l',e2,r2,ok2⟩:=qr ok1 (by omega) hz' hdv (hx.kd.1 (by decide)) nx I1
 rw[if_pos rfl,e1,hop,hz,bn (by omega),aR,r1,aa]
 dsimp only
 rw[r2,aa]
 exact⟨g',m',c',l',e2,rfl,ok2.mono (by omega)⟩
theorem move_28 (hx:ExV x 28)(hz:x.size=z)(rip fl nx:Int):∃g' m' c' l',(MS.mk g m c l).move fl nx x 28 z=⟨g',m',c',l'⟩∧aC ((x,()),((g,rip,fl,nx,c,()),m,l,()))=some ((),((g',rip,fl,nx,c',()),m',l',()))∧(MS.mk g' m' c' l').ok (k+4):=by
 unfold MS.move aC
 dsimp only
 have hop:=hx.op
 have hz':bX (z:Int)=true:=by rw[←hz];exact hx.szs.1 (by decide)
 have hdv:=hx.dv
 rw[hz]at hdv
 have hsv:=hx.sv
 rw[show sSz x 28=x.size from by unfold sSz;rw[if_neg (by decide),hx.fr.2 (by decide),if_neg (by decide)],hz]at hsv
 have hsk:x.src.kind=1∨x.src.kind=2:= .inl (hx.kd.2.1 rfl)
 obtain⟨v1,c1,l1,e1,r1,ok1,I1⟩:=pI hs (by omega) hz' hdv nx
 obtain⟨v2,c2,l2,e2,r2,ok2,I2⟩:=pI ok1 (by omega) hz' hsv nx
 obtain⟨g3,m3,c3,l3,e3,r3,ok3⟩:=qr ok2 (by omega) hz' hdv (hx.kd.1 (by decide)) nx I2
 obtain⟨g',m',c',l',e4,r4,ok4⟩:=qr ok3 (by omega) hz' hsv hsk nx I1
 rw[if_neg (by decide),if_pos rfl,e1,hop,hz,aG (by omega),ap,bn (by omega),aR,r1,aa]
 dsimp only
 rw[e2,r2,aa]
 dsimp only
 rw[e3,r3,aa]
 dsimp only
 rw[e4,r4,aa]
 exact⟨g',m',c',l',rfl,rfl,ok4⟩
theorem move_25 (hx:ExV x 25)(hz:x.size=z)(rip fl nx:Int):∃g' m' c' l',(MS.mk g m c l).move fl nx x 25 z=⟨g',m',c',l'⟩∧aC ((x,()),((g,rip,fl,nx,c,()),m,l,()))=some ((),((g',rip,fl,nx,c',()),m',l',()))∧(MS.mk g' m' c' l').ok (k+4):=by
 unfold MS.move aC
 dsimp only
 have hop:=hx.op
 have hz':bX (z:Int)=true:=by rw[←hz];exact hx.szs.1 (by decide)
 have hdv:=hx.dv
 rw[hz]at hdv
 have hsv:=hx.sv
 have hb:=hsv.b (hx.kd.2.2.1 rfl).2
 obtain⟨g',m',c',l',e2,r2,ok2⟩:=qr hs (by omega) hz' hdv (hx.kd.1 (by decide)) nx (jU (g:=g) (nx:=nx) hsv)
 have hfin:∀a:Int,a=lz g nx x.src→(bnd (an ((cB x.dst (),((z:Int),(a,()))),((g,rip,fl,nx,c,()),m,l,()))) (fun x8=>(some ((),((x8.2.1.1,(rip,(fl,(nx,x8.2.1.2.2.2.2)))),x8.2.2)))))=some ((),((g',rip,fl,nx,c',()),m',l',())):=by
  rintro _ rfl
  rw[r2,aa]
 rw[if_neg (by decide),if_neg (by decide),if_pos rfl,hop,hz,aG (by omega),ap,aG (by omega),ap,bn (by omega),aR]
 refine⟨g',m',c',l',e2,?_,ok2.mono (by omega)⟩
 by_cases b16:x.src.base=16
 ·rw[bn b16,aR]
  by_cases hi:0≤x.src.index
  ·rw[ah (fv hi),ah (cu hi (by omega))]
   exact hfin _ (by unfold lz;dsimp only;rw[if_pos b16,if_pos hi])
  ·rw[aw (jy hi)]
   exact hfin _ (by unfold lz;dsimp only;rw[if_pos b16,if_neg hi])
 ·rw[aG b16,ap]
  by_cases hb0:0≤x.src.base
  ·rw[ah (fv hb0),ah (cu hb0 (by omega))]
   by_cases hi:0≤x.src.index
   ·rw[ah (fv hi),ah (cu hi (by omega))]
    exact hfin _ (by unfold lz;dsimp only;rw[if_neg b16,if_pos hb0,if_pos hi])
   ·rw[aw (jy hi)]
    exact hfin _ (by unfold lz;dsimp only;rw[if_neg b16,if_pos hb0,if_neg hi])
  ·rw[aw (jy hb0)]
   by_cases hi:0≤x.src.index
   ·rw[ah (fv hi),ah (cu hi (by omega))]
    exact hfin _ (by unfold lz;dsimp only;rw[if_neg b16,if_neg hb0,if_pos hi])
   ·rw[aw (jy hi)]
    exact hfin _ (by unfold lz;dsimp only;rw[if_neg b16,if_neg hb0,if_neg hi])
theorem move_26 (hx:ExV x 26)(hz:x.size=z)(rip fl nx:Int):∃g' m' c' l',(MS.mk g m c l).move fl nx x 26 z=⟨g',m',c',l'⟩∧aC ((x,()),((g,rip,fl,nx,c,()),m,l,()))=some ((),((g',rip,fl,nx,c',()),m',l',()))∧(MS.mk g' m' c' l').ok (k+4):=by
 unfold MS.move aC
 dsimp only
 have hop:=hx.op
 have hz':bX (z:Int)=true:=by rw[←hz];exact hx.szs.1 (by decide)
 have hdv:=hx.dv
 rw[hz]at hdv
 obtain⟨f,hf,hf'⟩:=nY (hx.fr.1 (by decide))
 have hsv:=hx.sv
 rw[show sSz x 26=x.frm from by unfold sSz;rw[if_neg (by decide),if_pos (by rw[hf];have:=(di hf').1;omega)],hf]at hsv
 have hfn:x.frm.toNat=f:=by rw[hf,Int.toNat_natCast]
 obtain⟨v1,c1,l1,e1,r1,ok1,I1⟩:=pI hs (by omega) hf' hsv nx
 obtain⟨g',m',c',l',e2,r2,ok2⟩:=qr ok1 (by omega) hz' hdv (hx.kd.1 (by decide)) nx I1
 rw[if_neg (by decide),if_neg (by decide),if_neg (by decide),if_pos rfl,hfn,e1,hop,hz,hf,aG (by omega),ap,aG (by omega),ap,aG (by omega),ap,bn (by omega),aR,r1,aa]
 dsimp only
 rw[r2,aa]
 exact⟨g',m',c',l',e2,rfl,ok2.mono (by omega)⟩
theorem move_27 (hx:ExV x 27)(hz:x.size=z)(rip fl nx:Int):∃g' m' c' l',(MS.mk g m c l).move fl nx x 27 z=⟨g',m',c',l'⟩∧aC ((x,()),((g,rip,fl,nx,c,()),m,l,()))=some ((),((g',rip,fl,nx,c',()),m',l',()))∧(MS.mk g' m' c' l').ok (k+4):=by
 unfold MS.move aC
 dsimp only
 have hop:=hx.op
 have hz':bX (z:Int)=true:=by rw[←hz];exact hx.szs.1 (by decide)
 have hdv:=hx.dv
 rw[hz]at hdv
 obtain⟨f,hf,hf'⟩:=nY (hx.fr.1 (by decide))
 have hsv:=hx.sv
 rw[show sSz x 27=x.frm from by unfold sSz;rw[if_neg (by decide),if_pos (by rw[hf];have:=(di hf').1;omega)],hf]at hsv
 have hfn:x.frm.toNat=f:=by rw[hf,Int.toNat_natCast]
 obtain⟨h1,h8⟩:=di hf'
 obtain⟨v1,c1,l1,e1,r1,ok1,I1⟩:=pI hs (by omega) hf' hsv nx
 obtain⟨g',m',c',l',e2,r2,ok2⟩:=qr ok1 (by omega) hz' hdv (hx.kd.1 (by decide)) nx (iH (8*f-1) (by omega) v1)
 rw[if_neg (by decide),if_neg (by decide),if_neg (by decide),if_neg (by decide),if_pos rfl,hfn,e1,hop,hz,hf,aG (by omega),ap,aG (by omega),ap,aG (by omega),ap,aG (by omega),ap,bn (by omega),aR,r1,aa]
 dsimp only
 rw[ma _ _ (by omega) (by omega),aa,show(8*(f:Int)-1).toNat=8*f-1 by omega,r2,aa]
 exact⟨g',m',c',l',e2,rfl,ok2.mono (by omega)⟩
theorem move_35 (hx:ExV x 35)(hz:x.size=z)(rip fl nx:Int):∃g' m' c' l',(MS.mk g m c l).move fl nx x 35 z=⟨g',m',c',l'⟩∧aC ((x,()),((g,rip,fl,nx,c,()),m,l,()))=some ((),((g',rip,fl,nx,c',()),m',l',()))∧(MS.mk g' m' c' l').ok (k+4):=by
 unfold MS.move aC
 dsimp only
 have hop:=hx.op
 have hdv:=hx.dv
 rw[hx.szs.2.2.2.1 rfl]at hdv
 obtain⟨g',m',c',l',e2,r2,ok2⟩:=qr hs (by omega) (n:=1) rfl hdv (hx.kd.1 (by decide)) nx (v:=if gP x.cond fl=true then 1 else 0) (by split<;>(unfold I64;omega))
 have r2':an ((cB x.dst (),(1,(if gP x.cond fl=true then 1 else 0,()))),((g,rip,fl,nx,c,()),m,l,()))=_:=r2 rip fl
 rw[if_neg (by decide),if_neg (by decide),if_neg (by decide),if_neg (by decide),if_neg (by decide),if_pos rfl,hop,aG (by omega),ap,aG (by omega),ap,aG (by omega),ap,aG (by omega),ap,aG (by omega),ap,bn (by omega),aR,rJ hx.c0 hx.c1,aa]
 dsimp only
 rw[gf,aa,r2',aa]
 exact⟨g',m',c',l',e2,rfl,ok2.mono (by omega)⟩
theorem move_36 (hx:ExV x 36)(hz:x.size=z)(rip fl nx:Int):∃g' m' c' l',(MS.mk g m c l).move fl nx x 36 z=⟨g',m',c',l'⟩∧aC ((x,()),((g,rip,fl,nx,c,()),m,l,()))=some ((),((g',rip,fl,nx,c',()),m',l',()))∧(MS.mk g' m' c' l').ok (k+4):=by
 unfold MS.move aC
 dsimp only
 have hop:=hx.op
 have hz':bX (z:Int)=true:=by rw[←hz];exact hx.szs.1 (by decide)
 have hdv:=hx.dv
 rw[hz]at hdv
 have hsv:=hx.sv
 rw[show sSz x 36=x.size from by unfold sSz;rw[if_neg (by decide),hx.fr.2 (by decide),if_neg (by decide)],hz]at hsv
 obtain⟨v1,c1,l1,e1,r1,ok1,I1⟩:=pI hs (by omega) hz' hsv nx
 have hb:∃v2 c2 l2,(if gP x.cond fl=true then(v1,MS.mk g m c1 l1)else(MS.mk g m c1 l1).rd nx x.dst z)=(v2,MS.mk g m c2 l2)∧(MS.mk g m c2 l2).ok (k+2)∧I64 v2∧
   (gP x.cond fl=true→v2=v1∧c2=c1∧l2=l1)∧(gP x.cond fl=false→∀rip fl,au ((cB x.dst (),((z:Int),())),((g,rip,fl,nx,c1,()),m,l1,()))=some (v2,((g,rip,fl,nx,c2,()),m,l2,()))):=by
  by_cases hh:gP x.cond fl=true
  ·rw[if_pos hh]
   exact⟨v1,c1,l1,rfl,ok1.mono (by omega),I1,fun _=>⟨rfl,rfl,rfl⟩,fun h=>by rw[hh]at h;cases h⟩
  ·rw[if_neg hh]
   obtain⟨v2,c2,l2,e2,r2,ok2,I2⟩:=pI ok1 (by omega) hz' hdv nx
   exact⟨v2,c2,l2,e2,ok2,I2,fun h=>absurd h hh,fun _=>r2⟩
 obtain⟨v2,c2,l2,e2,ok2,I2,t1,t2⟩:=hb
 obtain⟨g',m',c',l',e3,r3,ok3⟩:=qr ok2 (by omega) hz' hdv (hx.kd.1 (by decide)) nx I2
 rw[if_neg (by decide),if_neg (by decide),if_neg (by decide),if_neg (by decide),if_neg (by decide),if_neg (by decide),if_pos rfl,e1,hop,hz,aG (by omega),ap,aG (by omega),ap,aG (by omega),ap,aG (by omega),ap,aG (by omega),ap,aG (by omega),ap,bn (by omega),aR,r1,aa,rJ hx.c0 hx.c1,aa]
 dsimp only
 rw[e2]
 dsimp only
 refine⟨g',m',c',l',e3,?_,ok3.mono (by omega)⟩
 refine(Ret.bnd (Q:=fun y=>y=Sum.inl ((v2,()),((g,rip,fl,nx,c2,()),(m,(l2,((cz x ()),())))))) ?_ ?_).eq
 ·by_cases hh:gP x.cond fl=true
  ·obtain⟨rfl,rfl,rfl⟩:=t1 hh
   rw[hh,show aX true=false from rfl,ap]
   exact Ret.some rfl
  ·rw[Bool.eq_false_iff.2 hh,show aX false=true from rfl,aR,t2 (Bool.eq_false_iff.2 hh),aa]
   exact Ret.some rfl
 rintro _ rfl
 rw[ar]
 dsimp only[cz,cB,cp7]
 have hw:=r3 rip fl
 unfold cB at hw
 rw[hz,hw,aa]
 exact Ret.some rfl
theorem move_39 (hx:ExV x 39)(hz:x.size=z)(rip fl nx:Int):∃g' m' c' l',(MS.mk g m c l).move fl nx x 39 z=⟨g',m',c',l'⟩∧aC ((x,()),((g,rip,fl,nx,c,()),m,l,()))=some ((),((g',rip,fl,nx,c',()),m',l',()))∧(MS.mk g' m' c' l').ok (k+4):=by
 unfold MS.move aC
 dsimp only
 have hop:=hx.op
 have h3:z=2∨z=4∨z=8:=by have:=hx.szs.2.1 rfl;omega
 have hz':bX (z:Int)=true:=by rcases h3 with rfl|rfl|rfl<;>rfl
 have hz2:bX ((z/2:Nat):Int)=true:=by rcases h3 with rfl|rfl|rfl<;>rfl
 have hq:me .i64 (z:Int) 2=((z/2:Nat):Int):=by rw[mK (by omega) (by decide) (by omega)];omega
 obtain⟨h1,h8⟩:=di hz2
 have hI:=iH (8*(z/2)-1) (by omega) (ji g 0 (z/2))
 rw[if_neg (by decide),if_neg (by decide),if_neg (by decide),if_neg (by decide),if_neg (by decide),if_neg (by decide),if_neg (by decide),if_pos rfl,hop,hz,aG (by omega),ap,aG (by omega),ap,aG (by omega),ap,aG (by omega),ap,aG (by omega),ap,aG (by omega),ap,aG (by omega),ap,bn (by omega),aR,oT,aa]
 dsimp only
 rw[ap,hq,bB _ (z/2) hz2,aa]
 dsimp only
 rw[ma _ _ (by omega) (by omega),aa,aa,show(8*((z/2:Nat):Int)-1).toNat=8*(z/2)-1 by omega,qZ (by decide)]
 dsimp only
 rw[ap]
 refine⟨_,m,c,l,rfl,?_,⟨hs.m,Nat.le_trans hs.l (by omega),ki (g:=g) (r:=0) hs.g hI hz'⟩⟩
 exact Al hz' (by decide) (fun g'=>some ((),((g',(rip,(fl,(nx,(c,()))))),(m,(l,())))))
theorem move_40 (hx:ExV x 40)(hz:x.size=z)(rip fl nx:Int):∃g' m' c' l',(MS.mk g m c l).move fl nx x 40 z=⟨g',m',c',l'⟩∧aC ((x,()),((g,rip,fl,nx,c,()),m,l,()))=some ((),((g',rip,fl,nx,c',()),m',l',()))∧(MS.mk g' m' c' l').ok (k+4):=by
 unfold MS.move aC
 dsimp only
 have hop:=hx.op
 have hz':bX (z:Int)=true:=by rw[←hz];exact hx.szs.1 (by decide)
 have hdv:=hx.dv
 rw[hz]at hdv
 obtain⟨h1,h8⟩:=di hz'
 have hI:=iH (8*z-1) (by omega) (ji g 0 z)
 have hI2:I64 (ci .i64 (sx (8*z-1) (ji g 0 z)) 63):=by rw[Ao hI];split<;>(unfold I64;omega)
 rw[if_neg (by decide),if_neg (by decide),if_neg (by decide),if_neg (by decide),if_neg (by decide),if_neg (by decide),if_neg (by decide),if_neg (by decide),if_pos rfl,hop,hz,aG (by omega),ap,aG (by omega),ap,aG (by omega),ap,aG (by omega),ap,aG (by omega),ap,aG (by omega),ap,aG (by omega),ap,aG (by omega),ap,bn (by omega),aR,oT,aa]
 dsimp only
 rw[ap,bB _ z hz',aa]
 dsimp only
 rw[ma _ _ (by omega) (by omega),aa,isHigh2,aa,show(8*(z:Int)-1).toNat=8*z-1 by omega,qZ (by decide)]
 dsimp only
 rw[ap]
 refine⟨_,m,c,l,rfl,?_,⟨hs.m,Nat.le_trans hs.l (by omega),ki (g:=g) (r:=2) hs.g hI2 hz'⟩⟩
 exact Al hz' (by decide) (fun g'=>some ((),((g',(rip,(fl,(nx,(c,()))))),(m,(l,())))))
end
end
end Go.Den.G
namespace Go.Den.G
open Go.Den
set_option maxRecDepth 100000
noncomputable section
theorem zero1 (v:Int):af ((v,(1,())),())=some (bL v 1,()):=bB v 1 rfl
theorem set_c0 {g:List Int}{v:Int}{n:Nat}(hn:bX (n:Int)=true){α:Type}(Z:List Int→Option α):
  (br (leI 4 (n:Int)) (bnd (af ((v,((n:Int),())),())) (fun x32=>Z (aN (cw 16 (ag .i) g) 0 x32.1))) (bnd (af ((v,((n:Int),())),())) (fun x33=>(bnd (some (ji g 0 n,())) (fun x34=>Z (aN (cw 16 (ag .i) g) 0 (ax .i64 (aj g 0 (ag .i)) (aM .i64 x33.1 x34.1))))))))=Z (pQ g 0 n v):=by
 have:=Al (g:=g) (r:=0) (v:=v) hn (by decide) Z
 rw[bB (aj g 0 (ag .i)) n hn,qZ (by decide)]at this
 exact this
def setF {α:Type}(g:List Int)(r:Int)(n:Nat)(v:Int)(Z:List Int→Option α):Option α:=
 (bnd (aB ((r,()),())) (fun x8=>(br x8.1 (br (inR (aM .i64 r 16) 16) (bnd (af ((v,(1,())),())) (fun x9=>Z (aN (cw 16 (ag .i) g) (aM .i64 r 16) (ior .i64 (fR .i64 (aj g (aM .i64 r 16) (ag .i)) 65280) (cH .i64 x9.1 8))))) none) (br (leI 4 (n:Int)) (bnd (af ((v,((n:Int),())),())) (fun x10=>(br (inR r 16) (Z (aN (cw 16 (ag .i) g) r x10.1)) none))) (br (inR r 16) (br (inR r 16) (bnd (af ((v,((n:Int),())),())) (fun x11=>(bnd (af (((aj g r (ag .i)),((n:Int),())),())) (fun x12=>(br (inR r 16) (Z (aN (cw 16 (ag .i) g) r (ax .i64 (aj g r (ag .i)) (aM .i64 x11.1 x12.1)))) none))))) none) none)))))
theorem vK {g:List Int}{r v:Int}{n:Nat}(hn:bX (n:Int)=true)(hr:qc r n){α:Type}(Z:List Int→Option α):setF g r n v Z=Z (pQ g r n v):=set_m hn hr Z
def upZ (z:Nat):Int:=if z=1 then 16 else 2
def MS.wide (s:MS)(fl nx:Int)(x:Ins)(n z:Nat):MS×Int:=
 let b:=s.rd nx x.src z
 if n=13∨n=14 then
  let r:=pp n z (ji s.g 0 z) b.1 fl
  ({b.2 with g:=pQ (pQ s.g 0 z r.1) (upZ z) z r.2.1},r.2.2)
 else
  let r:=ru n z (ji s.g (upZ z) z) (ji s.g 0 z) b.1
  ({b.2 with g:=pQ (pQ s.g 0 z r.1) (upZ z) z r.2.1,code:=if r.2.2=false∧b.2.code=0 then 16 else b.2.code},fl)
theorem Dg (z:Nat):gu (((z:Int),()),())=some (upZ z,()):=by
 unfold gu upZ
 dsimp only
 by_cases h:z=1
 ·rw[bn (by omega),aR,if_pos h]
 ·rw[aG (by omega),ap,if_neg h]
theorem nz (z:Nat):qc (upZ z) z:=by
 unfold upZ qc
 split<;>omega
theorem wide_m {g:List Int}{m:List Page}{c:Int}{l:List Acc}{k:Nat}(hs:(MS.mk g m c l).ok k)(hk:k+4≤1000){x:Ins}{n z:Nat}(hx:ExV x n)(hn:13≤n∧n≤16)(hz:x.size=z)
  {fl:Int} (hI:I64 fl) (hf:bK fl=true) (rip nx:Int):
  ∃g' m' c' l' fl',(MS.mk g m c l).wide fl nx x n z=(⟨g',m',c',l'⟩,fl')∧cg ((x,()),((g,rip,fl,nx,c,()),m,l,()))=some ((),((g',rip,fl',nx,c',()),m',l',()))∧(MS.mk g' m' c' l').ok (k+4)∧I64 fl'∧bK fl'=true:=by
 have hz':bX (z:Int)=true:=by rw[←hz];exact hx.szs.1 (by omega)
 have hsv:=hx.sv
 rw[show sSz x n=x.size from by unfold sSz;rw[if_neg (by omega),hx.fr.2 (by omega),if_neg (by decide)],hz]at hsv
 obtain⟨v1,c1,l1,e1,r1,ok1,I1⟩:=pI hs (by omega) hz' hsv nx
 have hgI:∀r,I64 (ji g r z):=fun r=>rF (g:=g) hs.g hz'
 unfold MS.wide cg
 dsimp only
 have hop:=hx.op
 rw[e1,hop,hz,r1,aa,Dg,aa]
 dsimp only
 have hb:br (eqI (n:Int) 13) (some true) (some (eqI (n:Int) 14))=some (decide (n=13∨n=14)):=by
  by_cases a:n=13
  ·rw[bn (by omega),aR,decide_eq_true (by omega)]
  ·rw[aG (by omega),ap]
   by_cases b:n=14
   ·rw[bn (by omega),decide_eq_true (by omega)]
   ·rw[aG (by omega),decide_eq_false (by omega)]
 rw[hb,aa]
 by_cases hm:n=13∨n=14
 ·rw[decide_eq_true hm,aR,oT,aa,if_pos hm]
  dsimp only
  rw[ap,bB _ z hz',aa,qZ (by decide)]
  dsimp only
  rw[pv hz' (hgI 0) I1 hI hf,aa,aa]
  dsimp only
  rw[ap]
  obtain⟨o1,o2,o3,o4⟩:=rW (op:=n) (n:=z) (a:=ji g 0 z) (b:=v1) hI hf
  obtain⟨p,hp⟩:∃p,p=pp n z (ji g 0 z) v1 fl:=⟨_,rfl⟩
  rw[←hp]at o1 o2 o3 o4⊢
  obtain⟨lo,hi,f'⟩:=p
  clear hp
  dsimp only at o1 o2 o3 o4⊢
  refine⟨_,m,c1,l1,f',rfl,?_,⟨ok1.m,Nat.le_trans ok1.l (by omega),ki (g:=pQ g 0 z lo) (ki (g:=g) hs.g o1 hz') o2 hz'⟩,o4,o3⟩
  exact(set_c0 (g:=g) (v:=lo) hz' (fun g'=>setF g' (upZ z) z hi (fun g''=>some ((),((g'',(rip,(f',(nx,(c1,()))))),(m,(l1,()))))))).trans (vK hz' (nz z) _)
 ·rw[decide_eq_false hm,ap,if_neg hm]
  obtain⟨o1,o2⟩:=wb (op:=n) (n:=z) (hi:=ji g (upZ z) z) (lo:=ji g 0 z) (d:=v1)
  have hd:=yN (op:=n) (n:=z) (hi:=ji g (upZ z) z) (lo:=ji g 0 z) (d:=v1) hz' (hgI _) (hgI _) I1
  obtain⟨p,hp⟩:∃p,p=ru n z (ji g (upZ z) z) (ji g 0 z) v1:=⟨_,rfl⟩
  rw[←hp]at o1 o2 hd⊢
  obtain⟨q,r,ok⟩:=p
  clear hp
  dsimp only at o1 o2 hd⊢
  obtain⟨c2,hc2⟩:∃c2,c2=if ok=false∧c1=0 then 16 else c1:=⟨_,rfl⟩
  rw[←hc2]
  refine⟨_,m,c2,l1,fl,rfl,?_,⟨ok1.m,Nat.le_trans ok1.l (by omega),ki (g:=pQ g 0 z q) (ki (g:=g) hs.g o1 hz') o2 hz'⟩,hI,hf⟩
  have hbr:br (aX ok) (some (eqI c1 0)) (some false)=some (decide (ok=false∧c1=0)):=by
   cases ok with
   |true=>rfl
   |false=>rw[show aX false=true from rfl,aR];unfold eqI;simp only[true_and]
  rw[kC,aa]
  dsimp only
  have hget:ji g (upZ z) z=if z=1 then bL (ci .i64 (aj g 0 (ag .i)) 8) 1 else bL (aj g 2 (ag .i)) z:=by
   unfold ji upZ
   by_cases h:z=1
   ·rw[if_pos h,if_pos h,if_pos (by decide)];rfl
   ·rw[if_neg h,if_neg h,if_neg (by decide)]
  by_cases h1:z=1
  ·rw[if_pos h1]at hget
   have hu:upZ z=16:=if_pos h1
   have hhi:decide (16≤upZ z∧upZ z≤19)=true:=by rw[hu];decide
   rw[hhi,aR,ah (show inR (aM .i64 (upZ z) 16) 16=true by rw[hu];rfl),show aM .i64 (upZ z) 16=0 by rw[hu];rfl,zero1 (ci .i64 (aj g 0 (ag .i)) 8),aa,←hget]
   dsimp only
   rw[oT,aa]
   dsimp only
   rw[ap,bB _ z hz',aa,qZ (r:=0) (by decide)]
   dsimp only
   rw[hd,aa]
   dsimp only
   rw[hbr,aa]
   refine(Ret.bnd (Q:=fun y=>y=Sum.inl ((upZ z,(q,(r,()))),((g,(rip,(fl,(nx,(c2,()))))),(m,(l1,((cz x ()),())))))) ?_ ?_).eq
   ·by_cases hcc:ok=false∧c1=0
    ·rw[decide_eq_true hcc,aR,hc2,if_pos hcc]
     exact Ret.some rfl
    ·rw[decide_eq_false hcc,ap,hc2,if_neg hcc]
     exact Ret.some rfl
   rintro _ rfl
   rw[ar]
   dsimp only[cz,cB]
   rw[aa,hz]
   dsimp only
   rw[ap]
   refine Ret.of_eq ((Al (g:=g) (r:=0) (v:=q) hz' (by decide) (fun g'=>setF g' (upZ z) z r (fun g''=>some ((),((g'',(rip,(fl,(nx,(c2,()))))),(m,(l1,()))))))).trans (vK hz' (nz z) _)) rfl
  ·rw[if_neg h1]at hget
   have hu:upZ z=2:=if_neg h1
   have hhi:decide (16≤upZ z∧upZ z≤19)=false:=by rw[hu];decide
   rw[hhi,ap,ah (show inR (upZ z) 16=true by rw[hu];rfl),bB (aj g (upZ z) (ag .i)) z hz',aa,show bL (aj g (upZ z) (ag .i)) z=ji g (upZ z) z by rw[hget,hu]]
   dsimp only
   rw[oT,aa]
   dsimp only
   rw[ap,bB _ z hz',aa,qZ (r:=0) (by decide)]
   dsimp only
   rw[hd,aa]
   dsimp only
   rw[hbr,aa]
   refine(Ret.bnd (Q:=fun y=>y=Sum.inl ((upZ z,(q,(r,()))),((g,(rip,(fl,(nx,(c2,()))))),(m,(l1,((cz x ()),())))))) ?_ ?_).eq
   ·by_cases hcc:ok=false∧c1=0
    ·rw[decide_eq_true hcc,aR,hc2,if_pos hcc]
     exact Ret.some rfl
    ·rw[decide_eq_false hcc,ap,hc2,if_neg hcc]
     exact Ret.some rfl
   rintro _ rfl
   rw[ar]
   dsimp only[cz,cB]
   rw[aa,hz]
   dsimp only
   rw[ap]
   refine Ret.of_eq ((Al (g:=g) (r:=0) (v:=q) hz' (by decide) (fun g'=>setF g' (upZ z) z r (fun g''=>some ((),((g'',(rip,(fl,(nx,(c2,()))))),(m,(l1,()))))))).trans (vK hz' (nz z) _)) rfl
end
end Go.Den.G
namespace Go.Den.G
open Go.Den
set_option maxRecDepth 100000
noncomputable section
def mvB (n:Nat):Bool:=decide (n=9∨n=28∨n=25∨n=26∨n=27∨n=35∨n=36∨n=39∨n=40)
def wdB (n:Nat):Bool:=decide (n=13∨n=14∨n=15∨n=16)
def fwB (n:Nat):Bool:=decide (n=29∨n=30∨n=31∨n=34∨n=32∨n=33∨n=41∨n=42∨n=38∨n=43∨n=44∨n=37)
def exM (g:List Int)(rip fl:Int)(m:List Page)(x:Ins)(n z:Nat):MS×Int×Int:=
 let nx:=ax .i64 rip x.len
 let s:MS:=⟨g,m,0,[]⟩
 if mvB n=true then(s.move fl nx x n z,nx,fl)
 else if wdB n=true then((s.wide fl nx x n z).1,nx,(s.wide fl nx x n z).2)
 else if fwB n=true then((s.flow nx fl nx x n).1,(s.flow nx fl nx x n).2,fl)
 else((s.reck nx fl x n z).1,nx,(s.reck nx fl x n z).2)
def exR (g:List Int)(rip fl:Int)(m:List Page)(r:MS×Int×Int):((List Int×Int×Int×Unit)×Unit×Int×Unit)×List Page×List Acc×Unit:=
 if r.1.code≠0 then(((g,rip,fl,()),(),r.1.code,()),m,r.1.l,())else(((r.1.g,r.2.1,r.2.2,()),(),0,()),r.1.m,r.1.l,())
theorem exec_m {g:List Int}{rip fl:Int}{m:List Page}{x:Ins}{n z:Nat}(hm:MemT m)(hg:je g)(hI:I64 fl)(hf:bK fl=true)(hx:ExV x n)(hz:x.size=z):
  gS (((g,(rip,(fl,()))),((m,()),(x,()))),())=some (exR g rip fl m (exM g rip fl m x n z))∧(exM g rip fl m x n z).1.ok 4∧bK (exM g rip fl m x n z).2.2=true∧I64 (exM g rip fl m x n z).2.2:=by
 have hs:(MS.mk g m 0 []).ok 0:=⟨hm,Nat.le_refl 0,hg⟩
 have hop:=hx.op
 have h1:=hx.n1
 have h2:=hx.n2
 have zb:(mS (cz x ()))=x:=rfl
 have key:∃g' m' c' l' rip' fl',exM g rip fl m x n z=(⟨g',m',c',l'⟩,rip',fl')∧(MS.mk g' m' c' l').ok 4∧bK fl'=true∧I64 fl'∧
   (mvB n=true→rip'=ax .i64 rip x.len∧fl'=fl∧aC ((x,()),((g,(ax .i64 rip x.len,(fl,(ax .i64 rip x.len,(0,()))))),(m,(([]:List Acc),()))))=some ((),((g',(ax .i64 rip x.len,(fl,(ax .i64 rip x.len,(c',()))))),(m',(l',())))))∧
   (mvB n=false→wdB n=true→rip'=ax .i64 rip x.len∧cg ((x,()),((g,(ax .i64 rip x.len,(fl,(ax .i64 rip x.len,(0,()))))),(m,(([]:List Acc),()))))=some ((),((g',(ax .i64 rip x.len,(fl',(ax .i64 rip x.len,(c',()))))),(m',(l',())))))∧
   (mvB n=false→wdB n=false→fwB n=true→fl'=fl∧am ((x,()),((g,(ax .i64 rip x.len,(fl,(ax .i64 rip x.len,(0,()))))),(m,(([]:List Acc),()))))=some ((),((g',(rip',(fl,(ax .i64 rip x.len,(c',()))))),(m',(l',())))))∧
   (mvB n=false→wdB n=false→fwB n=false→rip'=ax .i64 rip x.len∧bR ((x,()),((g,(ax .i64 rip x.len,(fl,(ax .i64 rip x.len,(0,()))))),(m,(([]:List Acc),()))))=some ((),((g',(ax .i64 rip x.len,(fl',(ax .i64 rip x.len,(c',()))))),(m',(l',()))))):=by
  unfold exM
  dsimp only
  cases hmv:mvB n with
  |true=>
   rw[if_pos rfl]
   have hn:=of_decide_eq_true hmv
   have hmove:∃g' m' c' l',(MS.mk g m 0 []).move fl (ax .i64 rip x.len) x n z=⟨g',m',c',l'⟩∧aC ((x,()),((g,ax .i64 rip x.len,fl,ax .i64 rip x.len,0,()),m,[],()))=some ((),((g',ax .i64 rip x.len,fl,ax .i64 rip x.len,c',()),m',l',()))∧(MS.mk g' m' c' l').ok (0+4):=by
    rcases hn with rfl|rfl|rfl|rfl|rfl|rfl|rfl|rfl|rfl
    ·exact move_9 hs (by decide) hx hz _ fl _
    ·exact move_28 hs (by decide) hx hz _ fl _
    ·exact move_25 hs (by decide) hx hz _ fl _
    ·exact move_26 hs (by decide) hx hz _ fl _
    ·exact move_27 hs (by decide) hx hz _ fl _
    ·exact move_35 hs (by decide) hx hz _ fl _
    ·exact move_36 hs (by decide) hx hz _ fl _
    ·exact move_39 hs (by decide) hx hz _ fl _
    ·exact move_40 hs (by decide) hx hz _ fl _
   obtain⟨g',m',c',l',e,r,ok⟩:=hmove
   exact⟨g',m',c',l',_,fl,by rw[e],ok,hf,hI,fun _=>⟨rfl,rfl,r⟩,(fun h=>by cases h),(fun h=>by cases h),(fun h=>by cases h)⟩
  |false=>
   rw[if_neg (by decide)]
   cases hwd:wdB n with
   |true=>
    rw[if_pos rfl]
    have hn:=of_decide_eq_true hwd
    obtain⟨g',m',c',l',fl',e,r,ok,fI,ff⟩:=wide_m hs (by decide) hx (by omega) hz hI hf (ax .i64 rip x.len) (ax .i64 rip x.len)
    exact⟨g',m',c',l',_,fl',by rw[e],ok,ff,fI,(fun h=>by cases h),fun _ _=>⟨rfl,r⟩,(fun _ h=>by cases h),(fun _ h=>by cases h)⟩
   |false=>
    rw[if_neg (by decide)]
    cases hfw:fwB n with
    |true=>
     rw[if_pos rfl]
     have hn:=of_decide_eq_true hfw
     have hflow:∃g' m' c' l' rip',(MS.mk g m 0 []).flow (ax .i64 rip x.len) fl (ax .i64 rip x.len) x n=(⟨g',m',c',l'⟩,rip')∧am ((x,()),((g,ax .i64 rip x.len,fl,ax .i64 rip x.len,0,()),m,[],()))=some ((),((g',rip',fl,ax .i64 rip x.len,c',()),m',l',()))∧(MS.mk g' m' c' l').ok (0+3):=by
      rcases hn with rfl|rfl|rfl|rfl|rfl|rfl|rfl|rfl|rfl|rfl|rfl|rfl
      ·exact flow_29 hs (by decide) hx _ fl _
      ·exact flow_30 hs (by decide) hx _ fl _
      ·exact flow_31 hs (by decide) hx _ fl _
      ·exact flow_34 hs (by decide) hx _ fl _
      ·exact flow_32 hs (by decide) hx _ fl _
      ·exact flow_33 hs (by decide) hx _ fl _
      ·exact flow_41 hs (by decide) hx _ fl _
      ·exact flow_42 hs (by decide) hx _ fl _
      ·exact flow_38 hs (by decide) hx _ fl _
      ·exact flow_43 hs (by decide) hx _ fl _
      ·exact flow_44 hs (by decide) hx _ fl _
      ·exact flow_37 hs (by decide) hx _ fl _
     obtain⟨g',m',c',l',rip',e,r,ok⟩:=hflow
     exact⟨g',m',c',l',rip',fl,by rw[e],ok.mono (by decide),hf,hI,(fun h=>by cases h),(fun _ h=>by cases h),fun _ _ _=>⟨rfl,r⟩,(fun _ _ h=>by cases h)⟩
    |false=>
     rw[if_neg (by decide)]
     have n1:=of_decide_eq_false hmv
     have n2:=of_decide_eq_false hwd
     have n3:=of_decide_eq_false hfw
     obtain⟨g',m',c',l',fl',e,r,ok,fI,ff⟩:=reck_m hs (by decide) hx (by omega) hz hI hf (ax .i64 rip x.len)
     exact⟨g',m',c',l',_,fl',by rw[e],ok.mono (by decide),ff,fI,(fun h=>by cases h),(fun _ h=>by cases h),(fun _ _ h=>by cases h),fun _ _ _=>⟨rfl,r _⟩⟩
 obtain⟨g',m',c',l',rip',fl',e,ok,ff,fI,k1,k2,k3,k4⟩:=key
 rw[e]
 refine⟨?_,ok,ff,fI⟩
 unfold gS
 dsimp only
 rw[rp m (by have:=hm.len;omega),aa,hop]
 dsimp only
 refine(Ret.bnd (Q:=fun y=>y=Sum.inl (((n:Int),(mvB n,())),(((g,(rip,(fl,()))):List Int×Int×Int×Unit),((m,()),((cz x ()),((([]:List Int),(0,(0,()))),((),((g,(ax .i64 rip x.len,(fl,(ax .i64 rip x.len,(0,()))))),(m,(([]:List Acc),())))))))))) ?_ ?_).eq
 ·by_cases h9:n=9
  ·rw[bn (show(n:Int)=9 by omega),aR,show mvB n=true from decide_eq_true (by omega)]
   exact Ret.some rfl
  rw[aG (show(n:Int)≠9 by omega),ap]
  refine Ret.bnd (Q:=fun y=>y=Sum.inl (((n:Int),(mvB n,())),(((g,(rip,(fl,()))):List Int×Int×Int×Unit),((m,()),((cz x ()),((([]:List Int),(0,(0,()))),((),((g,(ax .i64 rip x.len,(fl,(ax .i64 rip x.len,(0,()))))),(m,(([]:List Acc),())))))))))) ?_ (by rintro _ rfl;rw[ar];exact Ret.some rfl)
  by_cases h28:n=28
  ·rw[bn (show(n:Int)=28 by omega),aR,show mvB n=true from decide_eq_true (by omega)]
   exact Ret.some rfl
  rw[aG (show(n:Int)≠28 by omega),ap]
  refine Ret.bnd (Q:=fun y=>y=Sum.inl (((n:Int),(mvB n,())),(((g,(rip,(fl,()))):List Int×Int×Int×Unit),((m,()),((cz x ()),((([]:List Int),(0,(0,()))),((),((g,(ax .i64 rip x.len,(fl,(ax .i64 rip x.len,(0,()))))),(m,(([]:List Acc),())))))))))) ?_ (by rintro _ rfl;rw[ar];exact Ret.some rfl)
  by_cases h25:n=25
  ·rw[bn (show(n:Int)=25 by omega),aR,show mvB n=true from decide_eq_true (by omega)]
   exact Ret.some rfl
  rw[aG (show(n:Int)≠25 by omega),ap]
  refine Ret.bnd (Q:=fun y=>y=Sum.inl (((n:Int),(mvB n,())),(((g,(rip,(fl,()))):List Int×Int×Int×Unit),((m,()),((cz x ()),((([]:List Int),(0,(0,()))),((),((g,(ax .i64 rip x.len,(fl,(ax .i64 rip x.len,(0,()))))),(m,(([]:List Acc),())))))))))) ?_ (by rintro _ rfl;rw[ar];exact Ret.some rfl)
  by_cases h26:n=26
  ·rw[bn (show(n:Int)=26 by omega),aR,show mvB n=true from decide_eq_true (by omega)]
   exact Ret.some rfl
  rw[aG (show(n:Int)≠26 by omega),ap]
  refine Ret.bnd (Q:=fun y=>y=Sum.inl (((n:Int),(mvB n,())),(((g,(rip,(fl,()))):List Int×Int×Int×Unit),((m,()),((cz x ()),((([]:List Int),(0,(0,()))),((),((g,(ax .i64 rip x.len,(fl,(ax .i64 rip x.len,(0,()))))),(m,(([]:List Acc),())))))))))) ?_ (by rintro _ rfl;rw[ar];exact Ret.some rfl)
  by_cases h27:n=27
  ·rw[bn (show(n:Int)=27 by omega),aR,show mvB n=true from decide_eq_true (by omega)]
   exact Ret.some rfl
  rw[aG (show(n:Int)≠27 by omega),ap]
  refine Ret.bnd (Q:=fun y=>y=Sum.inl (((n:Int),(mvB n,())),(((g,(rip,(fl,()))):List Int×Int×Int×Unit),((m,()),((cz x ()),((([]:List Int),(0,(0,()))),((),((g,(ax .i64 rip x.len,(fl,(ax .i64 rip x.len,(0,()))))),(m,(([]:List Acc),())))))))))) ?_ (by rintro _ rfl;rw[ar];exact Ret.some rfl)
  by_cases h35:n=35
  ·rw[bn (show(n:Int)=35 by omega),aR,show mvB n=true from decide_eq_true (by omega)]
   exact Ret.some rfl
  rw[aG (show(n:Int)≠35 by omega),ap]
  refine Ret.bnd (Q:=fun y=>y=Sum.inl (((n:Int),(mvB n,())),(((g,(rip,(fl,()))):List Int×Int×Int×Unit),((m,()),((cz x ()),((([]:List Int),(0,(0,()))),((),((g,(ax .i64 rip x.len,(fl,(ax .i64 rip x.len,(0,()))))),(m,(([]:List Acc),())))))))))) ?_ (by rintro _ rfl;rw[ar];exact Ret.some rfl)
  by_cases h36:n=36
  ·rw[bn (show(n:Int)=36 by omega),aR,show mvB n=true from decide_eq_true (by omega)]
   exact Ret.some rfl
  rw[aG (show(n:Int)≠36 by omega),ap]
  refine Ret.bnd (Q:=fun y=>y=Sum.inl (((n:Int),(mvB n,())),(((g,(rip,(fl,()))):List Int×Int×Int×Unit),((m,()),((cz x ()),((([]:List Int),(0,(0,()))),((),((g,(ax .i64 rip x.len,(fl,(ax .i64 rip x.len,(0,()))))),(m,(([]:List Acc),())))))))))) ?_ (by rintro _ rfl;rw[ar];exact Ret.some rfl)
  by_cases h39:n=39
  ·rw[bn (show(n:Int)=39 by omega),aR,show mvB n=true from decide_eq_true (by omega)]
   exact Ret.some rfl
  rw[aG (show(n:Int)≠39 by omega),ap]
  rw[show eqI (n:Int) 40=mvB n from by unfold eqI;unfold mvB;rw[Bool.eq_iff_iff,decide_eq_true_eq,decide_eq_true_eq];omega]
  exact Ret.some rfl
 rintro _ rfl
 rw[ar]
 dsimp only[d6,p6]
 rw[zb]
 refine Ret.bnd (Q:=fun y=>y=Sum.inl ((),(((g,(rip,(fl,()))):List Int×Int×Int×Unit),((m,()),((([]:List Int),(0,(0,()))),((),((g',(rip',(fl',(ax .i64 rip x.len,(c',()))))),(m',(l',()))))))))) ?_ ?_
 ·cases hmv:mvB n with
  |true=>
   obtain⟨rfl,rfl,r⟩:=k1 hmv
   rw[aR,r,aa]
   exact Ret.some rfl
  |false=>
   rw[ap]
   refine Ret.bnd (Q:=fun y=>y=Sum.inl (((n:Int),(wdB n,())),(((g,(rip,(fl,()))):List Int×Int×Int×Unit),((m,()),((cz x ()),((([]:List Int),(0,(0,()))),((),((g,(ax .i64 rip x.len,(fl,(ax .i64 rip x.len,(0,()))))),(m,(([]:List Acc),())))))))))) ?_ ?_
   ·by_cases h13:n=13
    ·rw[bn (show(n:Int)=13 by omega),aR,show wdB n=true from decide_eq_true (by omega)]
     exact Ret.some rfl
    rw[aG (show(n:Int)≠13 by omega),ap]
    refine Ret.bnd (Q:=fun y=>y=Sum.inl (((n:Int),(wdB n,())),(((g,(rip,(fl,()))):List Int×Int×Int×Unit),((m,()),((cz x ()),((([]:List Int),(0,(0,()))),((),((g,(ax .i64 rip x.len,(fl,(ax .i64 rip x.len,(0,()))))),(m,(([]:List Acc),())))))))))) ?_ (by rintro _ rfl;rw[ar];exact Ret.some rfl)
    by_cases h14:n=14
    ·rw[bn (show(n:Int)=14 by omega),aR,show wdB n=true from decide_eq_true (by omega)]
     exact Ret.some rfl
    rw[aG (show(n:Int)≠14 by omega),ap]
    refine Ret.bnd (Q:=fun y=>y=Sum.inl (((n:Int),(wdB n,())),(((g,(rip,(fl,()))):List Int×Int×Int×Unit),((m,()),((cz x ()),((([]:List Int),(0,(0,()))),((),((g,(ax .i64 rip x.len,(fl,(ax .i64 rip x.len,(0,()))))),(m,(([]:List Acc),())))))))))) ?_ (by rintro _ rfl;rw[ar];exact Ret.some rfl)
    by_cases h15:n=15
    ·rw[bn (show(n:Int)=15 by omega),aR,show wdB n=true from decide_eq_true (by omega)]
     exact Ret.some rfl
    rw[aG (show(n:Int)≠15 by omega),ap]
    rw[show eqI (n:Int) 16=wdB n from by unfold eqI;unfold wdB;rw[Bool.eq_iff_iff,decide_eq_true_eq,decide_eq_true_eq];omega]
    exact Ret.some rfl
   rintro _ rfl
   rw[ar]
   dsimp only[d6,p6]
   rw[zb]
   refine Ret.bnd (Q:=fun y=>y=Sum.inl ((),(((g,(rip,(fl,()))):List Int×Int×Int×Unit),((m,()),((([]:List Int),(0,(0,()))),((),((g',(rip',(fl',(ax .i64 rip x.len,(c',()))))),(m',(l',()))))))))) ?_ (by rintro _ rfl;rw[ar];exact Ret.some rfl)
   cases hwd:wdB n with
   |true=>
    obtain⟨rfl,r⟩:=k2 hmv hwd
    rw[aR,r,aa]
    exact Ret.some rfl
   |false=>
    rw[ap]
    refine Ret.bnd (Q:=fun y=>y=Sum.inl ((fwB n,()),(((g,(rip,(fl,()))):List Int×Int×Int×Unit),((m,()),((cz x ()),((([]:List Int),(0,(0,()))),((),((g,(ax .i64 rip x.len,(fl,(ax .i64 rip x.len,(0,()))))),(m,(([]:List Acc),())))))))))) ?_ ?_
    ·by_cases h29:n=29
     ·rw[bn (show(n:Int)=29 by omega),aR,show fwB n=true from decide_eq_true (by omega)]
      exact Ret.some rfl
     rw[aG (show(n:Int)≠29 by omega),ap]
     refine Ret.bnd (Q:=fun y=>y=Sum.inl ((fwB n,()),(((g,(rip,(fl,()))):List Int×Int×Int×Unit),((m,()),((cz x ()),((([]:List Int),(0,(0,()))),((),((g,(ax .i64 rip x.len,(fl,(ax .i64 rip x.len,(0,()))))),(m,(([]:List Acc),())))))))))) ?_ (by rintro _ rfl;rw[ar];exact Ret.some rfl)
     by_cases h30:n=30
     ·rw[bn (show(n:Int)=30 by omega),aR,show fwB n=true from decide_eq_true (by omega)]
      exact Ret.some rfl
     rw[aG (show(n:Int)≠30 by omega),ap]
     refine Ret.bnd (Q:=fun y=>y=Sum.inl ((fwB n,()),(((g,(rip,(fl,()))):List Int×Int×Int×Unit),((m,()),((cz x ()),((([]:List Int),(0,(0,()))),((),((g,(ax .i64 rip x.len,(fl,(ax .i64 rip x.len,(0,()))))),(m,(([]:List Acc),())))))))))) ?_ (by rintro _ rfl;rw[ar];exact Ret.some rfl)
     by_cases h31:n=31
     ·rw[bn (show(n:Int)=31 by omega),aR,show fwB n=true from decide_eq_true (by omega)]
      exact Ret.some rfl
     rw[aG (show(n:Int)≠31 by omega),ap]
     refine Ret.bnd (Q:=fun y=>y=Sum.inl ((fwB n,()),(((g,(rip,(fl,()))):List Int×Int×Int×Unit),((m,()),((cz x ()),((([]:List Int),(0,(0,()))),((),((g,(ax .i64 rip x.len,(fl,(ax .i64 rip x.len,(0,()))))),(m,(([]:List Acc),())))))))))) ?_ (by rintro _ rfl;rw[ar];exact Ret.some rfl)
     by_cases h34:n=34
     ·rw[bn (show(n:Int)=34 by omega),aR,show fwB n=true from decide_eq_true (by omega)]
      exact Ret.some rfl
     rw[aG (show(n:Int)≠34 by omega),ap]
     refine Ret.bnd (Q:=fun y=>y=Sum.inl ((fwB n,()),(((g,(rip,(fl,()))):List Int×Int×Int×Unit),((m,()),((cz x ()),((([]:List Int),(0,(0,()))),((),((g,(ax .i64 rip x.len,(fl,(ax .i64 rip x.len,(0,()))))),(m,(([]:List Acc),())))))))))) ?_ (by rintro _ rfl;rw[ar];exact Ret.some rfl)
     by_cases h32:n=32
     ·rw[bn (show(n:Int)=32 by omega),aR,show fwB n=true from decide_eq_true (by omega)]
      exact Ret.some rfl
     rw[aG (show(n:Int)≠32 by omega),ap]
     refine Ret.bnd (Q:=fun y=>y=Sum.inl ((fwB n,()),(((g,(rip,(fl,()))):List Int×Int×Int×Unit),((m,()),((cz x ()),((([]:List Int),(0,(0,()))),((),((g,(ax .i64 rip x.len,(fl,(ax .i64 rip x.len,(0,()))))),(m,(([]:List Acc),())))))))))) ?_ (by rintro _ rfl;rw[ar];exact Ret.some rfl)
     by_cases h33:n=33
     ·rw[bn (show(n:Int)=33 by omega),aR,show fwB n=true from decide_eq_true (by omega)]
      exact Ret.some rfl
     rw[aG (show(n:Int)≠33 by omega),ap]
     refine Ret.bnd (Q:=fun y=>y=Sum.inl ((fwB n,()),(((g,(rip,(fl,()))):List Int×Int×Int×Unit),((m,()),((cz x ()),((([]:List Int),(0,(0,()))),((),((g,(ax .i64 rip x.len,(fl,(ax .i64 rip x.len,(0,()))))),(m,(([]:List Acc),())))))))))) ?_ (by rintro _ rfl;rw[ar];exact Ret.some rfl)
     by_cases h41:n=41
     ·rw[bn (show(n:Int)=41 by omega),aR,show fwB n=true from decide_eq_true (by omega)]
      exact Ret.some rfl
     rw[aG (show(n:Int)≠41 by omega),ap]
     refine Ret.bnd (Q:=fun y=>y=Sum.inl ((fwB n,()),(((g,(rip,(fl,()))):List Int×Int×Int×Unit),((m,()),((cz x ()),((([]:List Int),(0,(0,()))),((),((g,(ax .i64 rip x.len,(fl,(ax .i64 rip x.len,(0,()))))),(m,(([]:List Acc),())))))))))) ?_ (by rintro _ rfl;rw[ar];exact Ret.some rfl)
     by_cases h42:n=42
     ·rw[bn (show(n:Int)=42 by omega),aR,show fwB n=true from decide_eq_true (by omega)]
      exact Ret.some rfl
     rw[aG (show(n:Int)≠42 by omega),ap]
     refine Ret.bnd (Q:=fun y=>y=Sum.inl ((fwB n,()),(((g,(rip,(fl,()))):List Int×Int×Int×Unit),((m,()),((cz x ()),((([]:List Int),(0,(0,()))),((),((g,(ax .i64 rip x.len,(fl,(ax .i64 rip x.len,(0,()))))),(m,(([]:List Acc),())))))))))) ?_ (by rintro _ rfl;rw[ar];exact Ret.some rfl)
     by_cases h38:n=38
     ·rw[bn (show(n:Int)=38 by omega),aR,show fwB n=true from decide_eq_true (by omega)]
      exact Ret.some rfl
     rw[aG (show(n:Int)≠38 by omega),ap]
     refine Ret.bnd (Q:=fun y=>y=Sum.inl ((fwB n,()),(((g,(rip,(fl,()))):List Int×Int×Int×Unit),((m,()),((cz x ()),((([]:List Int),(0,(0,()))),((),((g,(ax .i64 rip x.len,(fl,(ax .i64 rip x.len,(0,()))))),(m,(([]:List Acc),())))))))))) ?_ (by rintro _ rfl;rw[ar];exact Ret.some rfl)
     by_cases h43:n=43
     ·rw[bn (show(n:Int)=43 by omega),aR,show fwB n=true from decide_eq_true (by omega)]
      exact Ret.some rfl
     rw[aG (show(n:Int)≠43 by omega),ap]
     refine Ret.bnd (Q:=fun y=>y=Sum.inl ((fwB n,()),(((g,(rip,(fl,()))):List Int×Int×Int×Unit),((m,()),((cz x ()),((([]:List Int),(0,(0,()))),((),((g,(ax .i64 rip x.len,(fl,(ax .i64 rip x.len,(0,()))))),(m,(([]:List Acc),())))))))))) ?_ (by rintro _ rfl;rw[ar];exact Ret.some rfl)
     by_cases h44:n=44
     ·rw[bn (show(n:Int)=44 by omega),aR,show fwB n=true from decide_eq_true (by omega)]
      exact Ret.some rfl
     rw[aG (show(n:Int)≠44 by omega),ap]
     rw[show eqI (n:Int) 37=fwB n from by unfold eqI;unfold fwB;rw[Bool.eq_iff_iff,decide_eq_true_eq,decide_eq_true_eq];omega]
     exact Ret.some rfl
    rintro _ rfl
    rw[ar]
    dsimp only[d6,p6]
    rw[zb]
    refine Ret.bnd (Q:=fun y=>y=Sum.inl ((),(((g,(rip,(fl,()))):List Int×Int×Int×Unit),((m,()),((([]:List Int),(0,(0,()))),((),((g',(rip',(fl',(ax .i64 rip x.len,(c',()))))),(m',(l',()))))))))) ?_ (by rintro _ rfl;rw[ar];exact Ret.some rfl)
    cases hfw:fwB n with
    |true=>
     obtain⟨rfl,r⟩:=k3 hmv hwd hfw
     rw[aR,r,aa]
     exact Ret.some rfl
    |false=>
     obtain⟨rfl,r⟩:=k4 hmv hwd hfw
     rw[ap,r,aa]
     exact Ret.some rfl
 rintro _ rfl
 rw[ar]
 dsimp only[d5,p5,d6,d7]
 unfold exR
 dsimp only
 by_cases hc:c'=0
 ·rw[hc,bn rfl,cc,ap,if_neg (by decide)]
  exact Ret.some rfl
 ·rw[aG hc,dp,aR,if_pos hc,rp m (by have:=hm.len;omega),aa]
  exact Ret.some rfl
end
end Go.Den.G
namespace Go.Den.G
open Go.Den
set_option maxRecDepth 100000
noncomputable section
theorem lV {c f:Int}(h0:0≤c)(h1:c≤15):co ((c,(f,())),())=some (gP c f,()):=by
 unfold co
 dsimp only
 have hs:∀b,aX (eqI (dl .i64 f b) 0)=j7 f b:=fun b=>by
  unfold j7
  cases eqI (dl .i64 f b) 0<;>rfl
 simp only[hs]
 have o1:br (j7 f 1) (some true) (some (j7 f 64))=some (j7 f 1||j7 f 64):=by cases j7 f 1<;>rfl
 have o2:br (j7 f 64) (some true) (some (aX (eqB (j7 f 128) (j7 f 2048))))=some (j7 f 64||(j7 f 128 != j7 f 2048)):=by rw[neB];cases j7 f 64<;>rfl
 rw[o1,aa,o2,aa,mK h0 (by decide) (by omega),ah (cu (by omega) (by omega)),iG h0,neB]
 congr 2
theorem ei (a b:Int):aU ((a,(b,())),())=some (ax .i64 a b,()):=by
 unfold aU
 dsimp only
 congr 2
 unfold ak
 rw[yq]
 unfold ax
 refine jT ?_
 rw[ez,ez]
 omega
theorem pd {g:List Int}{rip fl r:Int}{n:Nat}(hg:je g)(hn:bX (n:Int)=true)(hr:qc r n):cY (((g,(rip,(fl,()))),(r,((n:Int),()))),())=some (ji g r n,()):=by
 unfold qc at hr
 unfold cY ji
 dsimp only
 by_cases h16:16≤r
 ·rw[fv h16,aR,if_pos h16,eu (by omega) (by omega),ah (cu (by omega) (by omega))]
  have h1:=bj (v:=ak .i64 (ci .u64 (ak .u64 (aj g (r-16) (ag .i))) 8)) (fZ _) 1 rfl
  have h1':aq (((ak .i64 (ci .u64 (ak .u64 (aj g (r-16) (ag .i))) 8)),(1,())),())=_:=h1
  rw[h1',aa]
  have hI:=hg (r-16)
  obtain⟨v,hv⟩:∃v,v=aj g (r-16) (ag .i):=⟨_,rfl⟩
  rw[←hv]
  have hI:I64 v:=by rw[hv];exact hI
  unfold I64 at hI
  have e:bL (ak .i64 (ci .u64 (ak .u64 v) 8)) 1=bL (ci .i64 v 8) 1:=by
   unfold bL
   rw[if_neg (by decide),if_neg (by decide)]
   have hs:ci .u64 (ak .u64 v) 8=ak .u64 v/256:=pT _ 8 (by decide)
   have hs2:ci .i64 v 8=v/256:=by
    unfold ci
    rw[show(2:Int)^min (Int.toNat 8) IntKind.i64.bits=256 from rfl,Int.fdiv_eq_ediv_of_nonneg _ (by decide)]
   rw[hs,hs2]
   have hw:ak .u64 v=v%18446744073709551616:=ez
   rw[hw,show(2:Int)^(8*1)=256 from rfl]
   have:=kU (v%18446744073709551616/256)
   unfold ak
   omega
  rw[e,hv]
 ·rw[jy h16,ap,if_neg h16,ah (cu (by omega) (by omega)),bj (hg r) n hn,aa]
end
end Go.Den.G
namespace Go.Den.G
open Go.Den
set_option maxRecDepth 100000
noncomputable section
theorem rn {a b:Int}(h:a%18446744073709551616=b%18446744073709551616):BitVec.ofInt 64 a=BitVec.ofInt 64 b:=by
 apply BitVec.eq_of_toNat_eq
 rw[BitVec.toNat_ofInt,BitVec.toNat_ofInt]
 show(a%18446744073709551616).toNat=(b%18446744073709551616).toNat
 rw[h]
theorem tC {a b c d:Int}(h1:a%18446744073709551616=c%18446744073709551616)(h2:b%18446744073709551616=d%18446744073709551616):ak .i64 (ior .u64 a b)=ior .i64 c d:=by
 unfold ior ak
 refine jT ?_
 rw[ez,Int.emod_emod]
 show((BitVec.ofInt 64 a|||BitVec.ofInt 64 b).toNat:Int)%_=((BitVec.ofInt 64 c|||BitVec.ofInt 64 d).toNat:Int)%_
 rw[rn h1,rn h2]
theorem oM {a b m:Int}(h:a%18446744073709551616=b%18446744073709551616):fR .u64 a m%18446744073709551616=fR .i64 b m%18446744073709551616:=by
 unfold fR
 rw[ez,Int.emod_emod,kU]
 show((BitVec.ofInt 64 a&&& ~~~BitVec.ofInt 64 m).toNat:Int)%_=((BitVec.ofInt 64 b&&& ~~~BitVec.ofInt 64 m).toNat:Int)%_
 rw[rn h]
theorem zc (a:Int)(k:Nat)(hk:k≤63):uns (fR .i64 a ((2^k-1:Nat):Int))=2^k*(uns a/2^k):=by
 unfold fR
 rw[bM]
 show uns (((BitVec.ofInt 64 a&&& ~~~BitVec.ofInt 64 ((2^k-1:Nat):Int)).toNat:Nat):Int)=_
 rw[ew (BitVec.isLt _)]
 have hm:(BitVec.ofInt 64 ((2^k-1:Nat):Int)).toNat=2^k-1:=by
  have hlt:2^k-1<2^64:=Nat.lt_of_lt_of_le (Nat.sub_lt (Nat.two_pow_pos k) (by decide)) (Nat.pow_le_pow_right (by decide) (by omega))
  rw[BitVec.toNat_ofInt]
  have:(((2^k-1:Nat):Int)%((2^64:Nat):Int))=(((2^k-1)%2^64:Nat):Int):=(Int.natCast_emod ..).symm
  rw[this,Int.toNat_natCast,Nat.mod_eq_of_lt hlt]
 refine Nat.eq_of_testBit_eq fun i=>?_
 rw[←BitVec.getLsbD,BitVec.getLsbD_and,BitVec.getLsbD_not]
 rw[BitVec.getLsbD,BitVec.getLsbD,hm,Nat.testBit_two_pow_sub_one,Nat.testBit_two_pow_mul]
 show((uns a).testBit i&&_)=_
 rw[Nat.testBit_div_two_pow]
 by_cases h:i<64
 ·by_cases hki:k≤i
  ·rw[decide_eq_true h,decide_eq_false (by omega),decide_eq_true hki,show i-k+k=i by omega];simp
  ·rw[decide_eq_true h,decide_eq_true (show i<k by omega),decide_eq_false hki];simp
 ·have:(uns a).testBit i=false:=Nat.testBit_lt_two_pow (Nat.lt_of_lt_of_le (dQ a) (Nat.pow_le_pow_right (by decide) (by omega)))
  by_cases hki:k≤i
  ·rw[this,decide_eq_true hki,show i-k+k=i by omega,this];simp
  ·omega
theorem set_low {x v:Int}{n:Nat}(hn:n=1∨n=2)(hx:I64 x)(hv:I64 v)(m:Int)(hm:m=((2^(8*n)-1:Nat):Int)):
  ak .i64 (ior .u64 (fR .u64 (ak .u64 x) m) (cH .u64 (ak .u64 (bL v n)) 0))=ax .i64 x (aM .i64 (bL v n) (bL x n)):=by
 have hs:bX (n:Int)=true:=by rcases hn with rfl|rfl<;>rfl
 have hw:∀z:Int,ak .u64 z=z%18446744073709551616:=fun z=>ez
 have e0:cH .u64 (ak .u64 (bL v n)) 0=ak .u64 (bL v n)%18446744073709551616:=by
  have:=wO (ak .u64 (bL v n)) 0 (by decide)
  rw[Int.pow_zero,Int.mul_one]at this
  exact this
 have h1:=oM (a:=ak .u64 x) (b:=x) (m:=m) (by rw[hw];omega)
 have h2:cH .u64 (ak .u64 (bL v n)) 0%18446744073709551616=bL v n%18446744073709551616:=by rw[e0,hw];omega
 rw[tC h1 h2]
 refine iw (jv ..) (aD _) ?_
 rw[kR,hm,zc x _ (by omega),cf hv hs,←Nat.two_pow_add_eq_or_of_lt (fQ v n)]
 unfold ax aM
 rw[bM]
 have hl:=cf hv hs
 have hl2:=cf hx hs
 have c1:=bc (bL v n)
 have c2:=bc (bL x n)
 have c3:=bc x
 rw[hl]at c1
 rw[hl2]at c2
 have hlx:bV x n=uns x%2^(8*n):=rfl
 have hdm:=Nat.div_add_mod (uns x) (2^(8*n))
 have hux:=dQ x
 have hlv:=fQ v n
 have hP:2^(8*n)≤65536:=by rcases hn with rfl|rfl<;>decide
 have hz:=bc (x+IntKind.wrap .i64 (bL v n-bL x n))
 have hwe:=kU (bL v n-bL x n)
 rw[show(2:Int)^64=18446744073709551616 from rfl]at*
 have key:((uns (x+IntKind.wrap .i64 (bL v n-bL x n)):Nat):Int)=((2^(8*n)*(uns x/2^(8*n))+bV v n:Nat):Int):=by
  rw[hz]
  have hbd:2^(8*n)*(uns x/2^(8*n))+bV v n<18446744073709551616:=by
   have hd64:2^(8*n)*(uns x/2^(8*n))+2^(8*n)≤2^64:=by
    have hq:uns x/2^(8*n)<2^(64-8*n):=Nat.div_lt_of_lt_mul (by rw[←Nat.pow_add,show 8*n+(64-8*n)=64 by omega];exact hux)
    have:2^(8*n)*(uns x/2^(8*n)+1)≤2^(8*n)*2^(64-8*n):=Nat.mul_le_mul_left _ hq
    rw[←Nat.pow_add,show 8*n+(64-8*n)=64 by omega,Nat.mul_add,Nat.mul_one]at this
    exact this
   exact Nat.lt_of_lt_of_le (Nat.add_lt_add_left hlv _) hd64
  rw[Int.natCast_add]
  obtain⟨A,hA⟩:∃A,A=2^(8*n)*(uns x/2^(8*n)):=⟨_,rfl⟩
  rw[←hA]at hdm hbd⊢
  rw[←hlx]at hdm
  generalize IntKind.wrap .i64 (bL v n-bL x n)=W at*
  omega
 omega
end
end Go.Den.G
namespace Go.Den.G
open Go.Den
set_option maxRecDepth 100000
noncomputable section
theorem ishl8 (v:Int):cH .u64 (ak .u64 v) 8%18446744073709551616=cH .i64 v 8%18446744073709551616:=by
 have h1:cH .u64 (ak .u64 v) 8=ak .u64 v*256%18446744073709551616:=wO (ak .u64 v) 8 (by decide)
 have h2:ak .u64 v=v%18446744073709551616:=ez
 have h3:cH .i64 v 8=IntKind.wrap .i64 (v*256):=rfl
 rw[h1,h2,h3,kU]
 omega
theorem iX {g:List Int}{rip fl r v:Int}{n:Nat}(hg:je g)(hv:I64 v)(hn:bX (n:Int)=true)(hr:qc r n):
  cd (((g,(rip,(fl,()))),(r,((n:Int),(v,())))),())=some ((pQ g r n v,(rip,(fl,()))),()):=by
 have h1:=bj hv n hn
 have h4:=rN hn
 unfold qc at hr
 unfold cd pQ Go.Den.G.setA
 dsimp only
 rw[h1,aa]
 dsimp only
 by_cases h16:16≤r
 ·have hn1:n=1:=by omega
  subst hn1
  rw[fv h16,aR,aa,ar,if_pos h16,eu (by omega) (by omega)]
  dsimp only
  rw[show leI 4 ((1:Nat):Int)=false from rfl,ap,show bf .i64 8 ((1:Nat):Int)=8 from rfl,show ak .u64 8=8 from rfl,show leI 0 8=true from rfl,aR,aR,ah (cu (by omega) (by omega)),aR,ah (cu (by omega) (by omega))]
  rw[show cH .u64 (aM .u64 (cH .u64 1 8) 1) 8=65280 from by decide]
  have e:=tC (a:=fR .u64 (ak .u64 (aj g (r-16) (ag .i))) 65280) (b:=cH .u64 (ak .u64 (bL v 1)) 8) (c:=fR .i64 (aj g (r-16) (ag .i)) 65280) (d:=cH .i64 (bL v 1) 8)
   (oM (by rw[show ak .u64 (aj g (r-16) (ag .i))=_ from ez,Int.emod_emod])) (ishl8 _)
  rw[e]
 ·rw[jy h16,ap,aa,ar,if_neg h16]
  dsimp only
  by_cases h4':4≤n
  ·rw[ah (fv (by omega)),ah (cu (by omega) (by omega)),if_pos h4']
  ·rw[aw (jy (by omega)),if_neg h4']
   have hI:=hg r
   have hn12:n=1∨n=2:=by omega
   have e:=set_low (x:=rg g r) (v:=v) (n:=n) hn12 hI hv ((2^(8*n)-1:Nat):Int) rfl
   rcases hn12 with rfl|rfl
   ·rw[show bf .i64 8 ((1:Nat):Int)=8 from rfl,show ak .u64 8=8 from rfl,show ak .u64 0=0 from rfl,show leI 0 8=true from rfl,show leI 0 0=true from rfl,aR,aR,ah (cu (by omega) (by omega)),aR,ah (cu (by omega) (by omega))]
    rw[show cH .u64 (aM .u64 (cH .u64 1 8) 1) 0=((2^(8*1)-1:Nat):Int)from by decide]
    rw[e]
   ·rw[show bf .i64 8 ((2:Nat):Int)=16 from rfl,show ak .u64 16=16 from rfl,show ak .u64 0=0 from rfl,show leI 0 16=true from rfl,show leI 0 0=true from rfl,aR,aR,ah (cu (by omega) (by omega)),aR,ah (cu (by omega) (by omega))]
    rw[show cH .u64 (aM .u64 (cH .u64 1 16) 1) 0=((2^(8*2)-1:Nat):Int)from by decide]
    rw[e]
theorem mul_u (a b:Int):ak .i64 (bf .u64 (ak .u64 a) (ak .u64 b))=bf .i64 a b:=by
 have h1:∀z:Int,ak .u64 z=z%18446744073709551616:=fun z=>ez
 unfold ak bf
 refine jT ?_
 rw[ez,ez,ez,Int.emod_emod,Int.mul_emod a b,←Int.mul_emod]
theorem j9 {g:List Int}{rip fl nx:Int}{o:Opd}(hb:o.base≤16∧o.index≤15):
  bE (((g,(rip,(fl,()))),(cB o (),(nx,()))),())=some (lz g nx o,()):=by
 unfold bE lz cB
 dsimp only
 refine(Ret.bnd (Q:=fun y=>y=Sum.inl ((if o.base=16 then ax .i64 o.disp nx else if 0≤o.base then ax .i64 o.disp (rg g o.base)else o.disp,()),((g,(rip,(fl,()))),((o.kind,(o.reg,(o.base,(o.index,(o.scale,(o.disp,(o.imm,()))))))),())))) ?_ ?_).eq
 ·by_cases b16:o.base=16
  ·rw[bn b16,aR,if_pos b16,ei,aa]
   exact Ret.some rfl
  ·rw[aG b16,ap,if_neg b16]
   by_cases hb0:0≤o.base
   ·rw[ah (fv hb0),ah (cu hb0 (by omega)),if_pos hb0,ei,aa,aa,ar]
    exact Ret.some rfl
   ·rw[aw (jy hb0),if_neg hb0,aa,ar]
    exact Ret.some rfl
 rintro _ rfl
 rw[ar]
 dsimp only
 by_cases hi:0≤o.index
 ·rw[ah (fv hi),ah (cu hi (by omega)),if_pos hi,mul_u,ei,aa]
  exact Ret.some rfl
 ·rw[aw (jy hi),if_neg hi]
  exact Ret.some rfl
theorem vg (m:List Page)(hm:MemT m)(a v:Int)(n:Nat)(hn:bX (n:Int)=true)(ha:I64 a):
  d9 (((m,()),(a,((n:Int),(v,())))),())=some ((((i7 m a n v).1,()),((i7 m a n v).2,())),()):=by
 obtain⟨n1,n8⟩:=di hn
 obtain⟨_,hs⟩:=sn m hm a v n hn ha
 generalize i7 m a n v=s at hs⊢
 obtain⟨x,e⟩:=s
 dsimp only at hs⊢
 unfold d9
 dsimp only
 rw[mP m hm.r a 2 n n1 (by omega) ha,aa]
 dsimp only
 rcases hs with ⟨_,rfl,he,hf⟩|⟨rfl,hf,hx⟩
 ·rw[aG hf,dp,aR,he]
 ·have hok:=mr hm.r n 0 hf
  have hok:∀k,k<(leB v n).length→¬fnd m (a+(k:Nat))<0:=fun k hk=>hok k (Nat.zero_le _) (by rw[ni]at hk;omega)
  obtain⟨y,hy1,hy2⟩:=put_ex m hm a (leB v n) ha (by rw[ni];omega) hok
  rw[ni]at hy2
  rw[hf,bn rfl,cc,ap,tF v n n8,aa,hy1,aa,hy2.unique hx]
abbrev TR:=(List Int×Int×Int×List Page×Int×Int×Unit)×List Acc×Unit
def MS.r (s:MS)(rip fl nx:Int):TR:=((s.g,rip,fl,s.m,nx,s.code,()),s.l,())
theorem zJ {s:MS}{k:Nat}(hs:s.ok k)(hk:k≤1000){a:Int}(ha:I64 a){n:Nat}(hn:bX (n:Int)=true)(rip fl nx:Int):
  ba ((a,((n:Int),())),s.r rip fl nx)=some ((s.ld a n).1,(s.ld a n).2.r rip fl nx):=by
 obtain⟨n1,n8⟩:=di hn
 unfold ba MS.r MS.ld
 dsimp only
 by_cases hc:s.code=0
 ·rw[hc,if_neg (by simp),bn rfl,cc,ap,uu _ hs.m.r a n n1 n8 ha,aa]
  dsimp only
  rw[Bv (Nat.le_trans hs.l hk),aR]
  rfl
 ·rw[if_pos hc,aG hc,dp,aR]
theorem vQ {s:MS}{k:Nat}(hs:s.ok k)(hk:k≤1000){a v:Int}(ha:I64 a)(hv:I64 v){n:Nat}(hn:bX (n:Int)=true)(rip fl nx:Int):
  aT ((a,((n:Int),(v,()))),s.r rip fl nx)=some ((),(s.st a n v).r rip fl nx):=by
 unfold aT MS.r MS.st
 dsimp only
 by_cases hc:s.code=0
 ·rw[hc,if_neg (by simp),bn rfl,cc,ap,vg _ hs.m a v n hn ha,aa,bj hv n hn,aa]
  dsimp only
  rw[Bv (Nat.le_trans hs.l hk),aR]
  rfl
 ·rw[if_pos hc,aG hc,dp,aR]
theorem get_r {s:MS}{k:Nat}(hs:s.ok k)(hk:k≤1000){o:Opd}{n:Nat}(hn:bX (n:Int)=true)(hv:OpV o n)(rip fl nx:Int):
  az ((cB o (),((n:Int),())),s.r rip fl nx)=some ((s.rd nx o n).1,(s.rd nx o n).2.r rip fl nx):=by
 have hI:=jU (g:=s.g) (nx:=nx) hv
 have hl:=zJ hs hk hI hn rip fl nx
 have hg:=(hs.ld (lz s.g nx o) n).2.2
 unfold az MS.rd
 dsimp only[cB]
 by_cases h1:o.kind=1
 ·have hr:=hv.r (by omega) h1
  rw[if_pos h1,bn h1,aR]
  have h:=pd (rip:=rip) (fl:=fl) hs.g hn hr
  unfold MS.r
  dsimp only
  rw[h,aa]
 ·rw[if_neg h1,aG h1,ap]
  by_cases h2:o.kind=2
  ·rw[if_pos h2,bn h2,aR]
   have h:=j9 (g:=s.g) (rip:=rip) (fl:=fl) (nx:=nx) (hv.b h2)
   unfold MS.r at hl⊢
   unfold cB at h
   dsimp only at hl⊢
   rw[h,aa]
   dsimp only
   rw[hl,aa]
   dsimp only
   rw[hg.1,hg.2]
  ·rw[if_neg h2,aG h2,ap]
theorem put_r {s:MS}{k:Nat}(hs:s.ok k)(hk:k≤1000){o:Opd}{n:Nat}{v:Int}(hI:I64 v)(hn:bX (n:Int)=true)(hv:OpV o n)(h0:o.kind=1∨o.kind=2)(rip fl nx:Int):
  aK ((cB o (),((n:Int),(v,()))),s.r rip fl nx)=some ((),(s.wr nx o n v).r rip fl nx):=by
 have hA:=jU (g:=s.g) (nx:=nx) hv
 have hl:=vQ hs hk (v:=v) hA hI hn rip fl nx
 have hg:=(hs.st (v:=v) hA hn).2
 unfold aK MS.wr
 dsimp only[cB]
 by_cases h2:o.kind=2
 ·rw[if_pos h2,aG (by omega),ap]
  have h:=j9 (g:=s.g) (rip:=rip) (fl:=fl) (nx:=nx) (hv.b h2)
  unfold MS.r at hl⊢
  unfold cB at h
  dsimp only at hl⊢
  rw[h,aa]
  dsimp only
  rw[hl,aa]
  dsimp only
  rw[hg]
 ·have h1:o.kind=1:=by omega
  have hr:=hv.r h2 h1
  rw[if_neg h2,bn h1,aR]
  have h:=iX (rip:=rip) (fl:=fl) hs.g hI hn hr
  unfold MS.r
  dsimp only
  rw[h,aa]
theorem push_r {s:MS}{k:Nat}(hs:s.ok k)(hk:k≤1000){v:Int}(hv:I64 v)(rip fl nx:Int):bJ ((v,()),s.r rip fl nx)=some ((),(s.pu v).r rip fl nx):=by
 have h1:=hs.setA (i:=4) (v:=aM .i64 (rg s.g 4) 8) (aD _)
 have h2:=vQ h1 hk (a:=rg (setA s.g 4 (aM .i64 (rg s.g 4) 8)) 4) (v:=v) (n:=8) (h1.g 4) hv rfl rip fl nx
 have h3:=(h1.st (a:=rg (setA s.g 4 (aM .i64 (rg s.g 4) 8)) 4) (n:=8) (h1.g 4) rfl v).2
 have e:ax .i64 (rg s.g 4) (-8)=aM .i64 (rg s.g 4) 8:=by unfold ax aM;rw[Int.sub_eq_add_neg]
 unfold bJ
 unfold MS.r at h2⊢
 dsimp only at h2 h3⊢
 have e':aU (((aj s.g 4 (ag .i)),(-8,())),())=some (aM .i64 (rg s.g 4) 8,()):=by rw[ei];rw[←e]
 rw[e',aa]
 dsimp only
 have h2':aT (((aj (aN (cw 16 (ag .i) s.g) 4 (aM .i64 (rg s.g 4) 8)) 4 (ag .i)),(8,(v,()))),(((aN (cw 16 (ag .i) s.g) 4 (aM .i64 (rg s.g 4) 8)),(rip,(fl,(s.m,(nx,(s.code,())))))),(s.l,())))=_:=h2
 rw[h2',aa]
 unfold MS.pu
 dsimp only
 rw[h3]
 rfl
theorem pop_r {s:MS}{k:Nat}(hs:s.ok k)(hk:k≤1000)(rip fl nx:Int):bW ((),s.r rip fl nx)=some (s.po.1,s.po.2.r rip fl nx):=by
 have h2:=zJ hs hk (a:=rg s.g 4) (n:=8) (hs.g 4) rfl rip fl nx
 have h3:=(hs.ld (rg s.g 4) 8).2.2
 unfold bW
 unfold MS.r at h2⊢
 dsimp only at h2⊢
 have h2':ba (((aj s.g 4 (ag .i)),(8,())),((s.g,(rip,(fl,(s.m,(nx,(s.code,())))))),(s.l,())))=_:=h2
 rw[h2',aa,ei,aa]
 unfold MS.po
 dsimp only
 rw[h3.2]
 rfl
theorem goal_r {s:MS}{k:Nat}(hs:s.ok k)(hk:k≤1000){x:Ins}(hv:OpV x.src 8)(rip fl nx:Int):bm ((x,()),s.r rip fl nx)=some ((s.go nx x).1,(s.go nx x).2.r rip fl nx):=by
 have hr:=get_r hs hk (n:=8) rfl hv rip fl nx
 have hg:=(hs.rd nx (n:=8) rfl hv).2.2
 unfold bm MS.go
 dsimp only
 by_cases h3:x.src.kind=3
 ·rw[bn h3,aR,if_pos h3]
  have h:=ei nx x.src.imm
  unfold MS.r
  dsimp only
  rw[h,aa]
 ·rw[aG h3,ap,if_neg h3]
  have hr':az ((cB x.src (),(8,())),s.r rip fl nx)=_:=hr
  rw[hr',aa]
  unfold MS.r
  dsimp only
  rw[hg.1,hg.2]
end
end Go.Den.G
namespace Go.Den.G
open Go.Den
set_option maxRecDepth 100000
set_option linter.unusedSectionVars false
noncomputable section
theorem gtq {g:List Int}{m:List Page}{c:Int}{l:List Acc}{k:Nat}(hs:(MS.mk g m c l).ok k)(hk:k≤1000){o:Opd}{n:Nat}(hn:bX (n:Int)=true)(hv:OpV o n)(nx:Int):
  ∃v c' l',(MS.mk g m c l).rd nx o n=(v,⟨g,m,c',l'⟩)∧(∀rip fl,az ((cB o (),((n:Int),())),((g,rip,fl,m,nx,c,()),l,()))=some (v,((g,rip,fl,m,nx,c',()),l',())))∧(MS.mk g m c' l').ok (k+1)∧I64 v:=by
 obtain⟨h1,h2,h3,h4⟩:=hs.rd nx hn hv
 have h5:=fun rip fl=>get_r hs hk hn hv rip fl nx
 obtain⟨v,c',l',e⟩:=xW h3 h4
 rw[e]at h1 h2
 refine⟨v,c',l',e,fun rip fl=>?_,h1,h2⟩
 have:=h5 rip fl
 rw[e]at this
 exact this
theorem ptq {g:List Int}{m:List Page}{c:Int}{l:List Acc}{k:Nat}(hs:(MS.mk g m c l).ok k)(hk:k≤1000){o:Opd}{n:Nat}(hn:bX (n:Int)=true)(hv:OpV o n)(h0:o.kind=1∨o.kind=2)(nx:Int){v:Int}(hI:I64 v):
  ∃g' m' c' l',(MS.mk g m c l).wr nx o n v=⟨g',m',c',l'⟩∧(∀rip fl,aK ((cB o (),((n:Int),(v,()))),((g,rip,fl,m,nx,c,()),l,()))=some ((),((g',rip,fl,m',nx,c',()),l',())))∧(MS.mk g' m' c' l').ok (k+1):=
 ⟨_,_,_,_,rfl,fun rip fl=>put_r hs hk hI hn hv h0 rip fl nx,hs.wr nx hI hn hv⟩
theorem puq {g:List Int}{m:List Page}{c:Int}{l:List Acc}{k:Nat}(hs:(MS.mk g m c l).ok k)(hk:k≤1000){v:Int}(hv:I64 v):
  ∃g' m' c' l',(MS.mk g m c l).pu v=⟨g',m',c',l'⟩∧(∀rip fl nx,bJ ((v,()),((g,rip,fl,m,nx,c,()),l,()))=some ((),((g',rip,fl,m',nx,c',()),l',())))∧(MS.mk g' m' c' l').ok (k+1):=
 ⟨_,_,_,_,rfl,fun rip fl nx=>push_r hs hk hv rip fl nx,hs.pu v⟩
theorem poq {g:List Int}{m:List Page}{c:Int}{l:List Acc}{k:Nat}(hs:(MS.mk g m c l).ok k)(hk:k≤1000):
  ∃v g' c' l',(MS.mk g m c l).po=(v,⟨g',m,c',l'⟩)∧(∀rip fl nx,bW ((),((g,rip,fl,m,nx,c,()),l,()))=some (v,((g',rip,fl,m,nx,c',()),l',())))∧(MS.mk g' m c' l').ok (k+1)∧I64 v:=by
 obtain⟨h1,h2,h3⟩:=hs.po
 have h5:=fun rip fl nx=>pop_r hs hk rip fl nx
 obtain⟨v,g',c',l',e⟩:∃v g' c' l',(MS.mk g m c l).po=(v,MS.mk g' m c' l'):=by
  generalize (MS.mk g m c l).po=r at h3
  obtain⟨v,g',m',c',l'⟩:=r
  cases h3
  exact⟨v,g',c',l',rfl⟩
 rw[e]at h1 h2
 refine⟨v,g',c',l',e,fun rip fl nx=>?_,h1,h2⟩
 have:=h5 rip fl nx
 rw[e]at this
 exact this
theorem goq {g:List Int}{m:List Page}{c:Int}{l:List Acc}{k:Nat}(hs:(MS.mk g m c l).ok k)(hk:k≤1000){x:Ins}(hv:OpV x.src 8)(nx:Int):
  ∃v c' l',(MS.mk g m c l).go nx x=(v,⟨g,m,c',l'⟩)∧(∀rip fl,bm ((x,()),((g,rip,fl,m,nx,c,()),l,()))=some (v,((g,rip,fl,m,nx,c',()),l',())))∧(MS.mk g m c' l').ok (k+1)∧I64 v:=by
 obtain⟨h1,h2⟩:=hs.go nx hv
 have h5:=fun rip fl=>goal_r hs hk hv rip fl nx
 have h3:((MS.mk g m c l).go nx x).2.g=g∧((MS.mk g m c l).go nx x).2.m=m:=by
  unfold MS.go
  split
  ·exact⟨rfl,rfl⟩
  ·exact(hs.rd nx (n:=8) rfl hv).2.2
 obtain⟨v,c',l',e⟩:=xW h3.1 h3.2
 rw[e]at h1 h2
 refine⟨v,c',l',e,fun rip fl=>?_,h1,h2⟩
 have:=h5 rip fl
 rw[e]at this
 exact this
theorem ldq {g:List Int}{m:List Page}{c:Int}{l:List Acc}{k:Nat}(hs:(MS.mk g m c l).ok k)(hk:k≤1000){a:Int}(ha:I64 a){n:Nat}(hn:bX (n:Int)=true):
  ∃v c' l',(MS.mk g m c l).ld a n=(v,⟨g,m,c',l'⟩)∧(∀rip fl nx,ba ((a,((n:Int),())),((g,rip,fl,m,nx,c,()),l,()))=some (v,((g,rip,fl,m,nx,c',()),l',())))∧(MS.mk g m c' l').ok (k+1)∧I64 v:=by
 obtain⟨h1,h2,h3,h4⟩:=hs.ld a n
 have h5:=fun rip fl nx=>zJ hs hk ha hn rip fl nx
 obtain⟨v,c',l',e⟩:=xW h3 h4
 rw[e]at h1 h2
 refine⟨v,c',l',e,fun rip fl nx=>?_,h1,h2⟩
 have:=h5 rip fl nx
 rw[e]at this
 exact this
theorem stq {g:List Int}{m:List Page}{c:Int}{l:List Acc}{k:Nat}(hs:(MS.mk g m c l).ok k)(hk:k≤1000){a:Int}(ha:I64 a){n:Nat}(hn:bX (n:Int)=true){v:Int}(hv:I64 v):
  ∃m' c' l',(MS.mk g m c l).st a n v=⟨g,m',c',l'⟩∧(∀rip fl nx,aT ((a,((n:Int),(v,()))),((g,rip,fl,m,nx,c,()),l,()))=some ((),((g,rip,fl,m',nx,c',()),l',())))∧(MS.mk g m' c' l').ok (k+1):=by
 obtain⟨h1,h2⟩:=hs.st ha hn v
 have h5:=fun rip fl nx=>vQ hs hk ha hv hn rip fl nx
 obtain⟨m',c',l',e⟩:∃m' c' l',(MS.mk g m c l).st a n v=⟨g,m',c',l'⟩:=by
  generalize (MS.mk g m c l).st a n v=r at h2
  obtain⟨g',m',c',l'⟩:=r
  cases h2
  exact⟨m',c',l',rfl⟩
 rw[e]at h1
 refine⟨m',c',l',e,fun rip fl nx=>?_,h1⟩
 have:=h5 rip fl nx
 rw[e]at this
 exact this
def RelR (S:MS)(nx fl:Int)(e:MS×Int×Int):Prop:=S.l=e.1.l∧S.code=e.1.code∧(e.1.code=0→S=e.1∧nx=e.2.1∧fl=e.2.2)
theorem RelR.same {S:MS}{nx fl:Int}{e:MS×Int×Int}(h:e=(S,nx,fl)):RelR S nx fl e:=by subst h;exact⟨rfl,rfl,fun _=>⟨rfl,rfl,rfl⟩⟩
def fe (g:List Int)(m:List Page)(c:Int)(l:List Acc)(x:Ins)(rip fl nx:Int)(e:MS×Int×Int):Prop:=
 ∃S fl' nx',aO ((x,()),((g,rip,fl,m,nx,c,()),l,()))=some ((),S.r rip fl' nx')∧RelR S nx' fl' e
theorem yH {α β:Type}(n:Nat)(X:α):br (leI (n:Int) 8) (some (Sum.inl (((leI (n:Int) 8),()),X):Sum ((Bool×Unit)×α) β)) (some (Sum.inl (((eqI (n:Int) 10),()),X)))=some (Sum.inl ((decide (n≤8∨n=10),()),X)):=by
 by_cases h:n≤8
 ·rw[fv (show(n:Int)≤8 by omega),aR,decide_eq_true (by omega)]
 ·rw[jy (show ¬(n:Int)≤8 by omega),ap]
  by_cases h2:n=10
  ·rw[bn (show(n:Int)=10 by omega),decide_eq_true (by omega)]
  ·rw[aG (show ¬(n:Int)=10 by omega),decide_eq_false (by omega)]
theorem AP {α R:Type}(n:Nat)(X:α):
  (br (eqI (n:Int) 11) (some (Sum.inl (((eqI (n:Int) 11),()),X))) (bnd (br (eqI (n:Int) 12) (some (Sum.inl (((eqI (n:Int) 12),()),X))) (bnd (br (eqI (n:Int) 18) (some (Sum.inl (((eqI (n:Int) 18),()),X))) (some (Sum.inl (((eqI (n:Int) 19),()),X)))) (fun(x9:Sum ((Bool×Unit)×α) (Sum ((Bool×Unit)×α) (Sum ((Bool×Unit)×α) R)))=>(b8 x9 (fun x10=>(some (Sum.inl x10))) some)))) (fun(x11:Sum ((Bool×Unit)×α) (Sum ((Bool×Unit)×α) R))=>(b8 x11 (fun x12=>(some (Sum.inl x12))) some))))=some (Sum.inl ((decide (n=11∨n=12∨n=18∨n=19),()),X)):=by
 by_cases h1:n=11
 ·rw[bn (show(n:Int)=11 by omega),aR,decide_eq_true (by omega)]
 rw[aG (show ¬(n:Int)=11 by omega),ap]
 by_cases h2:n=12
 ·rw[bn (show(n:Int)=12 by omega),aR,aa,ar,decide_eq_true (by omega)]
 rw[aG (show ¬(n:Int)=12 by omega),ap]
 by_cases h3:n=18
 ·rw[bn (show(n:Int)=18 by omega),aR,aa,ar,aa,ar,decide_eq_true (by omega)]
 rw[aG (show ¬(n:Int)=18 by omega),ap,aa,ar,aa,ar]
 by_cases h4:n=19
 ·rw[bn (show(n:Int)=19 by omega),decide_eq_true (by omega)]
 ·rw[aG (show ¬(n:Int)=19 by omega),decide_eq_false (by omega)]
theorem put_ne (n:Nat):br (aX (eqI (n:Int) 8)) (some (aX (eqI (n:Int) 10))) (some false)=some (decide (n≠8∧n≠10)):=by
 by_cases a8:n=8
 ·rw[bn (show(n:Int)=8 by omega),cc,ap,decide_eq_false (by omega)]
 ·rw[aG (show ¬(n:Int)=8 by omega),dp,aR]
  by_cases a10:n=10
  ·rw[bn (show(n:Int)=10 by omega),cc,decide_eq_false (by omega)]
  ·rw[aG (show ¬(n:Int)=10 by omega),dp,decide_eq_true (by omega)]
end
end Go.Den.G
namespace Go.Den.G
open Go.Den
set_option maxRecDepth 100000
set_option linter.unusedSectionVars false
noncomputable section
theorem Am {w v op a f:Int}{z:Nat}(h:w%64=v%64):ip op z a w f=ip op z a v f:=by
 unfold ip
 have:vL z w=vL z v:=by unfold vL;split<;>omega
 rw[this]
section
variable {g:List Int}{m:List Page}{c:Int}{l:List Acc}{k:Nat}(hs:(MS.mk g m c l).ok k)(hk:k+4≤1000){x:Ins}{n z:Nat}{rip fl nx:Int}
include hs hk
theorem z9 (hx:ExV x n)(hz:x.size=z)(hn:n≤8∨n=10):fe g m c l x rip fl nx (((MS.mk g m c l).reck nx fl x n z).1,nx,((MS.mk g m c l).reck nx fl x n z).2):=by
 have hop:=hx.op
 have hz':bX (z:Int)=true:=by rw[←hz];exact hx.szs.1 (by omega)
 have hdv:=hx.dv
 have hsv:=hx.sv
 have hss2:=(oi hx (by omega) hz hz').2
 have hsz:wS n z=z:=by unfold wS;rw[if_neg (by omega)]
 have hks:=hx.kd.2.2.2.2.2.2.2.2.2.2 (by omega)
 rw[hz]at hdv
 rw[hss2,hsz]at hsv
 obtain⟨v1,c1,l1,e1,r1,ok1,I1⟩:=gtq hs (by omega) hz' hdv nx
 obtain⟨v2,c2,l2,e2,r2,ok2,I2⟩:=gtq ok1 (by omega) hz' hsv nx
 have hrk:mT n z v1 v2 fl=uK n z v1 v2 fl:=by unfold mT;rw[if_pos hn]
 have rI:=(yt (op:=(n:Int)) (b:=v2) (f:=fl) hz' I1).1
 have hre:(MS.mk g m c l).reck nx fl x n z=(if n≠8∧n≠10 then(MS.mk g m c2 l2).wr nx x.dst z (uK n z v1 v2 fl).1 else MS.mk g m c2 l2,(uK n z v1 v2 fl).2):=by
  unfold MS.reck MS.rd0
  dsimp only
  rw[e1,if_pos (show x.src.kind≠0 by omega),hsz]
  dsimp only
  rw[e2]
  dsimp only
  rw[hrk]
 rw[hre]
 have hA:=zw (op:=(n:Int)) (f:=fl) hz' I1 I2
 generalize uK (n:Int) z v1 v2 fl=A at rI hA⊢
 obtain⟨A,f'⟩:=A
 dsimp only at rI hA⊢
 unfold cB at r1 r2
 unfold fe aO
 dsimp only
 rw[hop,yH,aa,ar,decide_eq_true hn]
 dsimp only[cz,cB,cp7,d5,d11]
 rw[aR,hop,hz,r1,aa]
 dsimp only
 rw[r2,aa]
 dsimp only
 rw[hA,aa,put_ne,aa]
 dsimp only
 by_cases h:n≠8∧n≠10
 ·obtain⟨g',m',c',l',e3,r3,ok3⟩:=ptq ok2 (by omega) hz' hdv (hx.kd.1 (by omega)) nx rI
  unfold cB at r3
  rw[decide_eq_true h,aR,if_pos h,e3,r3,aa]
  exact⟨⟨g',m',c',l'⟩,f',nx,rfl,.same rfl⟩
 ·rw[decide_eq_false h,ap,if_neg h]
  exact⟨⟨g,m,c2,l2⟩,f',nx,rfl,.same rfl⟩
theorem Aa (hx:ExV x n)(hz:x.size=z)(hI:I64 fl)(hf:bK fl=true)(hn:n=11∨n=12∨n=18∨n=19):fe g m c l x rip fl nx (((MS.mk g m c l).reck nx fl x n z).1,nx,((MS.mk g m c l).reck nx fl x n z).2):=by
 have hop:=hx.op
 have hz':bX (z:Int)=true:=by rw[←hz];exact hx.szs.1 (by omega)
 have hdv:=hx.dv
 have hks:=hx.kd.2.2.2.2.2.2.2.2.2.1 (by omega)
 rw[hz]at hdv
 obtain⟨v1,c1,l1,e1,r1,ok1,I1⟩:=gtq hs (by omega) hz' hdv nx
 have hrk:mT n z v1 0 fl=vA n z v1 fl:=by unfold mT;rw[if_neg (by omega),if_pos (by omega)]
 have hre:(MS.mk g m c l).reck nx fl x n z=((MS.mk g m c1 l1).wr nx x.dst z (vA n z v1 fl).1,(vA n z v1 fl).2):=by
  unfold MS.reck MS.rd0
  dsimp only
  rw[e1,if_neg (show ¬x.src.kind≠0 by omega)]
  dsimp only
  rw[hrk,if_pos (show n≠8∧n≠10 by omega)]
 rw[hre]
 have hA:=zx (op:=(n:Int)) (f:=fl) hz' I1
 have rI:=(z4 (op:=(n:Int)) (a:=v1) hz' hI hf).1
 generalize vA (n:Int) z v1 fl=A at rI hA⊢
 obtain⟨A,f'⟩:=A
 dsimp only at rI hA⊢
 obtain⟨g',m',c',l',e3,r3,ok3⟩:=ptq ok1 (by omega) hz' hdv (hx.kd.1 (by omega)) nx rI
 unfold cB at r1 r3
 unfold fe aO
 dsimp only
 rw[hop,yH,aa,ar,decide_eq_false (by omega)]
 dsimp only
 rw[ap,show(cz x ()).1=(n:Int)from hop,AP,aa,ar,decide_eq_true hn]
 dsimp only[cz,cB,cp7,d5,d11]
 rw[aR,hop,hz,r1,aa]
 dsimp only
 rw[hA,aa]
 dsimp only
 rw[r3,aa,e3]
 exact⟨⟨g',m',c',l'⟩,f',nx,rfl,.same rfl⟩
theorem vE (hx:ExV x n)(hz:x.size=z)(hI:I64 fl)(hf:bK fl=true)(hn:20≤n∧n≤24):fe g m c l x rip fl nx (((MS.mk g m c l).reck nx fl x n z).1,nx,((MS.mk g m c l).reck nx fl x n z).2):=by
 have hop:=hx.op
 have hz':bX (z:Int)=true:=by rw[←hz];exact hx.szs.1 (by omega)
 have hdv:=hx.dv
 have hsv:=hx.sv
 have hss2:=(oi hx (by omega) hz hz').2
 have hsz:wS n z=8:=by unfold wS;rw[if_pos (by omega)]
 have hks:=hx.kd.2.2.2.2.2.2.2.2.1 (by omega)
 rw[hz]at hdv
 rw[hss2,hsz]at hsv
 have hsv1:OpV x.src ((1:Nat):Int):=by
  refine⟨fun h2 h1=>?_,hsv.b,hsv.d,hsv.i⟩
  have:=hsv.r h2 h1
  unfold qc at this⊢
  omega
 obtain⟨v1,c1,l1,e1,r1,ok1,I1⟩:=gtq hs (by omega) hz' hdv nx
 have hw:∃w v,(∀rip fl,az ((cB x.src (),(1,())),((g,rip,fl,m,nx,c,()),l,()))=some (w,((g,rip,fl,m,nx,c,()),l,())))∧(MS.mk g m c1 l1).rd nx x.src 8=(v,MS.mk g m c1 l1)∧w%64=bL v 1%64:=by
  have h5:=fun rip fl=>get_r hs (by omega) (n:=1) rfl hsv1 rip fl nx
  unfold MS.rd at h5⊢
  rcases hks with h1|h3
  ·rw[if_pos h1]
   have hr:=hsv.r (by omega) h1
   unfold qc at hr
   refine⟨ji g x.src.reg 1,ji g x.src.reg 8,fun rip fl=>?_,rfl,?_⟩
   ·have:=h5 rip fl
    rw[if_pos h1]at this
    exact this
   ·unfold ji
    rw[if_neg (by omega),if_neg (by omega)]
    have e8:bL (rg g x.src.reg) 8=rg g x.src.reg:=if_pos rfl
    rw[e8]
  ·rw[if_neg (by omega),if_neg (by omega)]
   refine⟨x.src.imm,x.src.imm,fun rip fl=>?_,rfl,?_⟩
   ·have:=h5 rip fl
    rw[if_neg (by omega),if_neg (by omega)]at this
    exact this
   ·unfold bL
    rw[if_neg (by decide),show(2:Int)^(8*1)=256 from rfl]
    omega
 obtain⟨w,v2,r2,e2,hwv⟩:=hw
 have hrk:mT n z v1 v2 fl=ip n z v1 w fl:=by
  unfold mT
  rw[if_neg (by omega),if_neg (by omega),if_pos (by omega)]
  exact(Am hwv).symm
 have hre:(MS.mk g m c l).reck nx fl x n z=((MS.mk g m c1 l1).wr nx x.dst z (ip n z v1 w fl).1,(ip n z v1 w fl).2):=by
  unfold MS.reck MS.rd0
  dsimp only
  rw[e1,if_pos (show x.src.kind≠0 by omega),hsz]
  dsimp only
  rw[e2]
  dsimp only
  rw[hrk,if_pos (show n≠8∧n≠10 by omega)]
 rw[hre]
 have hA:=vj (op:=(n:Int)) (k:=w) (f:=fl) (by omega) hz' I1
 have rI:=(um (op:=(n:Int)) (k:=w) hz' I1 hI hf).1
 generalize ip (n:Int) z v1 w fl=A at rI hA⊢
 obtain⟨A,f'⟩:=A
 dsimp only at rI hA⊢
 obtain⟨g',m',c',l',e3,r3,ok3⟩:=ptq ok1 (by omega) hz' hdv (hx.kd.1 (by omega)) nx rI
 unfold cB at r1 r2 r3
 unfold fe aO
 dsimp only
 rw[hop,yH,aa,ar,decide_eq_false (by omega)]
 dsimp only
 rw[ap,show(cz x ()).1=(n:Int)from hop,AP,aa,ar,decide_eq_false (by omega)]
 dsimp only
 rw[ap,show(cz x ()).1=(n:Int)from hop,bG,aW,aa,decide_eq_true (by omega)]
 dsimp only[cz,cB,cp7,d5,d11]
 rw[aR,hz,r2,aa]
 dsimp only
 rw[r1,aa]
 dsimp only
 rw[hA,aa]
 dsimp only
 rw[r3,aa,e3]
 exact⟨⟨g',m',c',l'⟩,f',nx,rfl,.same rfl⟩
theorem xT (hx:ExV x 17)(hz:x.size=z)(hI:I64 fl)(hf:bK fl=true):fe g m c l x rip fl nx (((MS.mk g m c l).reck nx fl x 17 z).1,nx,((MS.mk g m c l).reck nx fl x 17 z).2):=by
 have hop:=hx.op
 have hz':bX (z:Int)=true:=by rw[←hz];exact hx.szs.1 (by omega)
 have hdv:=hx.dv
 have hsv:=hx.sv
 have hss2:=(oi hx (by omega) hz hz').2
 have hsz:wS 17 z=z:=by unfold wS;rw[if_neg (by omega)]
 have hks:=hx.kd.2.2.2.2.2.2.2.2.2.2 (by omega)
 rw[hz]at hdv
 rw[hss2,hsz]at hsv
 obtain⟨v1,c1,l1,e1,r1,ok1,I1⟩:=gtq hs (by omega) hz' hdv nx
 obtain⟨v2,c2,l2,e2,r2,ok2,I2⟩:=gtq ok1 (by omega) hz' hsv nx
 have hrk:mT 17 z v1 v2 fl=((pp (17:Nat) z v1 v2 fl).1,(pp (17:Nat) z v1 v2 fl).2.2):=by
  unfold mT;rw[if_neg (by omega),if_neg (by omega),if_neg (by omega)]
 have hre:(MS.mk g m c l).reck nx fl x 17 z=((MS.mk g m c2 l2).wr nx x.dst z (pp (17:Nat) z v1 v2 fl).1,(pp (17:Nat) z v1 v2 fl).2.2):=by
  unfold MS.reck MS.rd0
  dsimp only
  rw[e1,if_pos (show x.src.kind≠0 by omega),hsz]
  dsimp only
  rw[e2]
  dsimp only
  rw[hrk,if_pos (show(17:Nat)≠8∧(17:Nat)≠10 by omega)]
 rw[hre]
 have hA:=lG (op:=((17:Nat):Int)) (f:=fl) hz' I1 I2
 have rI:=(rW (op:=((17:Nat):Int)) (n:=z) (a:=v1) (b:=v2) hI hf).1
 generalize pp ((17:Nat):Int) z v1 v2 fl=A at rI hA⊢
 obtain⟨A,A2,f'⟩:=A
 dsimp only at rI hA⊢
 obtain⟨g',m',c',l',e3,r3,ok3⟩:=ptq ok2 (by omega) hz' hdv (hx.kd.1 (by omega)) nx rI
 unfold cB at r1 r2 r3
 unfold fe aO
 dsimp only
 rw[hop,yH,aa,ar,decide_eq_false (by omega)]
 dsimp only
 rw[ap,show(cz x ()).1=((17:Nat):Int)from hop,AP,aa,ar,decide_eq_false (by omega)]
 dsimp only
 rw[ap,show(cz x ()).1=((17:Nat):Int)from hop,bG,aW,aa,decide_eq_false (by omega)]
 dsimp only
 rw[ap,bn (show((17:Nat):Int)=17 by omega),aR]
 dsimp only[cz,cB,cp7,d5,d11]
 rw[hz,r1,aa]
 dsimp only
 rw[r2,aa]
 dsimp only
 rw[hA,aa]
 dsimp only
 rw[r3,aa,e3]
 exact⟨⟨g',m',c',l'⟩,f',nx,rfl,.same rfl⟩
end
end
end Go.Den.G
namespace Go.Den.G
open Go.Den
set_option maxRecDepth 100000
set_option linter.unusedSectionVars false
noncomputable section
theorem upper_r (z:Nat):ef (((z:Int),()),())=some (upZ z,()):=by
 unfold ef upZ
 dsimp only
 by_cases h:z=1
 ·rw[bn (by omega),aR,if_pos h]
 ·rw[aG (by omega),ap,if_neg h]
theorem reg0 (z:Nat):qc 0 z:=by unfold qc;omega
theorem zb (x:Ins):mS (cz x ())=x:=rfl
section
variable {g:List Int}{m:List Page}{c:Int}{l:List Acc}{k:Nat}(hs:(MS.mk g m c l).ok k)(hk:k+4≤1000){x:Ins}{n z:Nat}{rip fl nx:Int}
include hs hk
theorem plain_9 (hx:ExV x 9)(hz:x.size=z):fe g m c l x rip fl nx ((MS.mk g m c l).move fl nx x 9 z,nx,fl):=by
 have hop:=hx.op
 have hz':bX (z:Int)=true:=by rw[←hz];exact hx.szs.1 (by omega)
 have hdv:=hx.dv
 have hsv:=hx.sv
 rw[hz]at hdv
 rw[show sSz x 9=x.size from by unfold sSz;rw[if_neg (by decide),hx.fr.2 (by decide),if_neg (by decide)],hz]at hsv
 obtain⟨v1,c1,l1,e1,r1,ok1,I1⟩:=gtq hs (by omega) hz' hsv nx
 obtain⟨g',m',c',l',e2,r2,ok2⟩:=ptq ok1 (by omega) hz' hdv (hx.kd.1 (by omega)) nx I1
 unfold cB at r1 r2
 have hre:(MS.mk g m c l).move fl nx x 9 z=⟨g',m',c',l'⟩:=by
  unfold MS.move
  rw[if_pos rfl,e1]
  exact e2
 rw[hre]
 unfold fe aO
 dsimp only
 rw[hop,yH,aa,ar,decide_eq_false (by omega)]
 dsimp only
 rw[ap,show(cz x ()).1=((9:Nat):Int)from hop,AP,aa,ar,decide_eq_false (by omega)]
 dsimp only
 rw[ap,show(cz x ()).1=((9:Nat):Int)from hop,bG,aW,aa,decide_eq_false (by omega)]
 dsimp only
 rw[ap,aG (show ¬((9:Nat):Int)=17 by omega),ap,bn (show((9:Nat):Int)=9 by omega),aR]
 dsimp only[cz,cB,cp7,d5,d11]
 rw[hz,r1,aa]
 dsimp only
 rw[r2,aa]
 exact⟨⟨g',m',c',l'⟩,fl,nx,rfl,.same rfl⟩
theorem CX (hx:ExV x 28)(hz:x.size=z):fe g m c l x rip fl nx ((MS.mk g m c l).move fl nx x 28 z,nx,fl):=by
 have hop:=hx.op
 have hz':bX (z:Int)=true:=by rw[←hz];exact hx.szs.1 (by omega)
 have hdv:=hx.dv
 have hsv:=hx.sv
 rw[hz]at hdv
 rw[show sSz x 28=x.size from by unfold sSz;rw[if_neg (by decide),hx.fr.2 (by decide),if_neg (by decide)],hz]at hsv
 have hsk:=hx.kd.2.1 rfl
 obtain⟨v1,c1,l1,e1,r1,ok1,I1⟩:=gtq hs (by omega) hz' hdv nx
 obtain⟨v2,c2,l2,e2,r2,ok2,I2⟩:=gtq ok1 (by omega) hz' hsv nx
 obtain⟨g3,m3,c3,l3,e3,r3,ok3⟩:=ptq ok2 (by omega) hz' hdv (hx.kd.1 (by omega)) nx I2
 obtain⟨g4,m4,c4,l4,e4,r4,ok4⟩:=ptq ok3 (by omega) hz' hsv (.inl hsk) nx I1
 unfold cB at r1 r2 r3 r4
 have hre:(MS.mk g m c l).move fl nx x 28 z=⟨g4,m4,c4,l4⟩:=by
  unfold MS.move
  dsimp only
  rw[if_neg (by decide),if_pos rfl,e1]
  dsimp only
  rw[e2]
  dsimp only
  rw[e3]
  exact e4
 rw[hre]
 unfold fe aO
 dsimp only
 rw[hop,yH,aa,ar,decide_eq_false (by omega)]
 dsimp only
 rw[ap,show(cz x ()).1=((28:Nat):Int)from hop,AP,aa,ar,decide_eq_false (by omega)]
 dsimp only
 rw[ap,show(cz x ()).1=((28:Nat):Int)from hop,bG,aW,aa,decide_eq_false (by omega)]
 dsimp only
 rw[ap,aG (show ¬((28:Nat):Int)=17 by omega),ap,aG (show ¬((28:Nat):Int)=9 by omega),ap,bn (show((28:Nat):Int)=28 by omega),aR]
 dsimp only[cz,cB,cp7,d5,d11]
 rw[hz,r1,aa]
 dsimp only
 rw[r2,aa]
 dsimp only
 rw[r3,aa]
 dsimp only
 rw[r4,aa]
 exact⟨⟨g4,m4,c4,l4⟩,fl,nx,rfl,.same rfl⟩
theorem CU (hx:ExV x 25)(hz:x.size=z):fe g m c l x rip fl nx ((MS.mk g m c l).move fl nx x 25 z,nx,fl):=by
 have hop:=hx.op
 have hz':bX (z:Int)=true:=by rw[←hz];exact hx.szs.1 (by omega)
 have hdv:=hx.dv
 have hsv:=hx.sv
 rw[hz]at hdv
 have hk2:=hx.kd.2.2.1 rfl
 have hA:=jU (g:=g) (nx:=nx) hsv
 obtain⟨g',m',c',l',e2,r2,ok2⟩:=ptq hs (by omega) hz' hdv (hx.kd.1 (by omega)) nx hA
 have hadr:=j9 (g:=g) (rip:=rip) (fl:=fl) (nx:=nx) (hsv.b hk2.2)
 unfold cB at r2 hadr
 have hre:(MS.mk g m c l).move fl nx x 25 z=⟨g',m',c',l'⟩:=by
  unfold MS.move
  rw[if_neg (by decide),if_neg (by decide),if_pos rfl]
  exact e2
 rw[hre]
 unfold fe aO
 dsimp only
 rw[hop,yH,aa,ar,decide_eq_false (by omega)]
 dsimp only
 rw[ap,show(cz x ()).1=((25:Nat):Int)from hop,AP,aa,ar,decide_eq_false (by omega)]
 dsimp only
 rw[ap,show(cz x ()).1=((25:Nat):Int)from hop,bG,aW,aa,decide_eq_false (by omega)]
 dsimp only
 rw[ap,aG (show ¬((25:Nat):Int)=17 by omega),ap,aG (show ¬((25:Nat):Int)=9 by omega),ap,aG (show ¬((25:Nat):Int)=28 by omega),ap,bn (show((25:Nat):Int)=25 by omega),aR]
 dsimp only[cz,cB,cp7,d5,d11]
 rw[hz,hadr,aa]
 rw[r2,aa]
 exact⟨⟨g',m',c',l'⟩,fl,nx,rfl,.same rfl⟩
theorem CV (hx:ExV x 26)(hz:x.size=z):fe g m c l x rip fl nx ((MS.mk g m c l).move fl nx x 26 z,nx,fl):=by
 have hop:=hx.op
 have hz':bX (z:Int)=true:=by rw[←hz];exact hx.szs.1 (by omega)
 have hdv:=hx.dv
 have hsv:=hx.sv
 rw[hz]at hdv
 have hfz:=hx.fr.1 (by omega)
 obtain⟨f,hf,hf2⟩:=nY hfz
 rw[show sSz x 26=x.frm from by unfold sSz;rw[if_neg (by decide),if_pos (by have:=di hf2;omega)],hf]at hsv
 obtain⟨v1,c1,l1,e1,r1,ok1,I1⟩:=gtq hs (by omega) hf2 hsv nx
 have hft:x.frm.toNat=f:=by omega
 obtain⟨g',m',c',l',e2,r2,ok2⟩:=ptq ok1 (by omega) hz' hdv (hx.kd.1 (by omega)) nx I1
 unfold cB at r1 r2
 have hre:(MS.mk g m c l).move fl nx x 26 z=⟨g',m',c',l'⟩:=by
  unfold MS.move
  rw[if_neg (by decide),if_neg (by decide),if_neg (by decide),if_pos rfl,hft,e1]
  exact e2
 rw[hre]
 unfold fe aO
 dsimp only
 rw[hop,yH,aa,ar,decide_eq_false (by omega)]
 dsimp only
 rw[ap,show(cz x ()).1=((26:Nat):Int)from hop,AP,aa,ar,decide_eq_false (by omega)]
 dsimp only
 rw[ap,show(cz x ()).1=((26:Nat):Int)from hop,bG,aW,aa,decide_eq_false (by omega)]
 dsimp only
 rw[ap,aG (show ¬((26:Nat):Int)=17 by omega),ap,aG (show ¬((26:Nat):Int)=9 by omega),ap,aG (show ¬((26:Nat):Int)=28 by omega),ap,aG (show ¬((26:Nat):Int)=25 by omega),ap,bn (show((26:Nat):Int)=26 by omega),aR]
 dsimp only[cz,cB,cp7,d5,d11]
 rw[hz,hf,r1,aa]
 dsimp only
 rw[r2,aa]
 exact⟨⟨g',m',c',l'⟩,fl,nx,rfl,.same rfl⟩
theorem CW (hx:ExV x 27)(hz:x.size=z):fe g m c l x rip fl nx ((MS.mk g m c l).move fl nx x 27 z,nx,fl):=by
 have hop:=hx.op
 have hz':bX (z:Int)=true:=by rw[←hz];exact hx.szs.1 (by omega)
 have hdv:=hx.dv
 have hsv:=hx.sv
 rw[hz]at hdv
 have hfz:=hx.fr.1 (by omega)
 obtain⟨f,hf,hf2⟩:=nY hfz
 rw[show sSz x 27=x.frm from by unfold sSz;rw[if_neg (by decide),if_pos (by have:=di hf2;omega)],hf]at hsv
 obtain⟨v1,c1,l1,e1,r1,ok1,I1⟩:=gtq hs (by omega) hf2 hsv nx
 have hft:x.frm.toNat=f:=by omega
 have hf18:=di hf2
 have hsg:=gX v1 (f:Int) (by omega) (by omega)
 rw[show(8*(f:Int)-1).toNat=8*f-1 by omega]at hsg
 have hsI:I64 (sx (8*f-1) v1):=iH _ (by omega) v1
 obtain⟨g',m',c',l',e2,r2,ok2⟩:=ptq ok1 (by omega) hz' hdv (hx.kd.1 (by omega)) nx hsI
 unfold cB at r1 r2
 have hre:(MS.mk g m c l).move fl nx x 27 z=⟨g',m',c',l'⟩:=by
  unfold MS.move
  rw[if_neg (by decide),if_neg (by decide),if_neg (by decide),if_neg (by decide),if_pos rfl,hft,e1]
  exact e2
 rw[hre]
 unfold fe aO
 dsimp only
 rw[hop,yH,aa,ar,decide_eq_false (by omega)]
 dsimp only
 rw[ap,show(cz x ()).1=((27:Nat):Int)from hop,AP,aa,ar,decide_eq_false (by omega)]
 dsimp only
 rw[ap,show(cz x ()).1=((27:Nat):Int)from hop,bG,aW,aa,decide_eq_false (by omega)]
 dsimp only
 rw[ap,aG (show ¬((27:Nat):Int)=17 by omega),ap,aG (show ¬((27:Nat):Int)=9 by omega),ap,aG (show ¬((27:Nat):Int)=28 by omega),ap,aG (show ¬((27:Nat):Int)=25 by omega),ap,aG (show ¬((27:Nat):Int)=26 by omega),ap,bn (show((27:Nat):Int)=27 by omega),aR]
 dsimp only[cz,cB,cp7,d5,d11]
 rw[hz,hf,r1,aa]
 dsimp only
 rw[hsg,aa]
 rw[r2,aa]
 exact⟨⟨g',m',c',l'⟩,fl,nx,rfl,.same rfl⟩
theorem wide_r (hx:ExV x n)(hz:x.size=z)(hI:I64 fl)(hf:bK fl=true)(hn:13≤n∧n≤16):
  ∃g' c' l' fl',cR ((x,()),((g,rip,fl,m,nx,c,()),l,()))=some ((),((g',rip,fl',m,nx,c',()),l',()))∧RelR ⟨g',m,c',l'⟩ nx fl' (((MS.mk g m c l).wide fl nx x n z).1,nx,((MS.mk g m c l).wide fl nx x n z).2):=by
 have hop:=hx.op
 have hz':bX (z:Int)=true:=by rw[←hz];exact hx.szs.1 (by omega)
 have hsv:=hx.sv
 rw[show sSz x n=x.size from by unfold sSz;rw[if_neg (by omega),hx.fr.2 (by omega),if_neg (by decide)],hz]at hsv
 obtain⟨v1,c1,l1,e1,r1,ok1,I1⟩:=gtq hs (by omega) hz' hsv nx
 have hgI:∀r,I64 (ji g r z):=fun r=>rF (g:=g) hs.g hz'
 unfold cR MS.wide RelR
 dsimp only
 rw[e1,hop,hz,r1,aa]
 dsimp only[d5]
 by_cases hc1:c1=0
 rotate_left
 ·rw[aG hc1,dp,aR]
  refine⟨g,c1,l1,fl,rfl,?_⟩
  by_cases hm:n=13∨n=14
  ·rw[if_pos hm]
   exact⟨rfl,rfl,fun h=>absurd h hc1⟩
  ·rw[if_neg hm]
   dsimp only
   rw[if_neg (fun h=>hc1 h.2)]
   exact⟨rfl,rfl,fun h=>absurd h hc1⟩
 subst hc1
 have hg0:=pd (g:=g) (rip:=rip) (fl:=fl) hs.g hz' (reg0 z)
 have hgu:=pd (g:=g) (rip:=rip) (fl:=fl) hs.g hz' (nz z)
 rw[bn rfl,cc,ap,hg0,aa,upper_r,aa]
 have hb:br (eqI (n:Int) 13) (some true) (some (eqI (n:Int) 14))=some (decide (n=13∨n=14)):=by
  by_cases a:n=13
  ·rw[bn (by omega),aR,decide_eq_true (by omega)]
  ·rw[aG (by omega),ap]
   by_cases b:n=14
   ·rw[bn (by omega),decide_eq_true (by omega)]
   ·rw[aG (by omega),decide_eq_false (by omega)]
 rw[hb,aa]
 by_cases hm:n=13∨n=14
 ·rw[decide_eq_true hm,aR,if_pos hm]
  have hA:=lG (op:=(n:Int)) (a:=ji g 0 z) (b:=v1) (f:=fl) hz' (hgI 0) I1
  obtain⟨o1,o2,o3,o4⟩:=rW (op:=n) (n:=z) (a:=ji g 0 z) (b:=v1) hI hf
  generalize pp (n:Int) z (ji g 0 z) v1 fl=A at hA o1 o2 o3 o4⊢
  obtain⟨lo,hi,f'⟩:=A
  dsimp only at hA o1 o2 o3 o4⊢
  have s1:=iX (g:=g) (rip:=rip) (fl:=f') hs.g o1 hz' (reg0 z)
  have s2:=iX (g:=pQ g 0 z lo) (rip:=rip) (fl:=f') (ki hs.g o1 hz') o2 hz' (nz z)
  rw[hA,aa,aa,ar]
  dsimp only[cz]
  rw[hz,s1,aa]
  dsimp only
  rw[s2,aa]
  exact⟨_,0,l1,f',rfl,rfl,rfl,fun _=>⟨rfl,rfl,rfl⟩⟩
 ·rw[decide_eq_false hm,ap,if_neg hm]
  obtain⟨o1,o2⟩:=wb (op:=n) (n:=z) (hi:=ji g (upZ z) z) (lo:=ji g 0 z) (d:=v1)
  obtain⟨q,r,hd,hqr⟩:=tH (op:=(n:Int)) (n:=z) (hi:=ji g (upZ z) z) (lo:=ji g 0 z) (d:=v1) hz' (hgI _) (hgI _) I1
  generalize ru (n:Int) z (ji g (upZ z) z) (ji g 0 z) v1=A at hd hqr o1 o2⊢
  obtain⟨q',r',ok⟩:=A
  dsimp only at hd hqr o1 o2⊢
  rw[hgu,aa]
  dsimp only
  rw[hd,aa]
  dsimp only
  cases ok with
  |false=>
   rw[dp,aR,aa,ra]
   exact⟨g,16,l1,fl,rfl,rfl,rfl,fun h=>absurd h (by rw[if_pos ⟨rfl,rfl⟩];decide)⟩
  |true=>
   obtain⟨rfl,rfl⟩:=hqr rfl
   have s1:=iX (g:=g) (rip:=rip) (fl:=fl) hs.g o1 hz' (reg0 z)
   have s2:=iX (g:=pQ g 0 z q) (rip:=rip) (fl:=fl) (ki hs.g o1 hz') o2 hz' (nz z)
   rw[cc,ap,aa,ar]
   dsimp only[cz]
   rw[hz,s1,aa]
   dsimp only
   rw[s2,aa]
   exact⟨_,0,l1,fl,rfl,rfl,rfl,fun _=>⟨rfl,rfl,rfl⟩⟩
theorem xV (hx:ExV x n)(hz:x.size=z)(hI:I64 fl)(hf:bK fl=true)(hn:13≤n∧n≤16):fe g m c l x rip fl nx (((MS.mk g m c l).wide fl nx x n z).1,nx,((MS.mk g m c l).wide fl nx x n z).2):=by
 have hop:=hx.op
 obtain⟨g',c',l',fl',hr,hR⟩:=wide_r hs hk hx hz hI hf hn (rip:=rip) (nx:=nx)
 generalize (((MS.mk g m c l).wide fl nx x n z).1,nx,((MS.mk g m c l).wide fl nx x n z).2)=e at hR⊢
 unfold fe aO
 dsimp only
 rw[hop,yH,aa,ar,decide_eq_false (by omega)]
 dsimp only
 rw[ap,show(cz x ()).1=(n:Int)from hop,AP,aa,ar,decide_eq_false (by omega)]
 dsimp only
 rw[ap,show(cz x ()).1=(n:Int)from hop,bG,aW,aa,decide_eq_false (by omega)]
 dsimp only
 rw[ap,aG (show ¬(n:Int)=17 by omega),ap,aG (show ¬(n:Int)=9 by omega),ap,aG (show ¬(n:Int)=28 by omega),ap,aG (show ¬(n:Int)=25 by omega),ap,aG (show ¬(n:Int)=26 by omega),ap,aG (show ¬(n:Int)=27 by omega),ap,aW,aa]
 dsimp only
 rw[zb,decide_eq_true (by omega),aR,hr,aa]
 exact⟨⟨g',m,c',l'⟩,fl',nx,rfl,hR⟩
theorem xU (hx:ExV x n)(hn:29≤n){e:MS×Int×Int}{S:MS}{fl' nx':Int}(hr:aH ((x,()),((g,rip,fl,m,nx,c,()),l,()))=some ((),S.r rip fl' nx'))(hR:RelR S nx' fl' e):fe g m c l x rip fl nx e:=by
 have hop:=hx.op
 unfold fe aO
 dsimp only
 rw[hop,yH,aa,ar,decide_eq_false (by omega)]
 dsimp only
 rw[ap,show(cz x ()).1=(n:Int)from hop,AP,aa,ar,decide_eq_false (by omega)]
 dsimp only
 rw[ap,show(cz x ()).1=(n:Int)from hop,bG,aW,aa,decide_eq_false (by omega)]
 dsimp only
 rw[ap,aG (show ¬(n:Int)=17 by omega),ap,aG (show ¬(n:Int)=9 by omega),ap,aG (show ¬(n:Int)=28 by omega),ap,aG (show ¬(n:Int)=25 by omega),ap,aG (show ¬(n:Int)=26 by omega),ap,aG (show ¬(n:Int)=27 by omega),ap,aW,aa]
 dsimp only
 rw[zb,decide_eq_false (by omega),ap,hr,aa]
 exact⟨S,fl',nx',rfl,hR⟩
end
end
end Go.Den.G
namespace Go.Den.G
open Go.Den
set_option maxRecDepth 100000
set_option linter.unusedSectionVars false
noncomputable section
theorem Ak (g:List Int)(v w:Int):setA (setA g 7 v) 6 w=setA (setA g 6 w) 7 v:=by
 have hp:∀i a,cw 16 (ag .i) (Go.Den.G.setA g i a)=Go.Den.G.setA g i a:=fun i a=>by
  unfold Go.Den.G.setA aN
  unfold cw
  rw[List.length_set,List.length_append,List.length_replicate,show 16-(g.length+(16-g.length))=0 by omega]
  simp
 have h1:setA (setA g 7 v) 6 w=aN (setA g 7 v) 6 w:=by rw[Go.Den.G.setA,hp]
 have h2:setA (setA g 6 w) 7 v=aN (setA g 6 w) 7 v:=by rw[Go.Den.G.setA,hp]
 rw[h1,h2]
 unfold Go.Den.G.setA aN
 exact(List.set_comm w v (by decide)).symm
theorem uf (g:List Int)(v:Int):rg (setA g 6 v) 7=rg g 7∧rg (setA g 7 v) 6=rg g 6:=by
 have hp:∀j:Nat,(cw 16 (ag .i) g).getD j (ag .i)=g.getD j (ag .i):=fun j=>by
  unfold cw
  rw[List.getD_eq_getElem?_getD,List.getD_eq_getElem?_getD,List.getElem?_append]
  split
  ·rfl
  ·rw[List.getElem?_replicate,List.getElem?_eq_none (by omega)]
   split<;>rfl
 unfold rg aj Go.Den.G.setA aN
 constructor
 ·rw[List.getD_eq_getElem?_getD,List.getElem?_set_ne (by decide),←List.getD_eq_getElem?_getD,hp]
 ·rw[List.getD_eq_getElem?_getD,List.getElem?_set_ne (by decide),←List.getD_eq_getElem?_getD,hp]
section
variable {g:List Int}{m:List Page}{c:Int}{l:List Acc}{k:Nat}(hs:(MS.mk g m c l).ok k)(hk:k+4≤1000){x:Ins}{z:Nat}{rip fl nx:Int}
include hs hk
def kV (g:List Int)(m:List Page)(c:Int)(l:List Acc)(x:Ins)(rip fl nx:Int)(e:MS×Int×Int):Prop:=
 ∃S fl' nx',aH ((x,()),((g,rip,fl,m,nx,c,()),l,()))=some ((),S.r rip fl' nx')∧RelR S nx' fl' e
theorem CG (hx:ExV x 35):kV g m c l x rip fl nx ((MS.mk g m c l).move fl nx x 35 z,nx,fl):=by
 have hop:=hx.op
 have hdv:=hx.dv
 rw[hx.szs.2.2.2.1 rfl]at hdv
 obtain⟨g',m',c',l',e2,r2,ok2⟩:=ptq hs (by omega) (n:=1) rfl hdv (hx.kd.1 (by omega)) nx (show I64 (if gP x.cond fl=true then 1 else 0)by split<;>(unfold I64;decide))
 have r2':∀rip fl',aK ((cB x.dst (),(1,((if gP x.cond fl=true then 1 else 0),()))),((g,rip,fl',m,nx,c,()),l,()))=_:=r2
 have hre:(MS.mk g m c l).move fl nx x 35 z=⟨g',m',c',l'⟩:=by
  unfold MS.move
  rw[if_neg (by decide),if_neg (by decide),if_neg (by decide),if_neg (by decide),if_neg (by decide),if_pos rfl]
  exact e2
 rw[hre]
 unfold kV
 unfold aH
 dsimp only
 rw[hop,bn (show((35:Nat):Int)=35 by omega),aR]
 rw[lV hx.c0 hx.c1,aa,tG,aa,r2',aa]
 exact⟨⟨g',m',c',l'⟩,fl,nx,rfl,.same rfl⟩
theorem CH (hx:ExV x 36)(hz:x.size=z):kV g m c l x rip fl nx ((MS.mk g m c l).move fl nx x 36 z,nx,fl):=by
 have hop:=hx.op
 have hz':bX (z:Int)=true:=by rw[←hz];exact hx.szs.1 (by omega)
 have hdv:=hx.dv
 have hsv:=hx.sv
 rw[hz]at hdv
 rw[show sSz x 36=x.size from by unfold sSz;rw[if_neg (by decide),hx.fr.2 (by decide),if_neg (by decide)],hz]at hsv
 obtain⟨v1,c1,l1,e1,r1,ok1,I1⟩:=gtq hs (by omega) hz' hsv nx
 obtain⟨v2,c2,l2,e2,r2,ok2,I2⟩:=gtq ok1 (by omega) hz' hdv nx
 unfold kV
 unfold aH
 dsimp only
 rw[hop,aG (show ¬((36:Nat):Int)=35 by omega),ap,bn (show((36:Nat):Int)=36 by omega),aR]
 rw[hz,r1,aa,lV hx.c0 hx.c1,aa]
 dsimp only[d5]
 by_cases hh:gP x.cond fl=true
 ·obtain⟨g',m',c',l',e3,r3,ok3⟩:=ptq ok1 (by omega) hz' hdv (hx.kd.1 (by omega)) nx I1
  unfold cB at r3
  have hre:(MS.mk g m c l).move fl nx x 36 z=⟨g',m',c',l'⟩:=by
   unfold MS.move
   dsimp only
   rw[if_neg (by decide),if_neg (by decide),if_neg (by decide),if_neg (by decide),if_neg (by decide),if_neg (by decide),if_pos rfl,e1,if_pos hh]
   exact e3
  rw[hre,hh,cc,ap,aa,ar]
  dsimp only[cz,cB,cp7,d5]
  rw[hz,r3,aa]
  exact⟨⟨g',m',c',l'⟩,fl,nx,rfl,.same rfl⟩
 ·obtain⟨g',m',c',l',e3,r3,ok3⟩:=ptq ok2 (by omega) hz' hdv (hx.kd.1 (by omega)) nx I2
  unfold cB at r3
  have hre:(MS.mk g m c l).move fl nx x 36 z=⟨g',m',c',l'⟩:=by
   unfold MS.move
   dsimp only
   rw[if_neg (by decide),if_neg (by decide),if_neg (by decide),if_neg (by decide),if_neg (by decide),if_neg (by decide),if_pos rfl,e1,if_neg hh]
   dsimp only
   rw[e2]
   exact e3
  rw[hre,Bool.eq_false_iff.2 hh,dp,aR,r2,aa,aa,ar]
  dsimp only[cz,cB,cp7,d5]
  rw[hz,r3,aa]
  exact⟨⟨g',m',c',l'⟩,fl,nx,rfl,.same rfl⟩
theorem CK (hx:ExV x 39)(hz:x.size=z):kV g m c l x rip fl nx ((MS.mk g m c l).move fl nx x 39 z,nx,fl):=by
 have hop:=hx.op
 have h39:=hx.szs.2.1 rfl
 rw[hz]at h39
 have hz':bX (z:Int)=true:=by rcases h39 with h|h|h<;>rw[h]<;>rfl
 have hz2:bX ((z/2:Nat):Int)=true:=by rcases h39 with h|h|h<;>rw[show z/2=_ from by rw[show z=_ from Int.ofNat_inj.1 h]]<;>rfl
 have h18:=di hz2
 have hq:me .i64 (z:Int) 2=((z/2:Nat):Int):=by rw[mK (by omega) (by decide) (by omega)];omega
 have hsg:=gX (rg g 0) ((z/2:Nat):Int) (by omega) (by omega)
 rw[show(8*((z/2:Nat):Int)-1).toNat=8*(z/2)-1 by omega]at hsg
 have hI:I64 (sx (8*(z/2)-1) (rg g 0)):=iH _ (by omega) _
 have hst:=iX (g:=g) (rip:=rip) (fl:=fl) hs.g hI hz' (reg0 z)
 have hre:(MS.mk g m c l).move fl nx x 39 z=⟨pQ g 0 z (sx (8*(z/2)-1) (rg g 0)),m,c,l⟩:=by
  unfold MS.move
  rw[if_neg (by decide),if_neg (by decide),if_neg (by decide),if_neg (by decide),if_neg (by decide),if_neg (by decide),if_neg (by decide),if_pos rfl,show ji (MS.mk g m c l).g 0 (z/2)=bL (rg g 0) (z/2)from if_neg (by decide),Ay hz2]
 rw[hre]
 unfold kV
 unfold aH
 dsimp only
 rw[hop,aG (show ¬((39:Nat):Int)=35 by omega),ap,aG (show ¬((39:Nat):Int)=36 by omega),ap,bn (show((39:Nat):Int)=39 by omega),aR]
 rw[hz,hq]
 have hsg':aP (((aj g 0 (ag .i)),(((z/2:Nat):Int),())),())=_:=hsg
 rw[hsg',aa,hst,aa]
 exact⟨_,fl,nx,rfl,.same rfl⟩
theorem CL (hx:ExV x 40)(hz:x.size=z):kV g m c l x rip fl nx ((MS.mk g m c l).move fl nx x 40 z,nx,fl):=by
 have hop:=hx.op
 have hz':bX (z:Int)=true:=by rw[←hz];exact hx.szs.1 (by omega)
 have h18:=di hz'
 have hsg:=gX (rg g 0) (z:Int) (by omega) (by omega)
 rw[show(8*(z:Int)-1).toNat=8*z-1 by omega]at hsg
 have hI0:I64 (sx (8*z-1) (rg g 0)):=iH _ (by omega) _
 have hI:I64 (ci .i64 (sx (8*z-1) (rg g 0)) 63):=by
  rw[Ao hI0]
  split<;>(unfold I64;decide)
 have hst:=iX (g:=g) (r:=2) (rip:=rip) (fl:=fl) hs.g hI hz' (by unfold qc;omega)
 have hre:(MS.mk g m c l).move fl nx x 40 z=⟨pQ g 2 z (ci .i64 (sx (8*z-1) (rg g 0)) 63),m,c,l⟩:=by
  unfold MS.move
  rw[if_neg (by decide),if_neg (by decide),if_neg (by decide),if_neg (by decide),if_neg (by decide),if_neg (by decide),if_neg (by decide),if_neg (by decide),if_pos rfl,show ji (MS.mk g m c l).g 0 z=bL (rg g 0) z from if_neg (by decide),Ay hz']
 rw[hre]
 unfold kV
 unfold aH
 dsimp only
 rw[hop,aG (show ¬((40:Nat):Int)=35 by omega),ap,aG (show ¬((40:Nat):Int)=36 by omega),ap,aG (show ¬((40:Nat):Int)=39 by omega),ap,bn (show((40:Nat):Int)=40 by omega),aR]
 rw[hz]
 have hsg':aP (((aj g 0 (ag .i)),((z:Int),())),())=_:=hsg
 rw[hsg',aa,hst,aa]
 exact⟨_,fl,nx,rfl,.same rfl⟩
theorem CM (hx:ExV x 41):kV g m c l x rip fl nx (((MS.mk g m c l).flow nx fl nx x 41).1,((MS.mk g m c l).flow nx fl nx x 41).2,fl):=by
 have hop:=hx.op
 obtain⟨m',c',l',e1,r1,ok1⟩:=stq hs (by omega) (hs.g 7) (n:=1) rfl (hs.g 0)
 have r1':aT ((aj g 7 (ag .i),(1,(aj g 0 (ag .i),()))),((g,rip,fl,m,nx,c,()),l,()))=_:=r1 rip fl nx
 have hre:(MS.mk g m c l).flow nx fl nx x 41=(⟨setA g 7 (ax .i64 (rg g 7) 1),m',c',l'⟩,nx):=by
  unfold MS.flow
  rw[if_neg (by decide),if_neg (by decide),if_neg (by decide),if_neg (by decide),if_neg (by decide),if_neg (by decide),if_pos rfl]
  dsimp only
  rw[e1]
 rw[hre]
 unfold kV
 unfold aH
 dsimp only
 rw[hop,aG (show ¬((41:Nat):Int)=35 by omega),ap,aG (show ¬((41:Nat):Int)=36 by omega),ap,aG (show ¬((41:Nat):Int)=39 by omega),ap,aG (show ¬((41:Nat):Int)=40 by omega),ap,bn (show((41:Nat):Int)=41 by omega),aR]
 rw[r1',aa,ei,aa]
 exact⟨_,fl,nx,rfl,.same rfl⟩
theorem CN (hx:ExV x 42):kV g m c l x rip fl nx (((MS.mk g m c l).flow nx fl nx x 42).1,((MS.mk g m c l).flow nx fl nx x 42).2,fl):=by
 have hop:=hx.op
 obtain⟨v1,c1,l1,e1,r1,ok1,I1⟩:=ldq hs (by omega) (hs.g 6) (n:=1) rfl
 obtain⟨m',c',l',e2,r2,ok2⟩:=stq ok1 (by omega) (hs.g 7) (n:=1) rfl I1
 have r1':ba ((aj g 6 (ag .i),(1,())),((g,rip,fl,m,nx,c,()),l,()))=_:=r1 rip fl nx
 have r2':aT ((aj g 7 (ag .i),(1,(v1,()))),((g,rip,fl,m,nx,c1,()),l1,()))=_:=r2 rip fl nx
 have hre:(MS.mk g m c l).flow nx fl nx x 42=(⟨setA (setA g 7 (ax .i64 (rg g 7) 1)) 6 (ax .i64 (rg g 6) 1),m',c',l'⟩,nx):=by
  unfold MS.flow
  rw[if_neg (by decide),if_neg (by decide),if_neg (by decide),if_neg (by decide),if_neg (by decide),if_neg (by decide),if_neg (by decide),if_pos rfl]
  dsimp only
  rw[e1]
  dsimp only
  rw[e2]
  dsimp only
  rw[(uf g _).1,Ak]
 rw[hre]
 unfold kV
 unfold aH
 dsimp only
 rw[hop,aG (show ¬((42:Nat):Int)=35 by omega),ap,aG (show ¬((42:Nat):Int)=36 by omega),ap,aG (show ¬((42:Nat):Int)=39 by omega),ap,aG (show ¬((42:Nat):Int)=40 by omega),ap,aG (show ¬((42:Nat):Int)=41 by omega),ap,bn (show((42:Nat):Int)=42 by omega),aR]
 rw[r1',aa]
 dsimp only[d5]
 rw[r2',aa,ei,aa]
 dsimp only
 have h6:aU (((aj (aN (cw 16 (ag .i) g) 7 (ax .i64 (aj g 7 (ag .i)) 1)) 6 (ag .i)),(1,())),())=some (ax .i64 (rg g 6) 1,()):=by
  rw[ei]
  have:=(uf g (ax .i64 (aj g 7 (ag .i)) 1)).2
  unfold rg Go.Den.G.setA at this
  rw[this]
 rw[h6,aa]
 exact⟨_,fl,nx,rfl,.same rfl⟩
theorem CA (hx:ExV x 29):kV g m c l x rip fl nx (((MS.mk g m c l).flow nx fl nx x 29).1,((MS.mk g m c l).flow nx fl nx x 29).2,fl):=by
 have hop:=hx.op
 have hsv:=hx.sv
 rw[show sSz x 29=x.size from by unfold sSz;rw[if_neg (by decide),hx.fr.2 (by decide),if_neg (by decide)],hx.szs.2.2.1 (by decide)]at hsv
 obtain⟨v1,c1,l1,e1,r1,ok1,I1⟩:=gtq hs (by omega) (n:=8) rfl hsv nx
 obtain⟨g',m',c',l',e2,r2,ok2⟩:=puq ok1 (by omega) I1
 have r1':az ((cB x.src (),(8,())),((g,rip,fl,m,nx,c,()),l,()))=_:=r1 rip fl
 have hre:(MS.mk g m c l).flow nx fl nx x 29=(⟨g',m',c',l'⟩,nx):=by
  unfold MS.flow
  rw[if_pos rfl,e1]
  dsimp only
  rw[e2]
 rw[hre]
 unfold kV
 unfold aH
 dsimp only
 rw[hop,aG (show ¬((29:Nat):Int)=35 by omega),ap,aG (show ¬((29:Nat):Int)=36 by omega),ap,aG (show ¬((29:Nat):Int)=39 by omega),ap,aG (show ¬((29:Nat):Int)=40 by omega),ap,aG (show ¬((29:Nat):Int)=41 by omega),ap,aG (show ¬((29:Nat):Int)=42 by omega),ap,bn (show((29:Nat):Int)=29 by omega),aR]
 rw[r1',aa]
 dsimp only[d5]
 rw[r2,aa]
 exact⟨⟨g',m',c',l'⟩,fl,nx,rfl,.same rfl⟩
theorem CB (hx:ExV x 30):kV g m c l x rip fl nx (((MS.mk g m c l).flow nx fl nx x 30).1,((MS.mk g m c l).flow nx fl nx x 30).2,fl):=by
 have hop:=hx.op
 have hdv:=hx.dv
 rw[hx.szs.2.2.1 (by decide)]at hdv
 obtain⟨v1,g1,c1,l1,e1,r1,ok1,I1⟩:=poq hs (by omega)
 obtain⟨g',m',c',l',e2,r2,ok2⟩:=ptq ok1 (by omega) (n:=8) rfl hdv (hx.kd.1 (by decide)) nx I1
 have r2':aK ((cB x.dst (),(8,(v1,()))),((g1,rip,fl,m,nx,c1,()),l1,()))=_:=r2 rip fl
 have hre:(MS.mk g m c l).flow nx fl nx x 30=(⟨g',m',c',l'⟩,nx):=by
  unfold MS.flow
  rw[if_neg (by decide),if_pos rfl,e1]
  dsimp only
  rw[e2]
 rw[hre]
 unfold kV
 unfold aH
 dsimp only
 rw[hop,aG (show ¬((30:Nat):Int)=35 by omega),ap,aG (show ¬((30:Nat):Int)=36 by omega),ap,aG (show ¬((30:Nat):Int)=39 by omega),ap,aG (show ¬((30:Nat):Int)=40 by omega),ap,aG (show ¬((30:Nat):Int)=41 by omega),ap,aG (show ¬((30:Nat):Int)=42 by omega),ap,aG (show ¬((30:Nat):Int)=29 by omega),ap,bn (show((30:Nat):Int)=30 by omega),aR]
 rw[r1,aa]
 dsimp only[d5]
 rw[r2',aa]
 exact⟨⟨g',m',c',l'⟩,fl,nx,rfl,.same rfl⟩
theorem CJ (hx:ExV x 38):kV g m c l x rip fl nx (((MS.mk g m c l).flow nx fl nx x 38).1,((MS.mk g m c l).flow nx fl nx x 38).2,fl):=by
 have hop:=hx.op
 have hre:(MS.mk g m c l).flow nx fl nx x 38=(⟨g,m,17,l⟩,nx):=by
  unfold MS.flow
  rw[if_neg (by decide),if_neg (by decide),if_neg (by decide),if_neg (by decide),if_neg (by decide),if_neg (by decide),if_neg (by decide),if_neg (by decide),if_pos rfl]
 rw[hre]
 unfold kV
 unfold aH
 dsimp only
 rw[hop,aG (show ¬((38:Nat):Int)=35 by omega),ap,aG (show ¬((38:Nat):Int)=36 by omega),ap,aG (show ¬((38:Nat):Int)=39 by omega),ap,aG (show ¬((38:Nat):Int)=40 by omega),ap,aG (show ¬((38:Nat):Int)=41 by omega),ap,aG (show ¬((38:Nat):Int)=42 by omega),ap,aG (show ¬((38:Nat):Int)=29 by omega),ap,aG (show ¬((38:Nat):Int)=30 by omega),ap,bn (show((38:Nat):Int)=38 by omega),aR]
 exact⟨⟨g,m,17,l⟩,fl,nx,rfl,.same rfl⟩
theorem CO (hx:ExV x 43):kV g m c l x rip fl nx (((MS.mk g m c l).flow nx fl nx x 43).1,((MS.mk g m c l).flow nx fl nx x 43).2,fl):=by
 have hop:=hx.op
 have hre:(MS.mk g m c l).flow nx fl nx x 43=(⟨g,m,18,l⟩,nx):=by
  unfold MS.flow
  rw[if_neg (by decide),if_neg (by decide),if_neg (by decide),if_neg (by decide),if_neg (by decide),if_neg (by decide),if_neg (by decide),if_neg (by decide),if_neg (by decide),if_pos (by decide)]
 rw[hre]
 unfold kV
 unfold aH
 dsimp only
 rw[hop,aG (show ¬((43:Nat):Int)=35 by omega),ap,aG (show ¬((43:Nat):Int)=36 by omega),ap,aG (show ¬((43:Nat):Int)=39 by omega),ap,aG (show ¬((43:Nat):Int)=40 by omega),ap,aG (show ¬((43:Nat):Int)=41 by omega),ap,aG (show ¬((43:Nat):Int)=42 by omega),ap,aG (show ¬((43:Nat):Int)=29 by omega),ap,aG (show ¬((43:Nat):Int)=30 by omega),ap,aG (show ¬((43:Nat):Int)=38 by omega),ap]
 rw[show eqI ((43:Nat):Int) 43=true from rfl,aR,aa,ar]
 dsimp only
 rw[aR]
 exact⟨⟨g,m,18,l⟩,fl,nx,rfl,.same rfl⟩
theorem CP (hx:ExV x 44):kV g m c l x rip fl nx (((MS.mk g m c l).flow nx fl nx x 44).1,((MS.mk g m c l).flow nx fl nx x 44).2,fl):=by
 have hop:=hx.op
 have hre:(MS.mk g m c l).flow nx fl nx x 44=(⟨g,m,18,l⟩,nx):=by
  unfold MS.flow
  rw[if_neg (by decide),if_neg (by decide),if_neg (by decide),if_neg (by decide),if_neg (by decide),if_neg (by decide),if_neg (by decide),if_neg (by decide),if_neg (by decide),if_pos (by decide)]
 rw[hre]
 unfold kV
 unfold aH
 dsimp only
 rw[hop,aG (show ¬((44:Nat):Int)=35 by omega),ap,aG (show ¬((44:Nat):Int)=36 by omega),ap,aG (show ¬((44:Nat):Int)=39 by omega),ap,aG (show ¬((44:Nat):Int)=40 by omega),ap,aG (show ¬((44:Nat):Int)=41 by omega),ap,aG (show ¬((44:Nat):Int)=42 by omega),ap,aG (show ¬((44:Nat):Int)=29 by omega),ap,aG (show ¬((44:Nat):Int)=30 by omega),ap,aG (show ¬((44:Nat):Int)=38 by omega),ap]
 rw[show eqI ((44:Nat):Int) 43=false from rfl,ap,aa,ar]
 dsimp only
 rw[show eqI ((44:Nat):Int) 44=true from rfl,aR]
 exact⟨⟨g,m,18,l⟩,fl,nx,rfl,.same rfl⟩
theorem CC (hx:ExV x 31)(hnx:I64 nx):kV g m c l x rip fl nx (((MS.mk g m c l).flow nx fl nx x 31).1,((MS.mk g m c l).flow nx fl nx x 31).2,fl):=by
 have hop:=hx.op
 have hsv:=hx.sv
 rw[show sSz x 31=x.size from by unfold sSz;rw[if_neg (by decide),hx.fr.2 (by decide),if_neg (by decide)],hx.szs.2.2.1 (by decide)]at hsv
 obtain⟨v1,c1,l1,e1,r1,ok1,I1⟩:=goq hs (by omega) hsv nx
 obtain⟨g',m',c',l',e2,r2,ok2⟩:=puq ok1 (by omega) hnx
 have hre:(MS.mk g m c l).flow nx fl nx x 31=(⟨g',m',c',l'⟩,v1):=by
  unfold MS.flow
  rw[if_neg (by decide),if_neg (by decide),if_pos rfl,e1]
  dsimp only
  rw[e2]
 rw[hre]
 unfold kV
 unfold aH
 dsimp only
 rw[hop,aG (show ¬((31:Nat):Int)=35 by omega),ap,aG (show ¬((31:Nat):Int)=36 by omega),ap,aG (show ¬((31:Nat):Int)=39 by omega),ap,aG (show ¬((31:Nat):Int)=40 by omega),ap,aG (show ¬((31:Nat):Int)=41 by omega),ap,aG (show ¬((31:Nat):Int)=42 by omega),ap,aG (show ¬((31:Nat):Int)=29 by omega),ap,aG (show ¬((31:Nat):Int)=30 by omega),ap,aG (show ¬((31:Nat):Int)=38 by omega),ap]
 rw[show eqI ((31:Nat):Int) 43=false from rfl,ap,aa,ar]
 dsimp only
 rw[show eqI ((31:Nat):Int) 44=false from rfl,ap,zb]
 unfold bI
 dsimp only
 rw[hop,bn (show((31:Nat):Int)=31 by omega),aR]
 rw[r1,aa]
 dsimp only[d5]
 rw[r2,aa]
 exact⟨⟨g',m',c',l'⟩,fl,v1,rfl,.same rfl⟩
theorem CD (hx:ExV x 32):kV g m c l x rip fl nx (((MS.mk g m c l).flow nx fl nx x 32).1,((MS.mk g m c l).flow nx fl nx x 32).2,fl):=by
 have hop:=hx.op
 have hsv:=hx.sv
 rw[show sSz x 32=x.size from by unfold sSz;rw[if_neg (by decide),hx.fr.2 (by decide),if_neg (by decide)],hx.szs.2.2.1 (by decide)]at hsv
 obtain⟨v1,c1,l1,e1,r1,ok1,I1⟩:=goq hs (by omega) hsv nx
 have hre:(MS.mk g m c l).flow nx fl nx x 32=(⟨g,m,c1,l1⟩,v1):=by
  unfold MS.flow
  rw[if_neg (by decide),if_neg (by decide),if_neg (by decide),if_neg (by decide),if_pos rfl,e1]
 rw[hre]
 unfold kV
 unfold aH
 dsimp only
 rw[hop,aG (show ¬((32:Nat):Int)=35 by omega),ap,aG (show ¬((32:Nat):Int)=36 by omega),ap,aG (show ¬((32:Nat):Int)=39 by omega),ap,aG (show ¬((32:Nat):Int)=40 by omega),ap,aG (show ¬((32:Nat):Int)=41 by omega),ap,aG (show ¬((32:Nat):Int)=42 by omega),ap,aG (show ¬((32:Nat):Int)=29 by omega),ap,aG (show ¬((32:Nat):Int)=30 by omega),ap,aG (show ¬((32:Nat):Int)=38 by omega),ap]
 rw[show eqI ((32:Nat):Int) 43=false from rfl,ap,aa,ar]
 dsimp only
 rw[show eqI ((32:Nat):Int) 44=false from rfl,ap,zb]
 unfold bI
 dsimp only
 rw[hop,aG (show ¬((32:Nat):Int)=31 by omega),ap,bn (show((32:Nat):Int)=32 by omega),aR]
 rw[r1,aa]
 exact⟨⟨g,m,c1,l1⟩,fl,v1,rfl,.same rfl⟩
theorem CE (hx:ExV x 33):kV g m c l x rip fl nx (((MS.mk g m c l).flow nx fl nx x 33).1,((MS.mk g m c l).flow nx fl nx x 33).2,fl):=by
 have hop:=hx.op
 have hk3:=hx.kd.2.2.2.2.2.2.2.1 rfl
 have hgo:∀s:MS,s.go nx x=(ax .i64 nx x.src.imm,s):=fun s=>if_pos hk3
 have hg2:bm ((x,()),((g,rip,fl,m,nx,c,()),l,()))=some (ax .i64 nx x.src.imm,((g,rip,fl,m,nx,c,()),l,())):=by
  unfold bm
  dsimp only
  rw[bn hk3,aR,ei,aa]
 have hre:(MS.mk g m c l).flow nx fl nx x 33=(⟨g,m,c,l⟩,if gP x.cond fl=true then ax .i64 nx x.src.imm else nx):=by
  unfold MS.flow
  rw[if_neg (by decide),if_neg (by decide),if_neg (by decide),if_neg (by decide),if_neg (by decide),if_pos rfl,hgo]
  split<;>rfl
 rw[hre]
 unfold kV
 unfold aH
 dsimp only
 rw[hop,aG (show ¬((33:Nat):Int)=35 by omega),ap,aG (show ¬((33:Nat):Int)=36 by omega),ap,aG (show ¬((33:Nat):Int)=39 by omega),ap,aG (show ¬((33:Nat):Int)=40 by omega),ap,aG (show ¬((33:Nat):Int)=41 by omega),ap,aG (show ¬((33:Nat):Int)=42 by omega),ap,aG (show ¬((33:Nat):Int)=29 by omega),ap,aG (show ¬((33:Nat):Int)=30 by omega),ap,aG (show ¬((33:Nat):Int)=38 by omega),ap]
 rw[show eqI ((33:Nat):Int) 43=false from rfl,ap,aa,ar]
 dsimp only
 rw[show eqI ((33:Nat):Int) 44=false from rfl,ap,zb]
 unfold bI
 dsimp only
 rw[hop,aG (show ¬((33:Nat):Int)=31 by omega),ap,aG (show ¬((33:Nat):Int)=32 by omega),ap,bn (show((33:Nat):Int)=33 by omega),aR]
 rw[lV hx.c0 hx.c1,aa]
 dsimp only
 by_cases hh:gP x.cond fl=true
 ·rw[hh,aR,hg2,aa,if_pos rfl]
  exact⟨⟨g,m,c,l⟩,fl,_,rfl,.same rfl⟩
 ·rw[Bool.eq_false_iff.2 hh,ap,if_neg (by decide)]
  exact⟨⟨g,m,c,l⟩,fl,_,rfl,.same rfl⟩
theorem CF (hx:ExV x 34):kV g m c l x rip fl nx (((MS.mk g m c l).flow nx fl nx x 34).1,((MS.mk g m c l).flow nx fl nx x 34).2,fl):=by
 have hop:=hx.op
 obtain⟨v1,g1,c1,l1,e1,r1,ok1,I1⟩:=poq hs (by omega)
 have hre:(MS.mk g m c l).flow nx fl nx x 34=(⟨g1,m,c1,l1⟩,v1):=by
  unfold MS.flow
  rw[if_neg (by decide),if_neg (by decide),if_neg (by decide),if_pos rfl,e1]
 rw[hre]
 unfold kV
 unfold aH
 dsimp only
 rw[hop,aG (show ¬((34:Nat):Int)=35 by omega),ap,aG (show ¬((34:Nat):Int)=36 by omega),ap,aG (show ¬((34:Nat):Int)=39 by omega),ap,aG (show ¬((34:Nat):Int)=40 by omega),ap,aG (show ¬((34:Nat):Int)=41 by omega),ap,aG (show ¬((34:Nat):Int)=42 by omega),ap,aG (show ¬((34:Nat):Int)=29 by omega),ap,aG (show ¬((34:Nat):Int)=30 by omega),ap,aG (show ¬((34:Nat):Int)=38 by omega),ap]
 rw[show eqI ((34:Nat):Int) 43=false from rfl,ap,aa,ar]
 dsimp only
 rw[show eqI ((34:Nat):Int) 44=false from rfl,ap,zb]
 unfold bI
 dsimp only
 rw[hop,aG (show ¬((34:Nat):Int)=31 by omega),ap,aG (show ¬((34:Nat):Int)=32 by omega),ap,aG (show ¬((34:Nat):Int)=33 by omega),ap,bn (show((34:Nat):Int)=34 by omega),aR]
 rw[r1,aa]
 exact⟨⟨g1,m,c1,l1⟩,fl,v1,rfl,.same rfl⟩
theorem CI (hx:ExV x 37):kV g m c l x rip fl nx (((MS.mk g m c l).flow nx fl nx x 37).1,((MS.mk g m c l).flow nx fl nx x 37).2,fl):=by
 have hop:=hx.op
 have hre:(MS.mk g m c l).flow nx fl nx x 37=(⟨g,m,c,l⟩,nx):=by
  unfold MS.flow
  rw[if_neg (by decide),if_neg (by decide),if_neg (by decide),if_neg (by decide),if_neg (by decide),if_neg (by decide),if_neg (by decide),if_neg (by decide),if_neg (by decide),if_neg (by decide)]
 rw[hre]
 unfold kV
 unfold aH
 dsimp only
 rw[hop,aG (show ¬((37:Nat):Int)=35 by omega),ap,aG (show ¬((37:Nat):Int)=36 by omega),ap,aG (show ¬((37:Nat):Int)=39 by omega),ap,aG (show ¬((37:Nat):Int)=40 by omega),ap,aG (show ¬((37:Nat):Int)=41 by omega),ap,aG (show ¬((37:Nat):Int)=42 by omega),ap,aG (show ¬((37:Nat):Int)=29 by omega),ap,aG (show ¬((37:Nat):Int)=30 by omega),ap,aG (show ¬((37:Nat):Int)=38 by omega),ap]
 rw[show eqI ((37:Nat):Int) 43=false from rfl,ap,aa,ar]
 dsimp only
 rw[show eqI ((37:Nat):Int) 44=false from rfl,ap,zb]
 unfold bI
 dsimp only
 rw[hop,aG (show ¬((37:Nat):Int)=31 by omega),ap,aG (show ¬((37:Nat):Int)=32 by omega),ap,aG (show ¬((37:Nat):Int)=33 by omega),ap,aG (show ¬((37:Nat):Int)=34 by omega),ap]
 exact⟨⟨g,m,c,l⟩,fl,nx,rfl,.same rfl⟩
end
end
end Go.Den.G
namespace Go.Den.G
open Go.Den
set_option maxRecDepth 100000
noncomputable section
theorem kV.plain {g:List Int}{m:List Page}{c:Int}{l:List Acc}{k:Nat}(hs:(MS.mk g m c l).ok k)(hk:k+4≤1000){x:Ins}{n:Nat}{rip fl nx:Int}{e:MS×Int×Int}(hx:ExV x n)(hn:29≤n)(h:kV g m c l x rip fl nx e):fe g m c l x rip fl nx e:=by
 obtain⟨S,fl',nx',hr,hR⟩:=h
 exact xU hs hk hx hn hr hR
theorem plain_r {g:List Int}{rip fl:Int}{m:List Page}{x:Ins}{n z:Nat}(hm:MemT m)(hg:je g)(hI:I64 fl)(hf:bK fl=true)(hx:ExV x n)(hz:x.size=z):
  fe g m 0 [] x rip fl (ax .i64 rip x.len) (exM g rip fl m x n z):=by
 have hs:(MS.mk g m 0 []).ok 0:=⟨hm,Nat.le_refl 0,hg⟩
 have hk:0+4≤1000:=by decide
 have h1:=hx.n1
 have h2:=hx.n2
 have hnx:I64 (ax .i64 rip x.len):=aD _
 unfold exM
 dsimp only
 by_cases hmv:mvB n=true
 ·rw[if_pos hmv]
  have hn:=of_decide_eq_true hmv
  rcases hn with rfl|rfl|rfl|rfl|rfl|rfl|rfl|rfl|rfl
  ·exact plain_9 hs hk hx hz
  ·exact CX hs hk hx hz
  ·exact CU hs hk hx hz
  ·exact CV hs hk hx hz
  ·exact CW hs hk hx hz
  ·exact(CG hs hk hx).plain hs hk hx (by decide)
  ·exact(CH hs hk hx hz).plain hs hk hx (by decide)
  ·exact(CK hs hk hx hz).plain hs hk hx (by decide)
  ·exact(CL hs hk hx hz).plain hs hk hx (by decide)
 ·rw[if_neg hmv]
  by_cases hwd:wdB n=true
  ·rw[if_pos hwd]
   have hn:=of_decide_eq_true hwd
   exact xV hs hk hx hz hI hf (by omega)
  ·rw[if_neg hwd]
   by_cases hfw:fwB n=true
   ·rw[if_pos hfw]
    have hn:=of_decide_eq_true hfw
    rcases hn with rfl|rfl|rfl|rfl|rfl|rfl|rfl|rfl|rfl|rfl|rfl|rfl
    ·exact(CA hs hk hx).plain hs hk hx (by decide)
    ·exact(CB hs hk hx).plain hs hk hx (by decide)
    ·exact(CC hs hk hx hnx).plain hs hk hx (by decide)
    ·exact(CF hs hk hx).plain hs hk hx (by decide)
    ·exact(CD hs hk hx).plain hs hk hx (by decide)
    ·exact(CE hs hk hx).plain hs hk hx (by decide)
    ·exact(CM hs hk hx).plain hs hk hx (by decide)
    ·exact(CN hs hk hx).plain hs hk hx (by decide)
    ·exact(CJ hs hk hx).plain hs hk hx (by decide)
    ·exact(CO hs hk hx).plain hs hk hx (by decide)
    ·exact(CP hs hk hx).plain hs hk hx (by decide)
    ·exact(CI hs hk hx).plain hs hk hx (by decide)
   ·rw[if_neg hfw]
    have n1:=of_decide_eq_false (Bool.eq_false_iff.2 hmv)
    have n2:=of_decide_eq_false (Bool.eq_false_iff.2 hwd)
    have n3:=of_decide_eq_false (Bool.eq_false_iff.2 hfw)
    by_cases ha:n≤8∨n=10
    ·exact z9 hs hk hx hz ha
    by_cases hb:n=11∨n=12∨n=18∨n=19
    ·exact Aa hs hk hx hz hI hf hb
    by_cases hc:20≤n∧n≤24
    ·exact vE hs hk hx hz hI hf hc
    have:n=17:=by omega
    subst this
    exact xT hs hk hx hz hI hf
def exS (g:List Int)(rip fl:Int)(m:List Page)(r:MS×Int×Int):((List Int×Int×Int×Unit)×(List Page×Unit)×List Acc×Int×Unit)×Unit:=
 if r.1.code≠0 then(((g,rip,fl,()),(m,()),r.1.l,r.1.code,()),())else(((r.1.g,r.2.1,r.2.2,()),(r.1.m,()),r.1.l,0,()),())
theorem exec_r {g:List Int}{rip fl:Int}{m:List Page}{x:Ins}{n z:Nat}(hm:MemT m)(hg:je g)(hI:I64 fl)(hf:bK fl=true)(hx:ExV x n)(hz:x.size=z):
  fc (((g,(rip,(fl,()))),((m,()),(x,()))),())=some (exS g rip fl m (exM g rip fl m x n z)):=by
 obtain⟨S,fl',nx',hr,h1,h2,h3⟩:=plain_r (rip:=rip) hm hg hI hf hx hz
 generalize exM g rip fl m x n z=e at h1 h2 h3
 unfold fc
 dsimp only
 rw[ei,aa]
 dsimp only
 rw[hr,aa]
 unfold MS.r exS
 dsimp only[p5,d5]
 rw[h1,h2]
 by_cases hc:e.1.code=0
 ·obtain⟨hS,rfl,rfl⟩:=h3 hc
  rw[hc,bn rfl,cc,ap,if_neg (by decide),hS]
 ·rw[aG hc,dp,aR,if_pos hc]
end
end Go.Den.G
namespace Go.Den.G
open Go.Den
set_option maxRecDepth 100000
theorem vo (n:Int)(h0:1≤n)(h1:n≤274877906944):∃t,cb ((n,()),())=some (t,()):=by
 unfold cb
 dsimp only
 rw[aw (jy (by omega))]
 refine lh (fun x=>0≤x.1.1∧(x.1.2.1.length:Int)+x.1.1≤n) (fun x=>x.1.1.toNat) (fun _ r=>∃t,r=some (t,())) ?_ F _ ⟨by show(0:Int)≤n;omega,by show((0:Nat):Int)+n≤n;omega⟩ (by show n.toNat<F;unfold F;omega)
 rintro⟨⟨x,s,_⟩,_⟩ rec ⟨h2,h3⟩ hrec
 dsimp only at h2 h3 hrec⊢
 by_cases hx:0<x
 ·have hq:me .i64 x 10=x/10:=by
   unfold me
   rw[Int.tdiv_eq_ediv_of_nonneg h2]
   exact dm (by unfold I64;omega)
  rw[ah (gY hx),ah (by unfold eP lim jB;simp;omega),hq]
  exact hrec _ ⟨by dsimp only;omega,by dsimp only;unfold fu jB;simp;omega⟩ (by dsimp only;omega)
 ·rw[aw (gA hx),ah (by unfold eP lim;simp;omega)]
  exact⟨_,rfl⟩
noncomputable def mt (n:Int):List UInt8:=match cb ((n,()),())with
 |some x=>x.1
 |none=>[]
theorem pj (n:Int)(h0:1≤n)(h1:n≤274877906944):cb ((n,()),())=some (mt n,()):=by
 obtain⟨t,h⟩:=vo n h0 h1
 unfold mt;rw[h]
theorem th {α:Type}{l:List α}{i:Nat}(h:i<l.length)(v d:α):aj (aN l (i:Int) v) (i:Int) d=v:=by
 unfold aj aN
 rw[Int.toNat_natCast,List.getD_eq_getElem?_getD,List.getElem?_set_self h];rfl
theorem uk {α:Type}(l:List α)(i:Int)(v w:α):aN (aN l i v) i w=aN l i w:=by
 unfold aN;rw[List.set_set]
theorem wM {α:Type}(l:List α)(i:Int)(v:α):(aN l i v).length=l.length:=by unfold aN;rw[List.length_set]
theorem wx {α:Type}(f:Nat→α){l:List α}{j:Nat}(h:j<l.length):aN ((List.range j).map f++l.drop j) (j:Int) (f j)=(List.range (j+1)).map f++l.drop (j+1):=by
 unfold aN
 rw[Int.toNat_natCast,List.set_append,if_neg (by simp),List.length_map,List.length_range,Nat.sub_self,List.drop_eq_getElem_cons h,List.set_cons_zero,List.range_succ,List.map_append,List.append_assoc]
 rfl
noncomputable def mkP (m:Int)(i:Nat):Page:=Page.mk (m+3*(i:Int)) (m+3*(i:Int)+1) (mt (m+3*(i:Int)+2))
noncomputable def Ck (m:Int)(n:Nat):List Page:=(List.range n).map (mkP m)
theorem Cm (m:Int)(n:Nat):(Ck m n).length=n:=by simp[Ck]
theorem tQ (m:Int)(l:List Page)(h0:1≤m)(h1:m≤68719476736)(hl:l.length≤1073741824):
  dw ((m,()),(l,()))=some (m+3*l.length,(Ck m l.length,())):=by
 unfold dw
 dsimp only
 refine(Ret.iter (fun y=>∃j:Nat,j≤l.length∧y=((m+3*(j:Int),((j:Int),())),((List.range j).map (mkP m)++l.drop j,()))) (fun y=>l.length-y.1.2.1.toNat) ?_ F _ ⟨0,by omega,by simp⟩ (by unfold F;simp;omega)).eq
 rintro _ rec ⟨j,hj,rfl⟩ hrec
 dsimp only
 have hlen:((List.range j).map (mkP m)++l.drop j).length=l.length:=by rw[List.length_append,List.length_map,List.length_range,List.length_drop];omega
 obtain⟨a,ha⟩:∃a,a=(List.range j).map (mkP m)++l.drop j:=⟨_,rfl⟩
 rw[←ha]at hlen⊢
 simp only[ce,wM,hlen]
 by_cases h:j<l.length
 ·have hja:j<a.length:=by omega
  have e1:ax .i64 (m+3*(j:Int)) 1=m+3*j+1:=bS (by omega) (by omega)
  have e2:ax .i64 (m+3*(j:Int)+1) 1=m+3*j+2:=by rw[bS (by omega) (by omega)];omega
  have e3:ax .i64 (m+3*(j:Int)+2) 1=m+3*((j+1:Nat):Int):=by rw[bS (by omega) (by omega)];omega
  have hr:inR (j:Int) (l.length:Int)=true:=cu (by omega) (by omega)
  rw[ah (gY (by omega)),hr,aR,aR,e1,e2,pj (m+3*(j:Int)+2) (by omega) (by omega),aa,aR,e3,bS (by omega) (by omega)]
  simp only[uk,th hja]
  refine hrec _ ⟨j+1,by omega,?_⟩ (by dsimp only;omega)
  have:=wx (mkP m) h
  rw[←ha]at this
  rw[←this]
  rfl
 ·have:j=l.length:=by omega
  subst this
  rw[aw (gA (by omega)),ha]
  exact Ret.some (by rw[List.drop_length,List.append_nil];rfl)
theorem Cl (m:Int){n j:Nat}(h:j<n):aj (Ck m n) (j:Int) (ag .page)=mkP m j:=by
 unfold aj Ck
 rw[Int.toNat_natCast,List.getD_eq_getElem?_getD,List.getElem?_map,List.getElem?_range h];rfl
theorem tt (m:Int)(n:Nat)(h0:1≤m)(h1:m≤68719476736)(hl:n≤1073741824):du ((Ck m n,(m,())),())=some (m+3*n,()):=by
 unfold du
 dsimp only
 refine(Ret.iter (fun y=>∃j:Nat,j≤n∧y=((Ck m n,(m+3*(j:Int),((j:Int),()))),())) (fun y=>n-y.1.2.2.1.toNat) ?_ F _ ⟨0,by omega,by simp⟩ (by unfold F;simp;omega)).eq
 rintro _ rec ⟨j,hj,rfl⟩ hrec
 dsimp only
 simp only[ce,Cm]
 by_cases h:j<n
 ·have e1:ax .i64 (m+3*(j:Int)) 1=m+3*j+1:=bS (by omega) (by omega)
  have e2:ax .i64 (m+3*(j:Int)+1) 1=m+3*j+2:=by rw[bS (by omega) (by omega)];omega
  have e3:ax .i64 (m+3*(j:Int)+2) 1=m+3*((j+1:Nat):Int):=by rw[bS (by omega) (by omega)];omega
  have hr:inR (j:Int) (n:Int)=true:=cu (by omega) (by omega)
  rw[ah (gY (by omega)),hr,aR,aR,aR,Cl m h]
  dsimp only[mkP]
  rw[bn rfl,cc,ap,e1,bn rfl,cc,ap,e2,pj (m+3*(j:Int)+2) (by omega) (by omega),aa,show∀t:List UInt8,eqS t t=true from fun t=>decide_eq_true rfl,cc,ap,e3,bS (by omega) (by omega)]
  exact hrec _ ⟨j+1,by omega,rfl⟩ (by dsimp only;omega)
 ·have:j=n:=by omega
  subst this
  rw[aw (gA (by omega))]
  exact Ret.some rfl
theorem mB (m:Int)(l:List Page)(h0:1≤m)(h1:m≤68719476736)(hl:l.length≤1073741824):
  cE (((),(m,())),(l,()))=some (m+3*l.length,(Ck m l.length,())):=by
 unfold cE
 dsimp only
 rw[tQ m l h0 h1 hl,aa]
theorem rH (m:Int)(n:Nat)(h0:1≤m)(h1:m≤68719476736)(hl:n≤1073741824):cD (((Ck m n,()),(m,())),())=some (m+3*n,()):=by
 unfold cD
 dsimp only
 rw[tt m n h0 h1 hl,aa]
 dsimp only
 rw[aw (gA (by omega))]
end Go.Den.G
namespace Go.Den.G
open Go.Den
set_option maxRecDepth 100000
theorem AA (x:Page)(left:Int)(h0:0≤left)(h1:left≤1048576)(hd:x.data.length≤maxLen):fE ((x,(left,())),())=some (if left-x.data.length<0 then -1 else left-x.data.length,()):=by
 unfold fE
 simp only[ce]
 rw[gz (by unfold I64 maxLen at *;omega)]
 by_cases h:left-(x.data.length:Int)<0
 ·rw[ah (gY h),if_pos h]
 ·rw[aw (gA h),if_neg h]
theorem yf (xs:List Page)(hx:xs.length≤maxLen)(hd:∀x∈xs,x.data.length≤maxLen):∃r:Int,eT ((xs,(1048576,())),())=some (r,())∧(0≤r→xs.length≤1048576):=by
 unfold eT
 simp only[ce]
 rw[gz (by unfold I64 maxLen at *;omega)]
 by_cases h:1048576-(xs.length:Int)<0
 ·rw[ah (gY h)]
  exact⟨-1,rfl,fun h=>absurd h (by decide)⟩
 ·rw[aw (gA h)]
  refine lh (fun x=>x.1.1=xs∧0≤x.1.2.1∧x.1.2.1≤1048576∧0≤x.1.2.2.1∧x.1.2.2.1≤(xs.length:Int)) (fun x=>xs.length-x.1.2.2.1.toNat) (fun _ o=>∃r:Int,o=some (r,())∧(0≤r→xs.length≤1048576)) ?_ F _ ?_ ?_
  ·rintro⟨⟨ys,left,i,_⟩,_⟩ rec ⟨h2,h3,h4,h0,h1⟩ hrec
   dsimp only at h0 h1 h2 h3 h4 hrec⊢
   subst h2
   by_cases hi:i<ys.length
   ·obtain⟨n,rfl⟩:=Int.eq_ofNat_of_zero_le h0
    have hn:n<ys.length:=by omega
    rw[ah (gY hi),ah (cu h0 hi),gK hn,AA _ _ h3 h4 (hd _ (List.getElem_mem hn)),aa]
    dsimp only
    by_cases hl:left-(ys[n].data.length:Int)<0
    ·rw[if_pos hl]
     exact⟨-1,rfl,fun h=>absurd h (by decide)⟩
    ·rw[if_neg hl,aw (gA hl),eg (by unfold I64;omega)]
     exact hrec _ ⟨rfl,by dsimp only;omega,by dsimp only;omega,by dsimp only;omega,by dsimp only;omega⟩ (by dsimp only;omega)
   ·rw[aw (gA hi)]
    exact⟨left,rfl,fun _=>by omega⟩
  ·exact⟨rfl,by dsimp only;omega,by dsimp only;omega,by simp,by simp⟩
  ·simp[F];omega
theorem vU (xs:List Page)(hx:xs.length≤maxLen)(hd:∀x∈xs,x.data.length≤maxLen):∃r:Int,dY (((xs,()),(1048576,())),())=some (r,())∧(0≤r→xs.length≤1048576):=by
 obtain⟨r,h1,h2⟩:=yf xs hx hd
 unfold dY
 dsimp only
 rw[h1,aa]
 by_cases h:r<0
 ·rw[ah (gY h)];exact⟨-1,rfl,fun h=>absurd h (by decide)⟩
 ·rw[aw (gA h)];exact⟨r,rfl,h2⟩
theorem yh (xs:List Page)(hx:xs.length≤1048576):eU ((xs,()),())=some ((),(xs,())):=by
 unfold eU gE
 simp only[ce]
 rw[ah (oP (by omega) (Int.le_refl _)),ah (u9 (by omega))]
 refine fo (fun x=>x.1.1=xs∧0≤x.1.2.1∧x.1.2.1≤(xs.length:Int)∧x.2.1=xs.take x.1.2.1.toNat++List.replicate (xs.length-x.1.2.1.toNat) (ag .page)) (fun x=>xs.length-x.1.2.1.toNat) (fun _=>some ((),(xs,()))) ?_ F _ ?_ ?_
 ·rintro⟨⟨ys,i,_⟩,out,_⟩ rec ⟨h2,h0,h1,h3⟩ hrec
  dsimp only at h0 h1 h2 h3 hrec⊢
  subst h2
  by_cases hi:i<ys.length
  ·obtain⟨n,rfl⟩:=Int.eq_ofNat_of_zero_le h0
   have hn:n<ys.length:=by omega
   rw[Int.toNat_natCast]at h3
   have hol:out.length=ys.length:=by rw[h3];simp;omega
   rw[ah (gY hi),ah (cu h0 hi),aa,ah (cu h0 (by rw[hol];exact hi)),eg (by unfold I64;omega)]
   refine hrec _ ⟨rfl,by dsimp only;omega,by dsimp only;omega,?_⟩ (by dsimp only;omega)
   dsimp only
   rw[gK hn,show((n:Int)+1).toNat=n+1 by omega,h3]
   unfold aN
   rw[Int.toNat_natCast,List.set_append_right _ _ (by simp;omega),List.length_take,Nat.min_eq_left (by omega),Nat.sub_self,show ys.length-n=(ys.length-(n+1))+1 by omega,List.replicate_succ,←List.take_append_getElem hn,List.append_assoc]
   rfl
  ·have:i=ys.length:=by omega
   subst this
   rw[aw (gA hi),h3,Int.toNat_natCast];simp
 ·exact⟨rfl,by simp,by simp,by simp[sC]⟩
 ·simp[F];omega
theorem vW (xs:List Page)(hx:xs.length≤1048576):cm (((xs,()),()),())=some ((),(xs,())):=by
 unfold cm
 dsimp only
 rw[yh xs hx,aa]
theorem uY (x:Page):fD ((x,(x,())),())=some (true,()):=by
 unfold fD
 dsimp only
 rw[bn rfl,bn rfl,show eqS x.data x.data=true from decide_eq_true rfl]
 rfl
theorem s7 (xs:List Page)(hx:xs.length≤1048576):eR ((xs,(xs,())),())=some (true,()):=by
 unfold eR
 simp only[ce]
 rw[bn rfl,cc,ap]
 refine fo (fun x=>x.1.1=xs∧x.1.2.1=xs∧0≤x.1.2.2.1∧x.1.2.2.1≤(xs.length:Int)) (fun x=>xs.length-x.1.2.2.1.toNat) (fun _=>some (true,())) ?_ F _ ?_ ?_
 ·rintro⟨⟨ys,zs,i,_⟩,_⟩ rec ⟨h2,h3,h0,h1⟩ hrec
  dsimp only at h0 h1 h2 h3 hrec⊢
  subst h2
  subst h3
  by_cases hi:i<zs.length
  ·rw[ah (gY hi),ah (cu h0 hi),ah (cu h0 hi),uY,aa,cc,ap,eg (by unfold I64;omega)]
   exact hrec _ ⟨rfl,rfl,by dsimp only;omega,by dsimp only;omega⟩ (by dsimp only;omega)
  ·rw[aw (gA hi)]
 ·exact⟨rfl,rfl,by simp,by simp⟩
 ·simp[F];omega
theorem mq (xs:List Page)(hx:xs.length≤1048576):ck (((xs,()),((xs,()),())),())=some (true,()):=by
 unfold ck
 dsimp only
 rw[s7 xs hx,aa,cc,ap]
theorem ux (a0 a1 a2 a3 a4 a5 a6 a7 a8 a9 a10 a11 a12 a13 a14 a15:Int):dZ ((([a0,a1,a2,a3,a4,a5,a6,a7,a8,a9,a10,a11,a12,a13,a14,a15],()),()),())=some (([a0,a1,a2,a3,a4,a5,a6,a7,a8,a9,a10,a11,a12,a13,a14,a15],()),()):=by kernel_rfl
theorem vV {c:List Int}(h:c.length=16):dZ (((c,()),()),())=some ((c,()),()):=by
 match c,h with
 |[a0,a1,a2,a3,a4,a5,a6,a7,a8,a9,a10,a11,a12,a13,a14,a15],_=>exact ux a0 a1 a2 a3 a4 a5 a6 a7 a8 a9 a10 a11 a12 a13 a14 a15
theorem Dc {c:List Int}(p f:Int)(h:c.length=16):eB (((c,(p,(f,()))),()),())=some ((c,(p,(f,()))),()):=by
 unfold eB
 dsimp only
 rw[vV h,aa]
theorem rx (c:List Int):dX (((c,()),((c,()),())),())=some (true,()):=by
 unfold dX
 dsimp only
 refine(Ret.iter (fun y=>∃i:Nat,i≤16∧y=(((i:Int),()),((c,()),((c,()),())))) (fun y=>16-y.1.1.toNat) ?_ F _ ⟨0,by omega,rfl⟩ (by unfold F;simp)).eq
 rintro _ rec ⟨i,hi,rfl⟩ hrec
 dsimp only
 by_cases h:i<16
 ·rw[ah (gY (by omega)),ah (by simp[inR];omega),ah (by simp[inR];omega),bn rfl,cc,aw rfl,bS (by omega) (by omega)]
  exact hrec _ ⟨i+1,by omega,rfl⟩ (by simp;omega)
 ·rw[aw (gA (by omega))]
  exact Ret.some rfl
theorem xu (c:List Int)(p f:Int):eA (((c,(p,(f,()))),((c,(p,(f,()))),())),())=some (true,()):=by
 unfold eA
 dsimp only
 rw[rx,aa]
 dsimp only
 rw[cc,ap,bn rfl,bn rfl,cc,ap,ap]
theorem elWf_i {x:Int}(h:uD .i x):I64 x:=by
 obtain⟨⟨n,e,w⟩,_⟩:=h
 have e:x=n:=by injection e
 rw[e];exact DP w
theorem regs_wf {c:List Int}(w:∀x∈c,uD .i x):∀i,I64 (aj c i (ag .i)):=fun i=>by
 unfold aj
 rw[List.getD_eq_getElem?_getD]
 cases hci:c[i.toNat]? with
 |none=>exact(by unfold I64;decide:I64 (0:Int))
 |some v=>exact elWf_i (w v (List.mem_of_getElem? hci))
theorem ins_wf {x:Ins}(hw:uD .ins x):I64 x.dst.disp∧I64 x.dst.imm∧I64 x.src.disp∧I64 x.src.imm:=by
 obtain⟨_,_,_,_,_,_,_,_,_,⟨n1,e1,w1⟩,⟨n2,e2,w2⟩,_,_,_,_,_,⟨n3,e3,w3⟩,⟨n4,e4,w4⟩,_⟩:=hw
 have e1:x.dst.disp=n1:=by injection e1
 have e2:x.dst.imm=n2:=by injection e2
 have e3:x.src.disp=n3:=by injection e3
 have e4:x.src.imm=n4:=by injection e4
 rw[e1,e2,e3,e4]
 exact⟨DP w1,DP w2,DP w3,DP w4⟩
end Go.Den.G
namespace Go.Den.G
open Go.Den
set_option maxRecDepth 100000
def mkA (m:Int)(i:Nat):Acc:=Acc.mk (m+4*(i:Int)) (m+4*(i:Int)+1) (m+4*(i:Int)+2) (m+4*(i:Int)+3)
def mkAs (m:Int)(n:Nat):List Acc:=(List.range n).map (mkA m)
theorem Ci (m:Int)(n:Nat):(mkAs m n).length=n:=by simp[mkAs]
theorem qo (m:Int)(l:List Acc)(h0:1≤m)(h1:m≤68719476736)(hl:l.length≤1073741824):
  cQ ((m,()),(l,()))=some (m+4*l.length,(mkAs m l.length,())):=by
 unfold cQ
 dsimp only
 refine(Ret.iter (fun y=>∃j:Nat,j≤l.length∧y=((m+4*(j:Int),((j:Int),())),((List.range j).map (mkA m)++l.drop j,()))) (fun y=>l.length-y.1.2.1.toNat) ?_ F _ ⟨0,by omega,by simp⟩ (by unfold F;simp;omega)).eq
 rintro _ rec ⟨j,hj,rfl⟩ hrec
 dsimp only
 have hlen:((List.range j).map (mkA m)++l.drop j).length=l.length:=by rw[List.length_append,List.length_map,List.length_range,List.length_drop];omega
 obtain⟨a,ha⟩:∃a,a=(List.range j).map (mkA m)++l.drop j:=⟨_,rfl⟩
 rw[←ha]at hlen⊢
 simp only[ce,wM,hlen]
 by_cases h:j<l.length
 ·have hja:j<a.length:=by omega
  have e1:ax .i64 (m+4*(j:Int)) 1=m+4*j+1:=bS (by omega) (by omega)
  have e2:ax .i64 (m+4*(j:Int)+1) 1=m+4*j+2:=by rw[bS (by omega) (by omega)];omega
  have e3:ax .i64 (m+4*(j:Int)+2) 1=m+4*j+3:=by rw[bS (by omega) (by omega)];omega
  have e4:ax .i64 (m+4*(j:Int)+3) 1=m+4*((j+1:Nat):Int):=by rw[bS (by omega) (by omega)];omega
  have hr:inR (j:Int) (l.length:Int)=true:=cu (by omega) (by omega)
  rw[ah (gY (by omega)),hr,aR,aR,aR,aR,e1,e2,e3,e4,bS (by omega) (by omega)]
  simp only[uk,th hja]
  refine hrec _ ⟨j+1,by omega,?_⟩ (by dsimp only;omega)
  have:=wx (mkA m) h
  rw[←ha]at this
  rw[←this]
  rfl
 ·have:j=l.length:=by omega
  subst this
  rw[aw (gA (by omega)),ha]
  exact Ret.some (by rw[List.drop_length,List.append_nil];rfl)
theorem Ch (m:Int){n j:Nat}(h:j<n):aj (mkAs m n) (j:Int) (ag .acc)=mkA m j:=by
 unfold aj mkAs
 rw[Int.toNat_natCast,List.getD_eq_getElem?_getD,List.getElem?_map,List.getElem?_range h];rfl
theorem qj (m:Int)(n:Nat)(h0:1≤m)(h1:m≤68719476736)(hl:n≤1073741824):cl ((mkAs m n,(m,())),())=some (m+4*n,()):=by
 unfold cl
 dsimp only
 refine(Ret.iter (fun y=>∃j:Nat,j≤n∧y=((mkAs m n,(m+4*(j:Int),((j:Int),()))),())) (fun y=>n-y.1.2.2.1.toNat) ?_ F _ ⟨0,by omega,by simp⟩ (by unfold F;simp;omega)).eq
 rintro _ rec ⟨j,hj,rfl⟩ hrec
 dsimp only
 simp only[ce,Ci]
 by_cases h:j<n
 ·have e1:ax .i64 (m+4*(j:Int)) 1=m+4*j+1:=bS (by omega) (by omega)
  have e2:ax .i64 (m+4*(j:Int)+1) 1=m+4*j+2:=by rw[bS (by omega) (by omega)];omega
  have e3:ax .i64 (m+4*(j:Int)+2) 1=m+4*j+3:=by rw[bS (by omega) (by omega)];omega
  have e4:ax .i64 (m+4*(j:Int)+3) 1=m+4*((j+1:Nat):Int):=by rw[bS (by omega) (by omega)];omega
  have hr:inR (j:Int) (n:Int)=true:=cu (by omega) (by omega)
  rw[ah (gY (by omega)),hr,aR,aR,aR,aR,Ch m h]
  dsimp only[mkA]
  rw[bn rfl,cc,ap,e1,bn rfl,cc,ap,e2,bn rfl,cc,ap,e3,bn rfl,cc,ap,e4,bS (by omega) (by omega)]
  exact hrec _ ⟨j+1,by omega,rfl⟩ (by dsimp only;omega)
 ·have:j=n:=by omega
  subst this
  rw[aw (gA (by omega))]
  exact Ret.some rfl
theorem rv (x:Acc):dW ((x,(x,())),())=some (true,()):=by
 unfold dW
 dsimp only
 rw[bn rfl,bn rfl,bn rfl,bn rfl]
 rfl
theorem qh (xs:List Acc)(hx:xs.length≤1048576):cy ((xs,(xs,())),())=some (true,()):=by
 unfold cy
 simp only[ce]
 rw[bn rfl,cc,ap]
 refine(Ret.iter (fun y=>∃j:Nat,j≤xs.length∧y=((xs,(xs,((j:Int),()))),())) (fun y=>xs.length-y.1.2.2.1.toNat) ?_ F _ ⟨0,by omega,rfl⟩ (by unfold F;simp;omega)).eq
 rintro _ rec ⟨j,hj,rfl⟩ hrec
 dsimp only
 by_cases h:j<xs.length
 ·have hr:inR (j:Int) (xs.length:Int)=true:=cu (by omega) (by omega)
  rw[ah (gY (by omega)),hr,aR,aR,rv,aa,cc,ap,bS (by omega) (by omega)]
  exact hrec _ ⟨j+1,by omega,rfl⟩ (by dsimp only;omega)
 ·rw[aw (gA (by omega))]
  exact Ret.some rfl
end Go.Den.G
namespace Go.Den.G
open Go.Den
set_option maxRecDepth 100000
noncomputable section
theorem szN_all:∀n,n<45→1≤n→∀z∈szL (szK n),(0:Int)≤z:=by decide +kernel
theorem BG {x:Ins}{n:Nat}(h1:1≤n)(h2:n<45)(h:xC x n):0≤x.size:=by
 obtain⟨_,_,hs,_⟩:=h
 unfold shB at hs
 simp only[Bool.and_eq_true,decide_eq_true_eq]at hs
 exact szN_all n h2 h1 _ hs.1
theorem qe {g:List Int}{rip fl:Int}{m:List Page}{x:Ins}(hg:je g)(hI:I64 fl)(hm:m.length≤1048576)(hx:I64 x.dst.disp∧I64 x.dst.imm∧I64 x.src.disp∧I64 x.src.imm):
  ∃(g':List Int) (p' f':Int) (m':List Page) (l':List Acc) (k':Int),m'.length≤1048576∧l'.length≤1000∧
   dx (((g,(rip,(fl,()))),((m,()),(x,()))),())=some (((g',(p',(f',()))),((m',()),(l',(k',())))),())∧
   cS (((g,(rip,(fl,()))),((m,()),(x,()))),())=some (((g',(p',(f',()))),((),(k',()))),(m',(l',()))):=by
 have hmM:(m.length:Int)<4611686018427387904:=by omega
 have hmF:m.length<F:=by unfold F;omega
 unfold dx cS
 dsimp only
 rw[Ai hI,AX,aa,aa]
 dsimp only
 by_cases h1:bK fl=true
 rotate_left
 ·simp only[Bool.eq_false_iff.2 h1,dp,aa,aR]
  exact⟨[],0,0,[],[],1,by simp,by simp,rfl,rfl⟩
 rw[h1,cc,ap,ap,nT m hmM,nP m hmM hmF,aa,aa]
 dsimp only
 by_cases h2:pk m=true
 rotate_left
 ·simp only[Bool.eq_false_iff.2 h2,dp,aa,aR]
  exact⟨[],0,0,[],[],1,by simp,by simp,rfl,rfl⟩
 simp only[h2,cc,aa,ap]
 by_cases ho:1≤x.op∧x.op≤44
 rotate_left
 ·obtain⟨e1,e2⟩:=xb x ho
  rw[e1,e2,aa,aa]
  dsimp only
  simp only[dp,aa,aR]
  exact⟨[],0,0,[],[],1,by simp,by simp,rfl,rfl⟩
 obtain⟨n,hn⟩:=Int.eq_ofNat_of_zero_le (show 0≤x.op by omega)
 have n1:1≤n:=by omega
 have n2:n<45:=by omega
 rw[BW x n1 n2 hn,xa x n1 n2 hn hx.1 hx.2.2.1,aa,aa]
 dsimp only
 by_cases hP:xC x n
 rotate_left
 ·simp only[decide_eq_false hP,dp,aa,aR]
  exact⟨[],0,0,[],[],1,by simp,by simp,rfl,rfl⟩
 simp only[decide_eq_true hP,cc,aa,ap]
 have hV:=ExV_of hn n1 n2 hP hx
 have hT:=memOK_t h2
 obtain⟨z,hz⟩:=Int.eq_ofNat_of_zero_le (BG n1 n2 hP)
 obtain⟨e1,ok,_,_⟩:=exec_m (rip:=rip) hT hg hI h1 hV hz
 have e2:=exec_r (rip:=rip) hT hg hI h1 hV hz
 rw[e1,e2,aa,aa]
 generalize exM g rip fl m x n z=e at ok
 unfold exR exS
 have ok1:=ok.m.len
 have ok2:=ok.l
 by_cases hc:e.1.code=0
 ·rw[if_neg (by simpa using hc),if_neg (by simpa using hc)]
  dsimp only
  rw[z7 e.1.m (by omega),aa]
  exact⟨e.1.g,e.2.1,e.2.2,e.1.m,e.1.l,0,by omega,by omega,rfl,rfl⟩
 ·rw[if_pos hc,if_pos hc]
  dsimp only
  rw[z7 m hm,aa]
  exact⟨g,rip,fl,m,e.1.l,e.1.code,hm,by omega,rfl,rfl⟩
theorem qq (y:VTL.Ty [.agg [.arr .i 16,.int .i64,.int .i64],.agg [.list .page],.el .ins])(h:VTL.wf [.agg [.arr .i 16,.int .i64,.int .i64],.agg [.list .page],.el .ins] y):bA (y,())=some (true,()):=by
 obtain⟨⟨c,p,f,_⟩,⟨ms,_⟩,x,_⟩:=y
 obtain⟨⟨⟨w0,w1⟩,w2,w3,_⟩,⟨⟨w4,w5⟩,_⟩,w6,_⟩:=h
 have w0:c.length=16:=w0
 have w4:ms.length≤maxLen:=w4
 have hg:je c:=regs_wf w1
 have hf:I64 f:=DP w3
 have hx:=ins_wf w6
 unfold bA
 dsimp only
 obtain⟨r,e,hr⟩:=vU ms w4 (fun x hx=>(yP (w5 x hx)).2.2)
 rw[e,aa]
 dsimp only
 by_cases h0:r<0
 ·rw[ah (gY h0)]
 rw[aw (gA h0)]
 have hm:=hr (by omega)
 obtain⟨g',p',f',m',l',k',hm',hl',e1,e2⟩:=qe (rip:=p) hg hf hm hx
 have hc:=Dc p f w0
 have ht:=vW ms hm
 have hi:dH ((x,()),())=some (x,()):=rfl
 have hmm:=mB 1 ms (by decide) (by decide) (by omega)
 have hmm':=mB 1 m' (by decide) (by decide) (by omega)
 have hhm':=rH 1 m'.length (by decide) (by decide) (by omega)
 have hma:=qo (1+3*(m'.length:Int)) l' (by omega) (by omega) (by omega)
 have hha:=qj (1+3*(m'.length:Int)) l'.length (by omega) (by omega) (by omega)
 have q1:ltI (1+3*(m'.length:Int)) 0=false:=gA (by omega)
 have q2:ltI (1+3*(m'.length:Int)+4*(l'.length:Int)) 0=false:=gA (by omega)
 have q3:ltI (1+3*(ms.length:Int)) 0=false:=gA (by omega)
 have hcc:∀a:Int,eqI a a=true:=fun a=>bn rfl
 rw[hc,aa,ht,aa,hi,aa]
 dsimp only
 rw[e1,aa]
 simp only[aa,e2,xu,mq m' hm',mq ms hm,qh l' (by omega),hcc,cc,ap,hmm,hmm',hma,hhm',hha,q1,q2,q3]
end
end Go.Den.G
