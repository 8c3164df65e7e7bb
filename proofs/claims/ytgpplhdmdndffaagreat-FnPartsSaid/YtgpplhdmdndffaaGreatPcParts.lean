/- Theory for the proofs of this claim: see its last text. -/
import Derived.Test.YtgpplhdmdndffaaGreatFnParts
import Derived.Test.YtgpplhdmdndffaaGreatDenF
import Derived.KernelRfl
import Derived.Laws.MathBits
import Derived.Test.YtgpplhdmdndffaaGreatPbParts
set_option linter.unusedSimpArgs false
namespace Go.Den.G
open Go.Den
set_option maxRecDepth 100000
set_option linter.unusedSectionVars false
noncomputable section
def MS.flow (s:MS)(rip fl nx:Int)(x:Ins)(n:Nat):MS×Int:=
 if n=29 then((s.rd nx x.src 8).2.pu (s.rd nx x.src 8).1,rip)
 else if n=30 then(s.po.2.wr nx x.dst 8 s.po.1,rip)
 else if n=31 then((s.go nx x).2.pu nx,(s.go nx x).1)
 else if n=34 then(s.po.2,s.po.1)
 else if n=32 then((s.go nx x).2,(s.go nx x).1)
 else if n=33 then(if kO x.cond fl=true then((s.go nx x).2,(s.go nx x).1)else(s,rip))
 else if n=41 then({s.st (rg s.g 7) 1 (rg s.g 0)with g:=setA s.g 7 (aL .i64 (rg s.g 7) 1)},rip)
 else if n=42 then({(s.ld (rg s.g 6) 1).2.st (rg s.g 7) 1 (s.ld (rg s.g 6) 1).1 with g:=setA (setA s.g 6 (aL .i64 (rg s.g 6) 1)) 7 (aL .i64 (rg (setA s.g 6 (aL .i64 (rg s.g 6) 1)) 7) 1)},rip)
 else if n=38 then({s with code:=17},rip)
 else if n=43\/n=44 then({s with code:=18},rip)
 else(s,rip)
section
variable {g:List Int}{m:List Page}{c:Int}{l:List Acc}{k:Nat}(hs:(MS.mk g m c l).ok k)(hk:k+3<=1000){x:Ins}
include hs hk
theorem flow_29 (hx:ExV x 29)(rip fl nx:Int):∃g' m' c' l' rip',(MS.mk g m c l).flow rip fl nx x 29=(⟨g',m',c',l'⟩,rip')/\aA ((x,()),(g,rip,fl,nx,c,()),m,l,())=some ((),(g',rip',fl,nx,c',()),m',l',())/\(MS.mk g' m' c' l').ok (k+3):=by
 unfold MS.flow aA
 dsimp only
 have hop:=hx.op
 have hsv:=hx.sv
 rw[show sSz x 29=x.size from by unfold sSz;rw[iD,hx.fr.2 (by decide),iD],hx.szs.2.2.1 (by decide)]at hsv
 obtain⟨v1,c1,l1,e1,r1,ok1,I1⟩:=vZ hs (by omega) (n:=8) rfl hsv nx
 obtain⟨g',m',c',l',e2,r2,ok2⟩:=pu_ex ok1 (by omega) v1
 have r1':aH ((dw x.src (),8,()),(g,rip,fl,nx,c,()),m,l,())=_:=r1 rip fl
 rw[aa rfl,e1,hop,bK,aV,r1',af,r2,af]
 exact⟨g',m',c',l',rip,by dsimp only;rw[e2],rfl,ok2.mono (by omega)⟩
theorem flow_30 (hx:ExV x 30)(rip fl nx:Int):∃g' m' c' l' rip',(MS.mk g m c l).flow rip fl nx x 30=(⟨g',m',c',l'⟩,rip')/\aA ((x,()),(g,rip,fl,nx,c,()),m,l,())=some ((),(g',rip',fl,nx,c',()),m',l',())/\(MS.mk g' m' c' l').ok (k+3):=by
 unfold MS.flow aA
 dsimp only
 have hop:=hx.op
 have hdv:=hx.dv
 rw[hx.szs.2.2.1 (by decide)]at hdv
 obtain⟨v1,g1,m1,c1,l1,e1,r1,ok1,I1⟩:=po_ex hs (by omega)
 obtain⟨g',m',c',l',e2,r2,ok2⟩:=wE ok1 (by omega) (n:=8) rfl hdv (hx.kd.1 (by decide)) nx I1
 have r2':aC ((dw x.dst (),8,v1,()),(g1,rip,fl,nx,c1,()),m1,l1,())=_:=r2 rip fl
 rw[iD,aa rfl,e1,hop,aD,ap,bK,aV,r1,af]
 dsimp only
 rw[r2',af]
 exact⟨g',m',c',l',rip,by rw[e2],rfl,ok2.mono (by omega)⟩
theorem flow_31 (hx:ExV x 31)(rip fl nx:Int):∃g' m' c' l' rip',(MS.mk g m c l).flow rip fl nx x 31=(⟨g',m',c',l'⟩,rip')/\aA ((x,()),(g,rip,fl,nx,c,()),m,l,())=some ((),(g',rip',fl,nx,c',()),m',l',())/\(MS.mk g' m' c' l').ok (k+3):=by
 unfold MS.flow aA
 dsimp only
 have hop:=hx.op
 have hsv:=hx.sv
 rw[show sSz x 31=x.size from by unfold sSz;rw[iD,hx.fr.2 (by decide),iD],hx.szs.2.2.1 (by decide)]at hsv
 obtain⟨v1,c1,l1,e1,r1,ok1,I1⟩:=go_ex hs (by omega) hsv nx
 obtain⟨g',m',c',l',e2,r2,ok2⟩:=pu_ex ok1 (by omega) nx
 rw[iD,iD,aa rfl,e1,hop,aD,ap,aD,ap,bK,aV,r1,af]
 dsimp only
 rw[r2,af]
 exact⟨g',m',c',l',v1,by rw[e2],rfl,ok2.mono (by omega)⟩
theorem flow_34 (hx:ExV x 34)(rip fl nx:Int):∃g' m' c' l' rip',(MS.mk g m c l).flow rip fl nx x 34=(⟨g',m',c',l'⟩,rip')/\aA ((x,()),(g,rip,fl,nx,c,()),m,l,())=some ((),(g',rip',fl,nx,c',()),m',l',())/\(MS.mk g' m' c' l').ok (k+3):=by
 unfold MS.flow aA
 dsimp only
 have hop:=hx.op
 obtain⟨v1,g1,m1,c1,l1,e1,r1,ok1,I1⟩:=po_ex hs (by omega)
 rw[iD,iD,iD,aa rfl,e1,hop,aD,ap,aD,ap,aD,ap,bK,aV,r1,af]
 exact⟨g1,m1,c1,l1,v1,rfl,rfl,ok1.mono (by omega)⟩
theorem flow_32 (hx:ExV x 32)(rip fl nx:Int):∃g' m' c' l' rip',(MS.mk g m c l).flow rip fl nx x 32=(⟨g',m',c',l'⟩,rip')/\aA ((x,()),(g,rip,fl,nx,c,()),m,l,())=some ((),(g',rip',fl,nx,c',()),m',l',())/\(MS.mk g' m' c' l').ok (k+3):=by
 unfold MS.flow aA
 dsimp only
 have hop:=hx.op
 have hsv:=hx.sv
 rw[show sSz x 32=x.size from by unfold sSz;rw[iD,hx.fr.2 (by decide),iD],hx.szs.2.2.1 (by decide)]at hsv
 obtain⟨v1,c1,l1,e1,r1,ok1,I1⟩:=go_ex hs (by omega) hsv nx
 rw[iD,iD,iD,iD,aa rfl,e1,hop,aD,ap,aD,ap,aD,ap,aD,ap,bK,aV,r1,af]
 exact⟨g,m,c1,l1,v1,rfl,rfl,ok1.mono (by omega)⟩
theorem flow_33 (hx:ExV x 33)(rip fl nx:Int):∃g' m' c' l' rip',(MS.mk g m c l).flow rip fl nx x 33=(⟨g',m',c',l'⟩,rip')/\aA ((x,()),(g,rip,fl,nx,c,()),m,l,())=some ((),(g',rip',fl,nx,c',()),m',l',())/\(MS.mk g' m' c' l').ok (k+3):=by
 unfold MS.flow aA
 dsimp only
 have hop:=hx.op
 have hk3:=hx.kd.2.2.2.2.2.2.2.1 rfl
 have hgo:∀s:MS,s.go nx x=(aL .i64 nx x.src.imm,s):=fun s=>aa hk3
 have hg2:cu ((x,()),(g,rip,fl,nx,c,()),m,l,())=some (aL .i64 nx x.src.imm,(g,rip,fl,nx,c,()),m,l,()):=by
  unfold cu
  dsimp only
  rw[bK hk3,aV]
 rw[iD,iD,iD,iD,iD,aa rfl,hgo,hop,aD,ap,aD,ap,aD,ap,aD,ap,aD,ap,bK,aV,yp hx.c0 hx.c1,af]
 dsimp only
 by_cases hh:kO x.cond fl=true
 ·rw[hh,aV,hg2,af,aa rfl]
  exact⟨g,m,c,l,_,rfl,rfl,hs.mono (by omega)⟩
 ·rw[jO.2 hh,ap,iD]
  exact⟨g,m,c,l,_,rfl,rfl,hs.mono (by omega)⟩
theorem flow_41 (hx:ExV x 41)(rip fl nx:Int):∃g' m' c' l' rip',(MS.mk g m c l).flow rip fl nx x 41=(⟨g',m',c',l'⟩,rip')/\aA ((x,()),(g,rip,fl,nx,c,()),m,l,())=some ((),(g',rip',fl,nx,c',()),m',l',())/\(MS.mk g' m' c' l').ok (k+3):=by
 unfold MS.flow aA
 dsimp only
 have hop:=hx.op
 obtain⟨m',c',l',e1,r1,ok1⟩:=st_ex hs (by omega) (hs.g 7) (n:=1) rfl (rg g 0)
 have r1':aQ ((bk g 7 (aJ .i),1,bk g 0 (aJ .i),()),(g,rip,fl,nx,c,()),m,l,())=_:=r1 rip fl nx
 rw[iD,iD,iD,iD,iD,iD,aa rfl,e1,hop,aD,ap,aD,ap,aD,ap,aD,ap,aD,ap,aD,ap,bK,aV,r1',af]
 exact⟨_,m',c',l',rip,rfl,rfl,(ok1.setA (aB _)).mono (by omega)⟩
theorem flow_42 (hx:ExV x 42)(rip fl nx:Int):∃g' m' c' l' rip',(MS.mk g m c l).flow rip fl nx x 42=(⟨g',m',c',l'⟩,rip')/\aA ((x,()),(g,rip,fl,nx,c,()),m,l,())=some ((),(g',rip',fl,nx,c',()),m',l',())/\(MS.mk g' m' c' l').ok (k+3):=by
 unfold MS.flow aA
 dsimp only
 have hop:=hx.op
 obtain⟨v1,c1,l1,e1,r1,ok1,I1⟩:=ld_ex hs (by omega) (hs.g 6) (n:=1) rfl
 obtain⟨m',c',l',e2,r2,ok2⟩:=st_ex ok1 (by omega) (hs.g 7) (n:=1) rfl v1
 have r1':bf ((bk g 6 (aJ .i),1,()),(g,rip,fl,nx,c,()),m,l,())=_:=r1 rip fl nx
 have r2':aQ ((bk g 7 (aJ .i),1,v1,()),(g,rip,fl,nx,c1,()),m,l1,())=_:=r2 rip fl nx
 rw[iD,iD,iD,iD,iD,iD,iD,aa rfl,e1,hop,aD,ap,aD,ap,aD,ap,aD,ap,aD,ap,aD,ap,aD,ap,bK,aV,r1',af]
 dsimp only
 rw[r2',af,e2]
 exact⟨_,m',c',l',rip,rfl,rfl,((ok2.setA (aB _)).setA (aB _)).mono (by omega)⟩
theorem flow_38 (hx:ExV x 38)(rip fl nx:Int):∃g' m' c' l' rip',(MS.mk g m c l).flow rip fl nx x 38=(⟨g',m',c',l'⟩,rip')/\aA ((x,()),(g,rip,fl,nx,c,()),m,l,())=some ((),(g',rip',fl,nx,c',()),m',l',())/\(MS.mk g' m' c' l').ok (k+3):=by
 unfold MS.flow aA
 dsimp only
 have hop:=hx.op
 rw[iD,iD,iD,iD,iD,iD,iD,iD,aa rfl,hop,aD,ap,aD,ap,aD,ap,aD,ap,aD,ap,aD,ap,aD,ap,aD,ap,bK,aV]
 exact⟨g,m,17,l,rip,rfl,rfl,⟨hs.m,dN hs.l (by omega),hs.g⟩⟩
theorem flow_43 (hx:ExV x 43)(rip fl nx:Int):∃g' m' c' l' rip',(MS.mk g m c l).flow rip fl nx x 43=(⟨g',m',c',l'⟩,rip')/\aA ((x,()),(g,rip,fl,nx,c,()),m,l,())=some ((),(g',rip',fl,nx,c',()),m',l',())/\(MS.mk g' m' c' l').ok (k+3):=by
 unfold MS.flow aA
 dsimp only
 have hop:=hx.op
 rw[iD,iD,iD,iD,iD,iD,iD,iD,iD,aa (by decide),hop,aD,ap,aD,ap,aD,ap,aD,ap,aD,ap,aD,ap,aD,ap,aD,ap,aD,ap]
 rw[show eqI ((43:Nat):Int) 43=true from rfl,aV,af,am]
 exact⟨g,m,18,l,rip,rfl,rfl,⟨hs.m,dN hs.l (by omega),hs.g⟩⟩
theorem flow_44 (hx:ExV x 44)(rip fl nx:Int):∃g' m' c' l' rip',(MS.mk g m c l).flow rip fl nx x 44=(⟨g',m',c',l'⟩,rip')/\aA ((x,()),(g,rip,fl,nx,c,()),m,l,())=some ((),(g',rip',fl,nx,c',()),m',l',())/\(MS.mk g' m' c' l').ok (k+3):=by
 unfold MS.flow aA
 dsimp only
 have hop:=hx.op
 rw[iD,iD,iD,iD,iD,iD,iD,iD,iD,aa (by decide),hop,aD,ap,aD,ap,aD,ap,aD,ap,aD,ap,aD,ap,aD,ap,aD,ap,aD,ap]
 rw[show eqI ((44:Nat):Int) 43=false from rfl,ap,af,am,show eqI ((44:Nat):Int) 44=true from rfl]
 exact⟨g,m,18,l,rip,rfl,rfl,⟨hs.m,dN hs.l (by omega),hs.g⟩⟩
theorem flow_37 (hx:ExV x 37)(rip fl nx:Int):∃g' m' c' l' rip',(MS.mk g m c l).flow rip fl nx x 37=(⟨g',m',c',l'⟩,rip')/\aA ((x,()),(g,rip,fl,nx,c,()),m,l,())=some ((),(g',rip',fl,nx,c',()),m',l',())/\(MS.mk g' m' c' l').ok (k+3):=by
 unfold MS.flow aA
 dsimp only
 have hop:=hx.op
 rw[iD,iD,iD,iD,iD,iD,iD,iD,iD,iD,hop,aD,ap,aD,ap,aD,ap,aD,ap,aD,ap,aD,ap,aD,ap,aD,ap,aD,ap]
 rw[show eqI ((37:Nat):Int) 43=false from rfl,ap,af,am,show eqI ((37:Nat):Int) 44=false from rfl]
 exact⟨g,m,c,l,rip,rfl,rfl,hs.mono (by omega)⟩
end
end
set_option maxRecDepth 100000
set_option linter.unusedSectionVars false
set_option linter.unusedVariables false
noncomputable section
theorem G9 {g:List Int}{r v:Int}{n:Nat}(hn:di (n:Int)=true)(h15:r<=15){α:Type}(Z:List Int->Option α):
  (br (leI 4 (n:Int)) (bnd (aj ((v,(n:Int),()),())) (fun x32=>Z (eM (gj 16 (aJ .i) g) r x32.1))) (bnd (aj ((v,(n:Int),()),())) (fun x33=>bnd (aj (((bk g r (aJ .i)),(n:Int),()),())) (fun x34=>Z (eM (gj 16 (aJ .i) g) r (aL .i64 (bk g r (aJ .i)) (bo .i64 x33.1 x34.1)))))))=Z (wc g r n v):=by
 unfold wc Go.Den.G.setA
 rw[iN,cG _ n hn,cG _ n hn,af,af,af]
 by_cases h4:4<=n
 ·rw[ag (gY),aa h4]
 ·rw[aq (mI),ae h4]
theorem vq:aS ((0,()),())=some (false,()):=pJ 0
theorem isHigh2:aS ((2,()),())=some (false,()):=pJ 2
theorem xu {g:List Int}{r:Int}{n:Nat}(h:¬16<=r):cR (bk g r (aJ .i)) n=nC g r n:=by
 unfold nC
 rw[ae h]
def MS.move (s:MS)(fl nx:Int)(x:Ins)(n z:Nat):MS:=
 if n=9 then(s.rd nx x.src z).2.wr nx x.dst z (s.rd nx x.src z).1
 else if n=28 then
  let a:=s.rd nx x.dst z
  let b:=a.2.rd nx x.src z
  (b.2.wr nx x.dst z b.1).wr nx x.src z a.1
 else if n=25 then s.wr nx x.dst z (qZ s.g nx x.src)
 else if n=26 then(s.rd nx x.src x.frm.toNat).2.wr nx x.dst z (s.rd nx x.src x.frm.toNat).1
 else if n=27 then(s.rd nx x.src x.frm.toNat).2.wr nx x.dst z (sx (8*x.frm.toNat-1) (s.rd nx x.src x.frm.toNat).1)
 else if n=35 then s.wr nx x.dst 1 (if kO x.cond fl=true then 1 else 0)
 else if n=36 then
  let a:=s.rd nx x.src z
  let b:=if kO x.cond fl=true then a else a.2.rd nx x.dst z
  b.2.wr nx x.dst z b.1
 else if n=39 then {s with g:=wc s.g 0 z (sx (8*(z/2)-1) (nC s.g 0 (z/2)))}
 else if n=40 then {s with g:=wc s.g 2 z (dC .i64 (sx (8*z-1) (nC s.g 0 z)) 63)}
 else s
section
variable {g:List Int}{m:List Page}{c:Int}{l:List Acc}{k:Nat}(hs:(MS.mk g m c l).ok k)(hk:k+4<=1000){x:Ins}{z:Nat}
include hs hk
theorem move_9 (hx:ExV x 9)(hz:x.size=z)(rip fl nx:Int):∃g' m' c' l',(MS.mk g m c l).move fl nx x 9 z=⟨g',m',c',l'⟩/\aO ((x,()),(g,rip,fl,nx,c,()),m,l,())=some ((),(g',rip,fl,nx,c',()),m',l',())/\(MS.mk g' m' c' l').ok (k+4):=by
 unfold MS.move aO
 dsimp only
 have hop:=hx.op
 have hz':di (z:Int)=true:=by rw[<-hz];exact hx.szs.1 (by decide)
 have hdv:=hx.dv
 rw[hz]at hdv
 have hsv:=hx.sv
 rw[show sSz x 9=x.size from by unfold sSz;rw[iD,hx.fr.2 (by decide),iD],hz]at hsv
 obtain⟨v1,c1,l1,e1,r1,ok1,I1⟩:=vZ hs (by omega) hz' hsv nx
 obtain⟨g',m',c',l',e2,r2,ok2⟩:=wE ok1 (by omega) hz' hdv (hx.kd.1 (by decide)) nx I1
 rw[aa rfl,e1,hop,hz,bK,aV,r1,af]
 dsimp only
 rw[r2,af]
 exact⟨g',m',c',l',e2,rfl,ok2.mono (by omega)⟩
theorem move_28 (hx:ExV x 28)(hz:x.size=z)(rip fl nx:Int):∃g' m' c' l',(MS.mk g m c l).move fl nx x 28 z=⟨g',m',c',l'⟩/\aO ((x,()),(g,rip,fl,nx,c,()),m,l,())=some ((),(g',rip,fl,nx,c',()),m',l',())/\(MS.mk g' m' c' l').ok (k+4):=by
 unfold MS.move aO
 dsimp only
 have hop:=hx.op
 have hz':di (z:Int)=true:=by rw[<-hz];exact hx.szs.1 (by decide)
 have hdv:=hx.dv
 rw[hz]at hdv
 have hsv:=hx.sv
 rw[show sSz x 28=x.size from by unfold sSz;rw[iD,hx.fr.2 (by decide),iD],hz]at hsv
 have hsk:x.src.kind=1\/x.src.kind=2:= .inl (hx.kd.2.1 rfl)
 obtain⟨v1,c1,l1,e1,r1,ok1,I1⟩:=vZ hs (by omega) hz' hdv nx
 obtain⟨v2,c2,l2,e2,r2,ok2,I2⟩:=vZ ok1 (by omega) hz' hsv nx
 obtain⟨g3,m3,c3,l3,e3,r3,ok3⟩:=wE ok2 (by omega) hz' hdv (hx.kd.1 (by decide)) nx I2
 obtain⟨g',m',c',l',e4,r4,ok4⟩:=wE ok3 (by omega) hz' hsv hsk nx I1
 rw[iD,aa rfl,e1,hop,hz,aD,ap,bK,aV,r1,af]
 dsimp only
 rw[e2,r2,af]
 dsimp only
 rw[e3,r3,af]
 dsimp only
 rw[e4,r4,af]
 exact⟨g',m',c',l',rfl,rfl,ok4⟩
theorem move_25 (hx:ExV x 25)(hz:x.size=z)(rip fl nx:Int):∃g' m' c' l',(MS.mk g m c l).move fl nx x 25 z=⟨g',m',c',l'⟩/\aO ((x,()),(g,rip,fl,nx,c,()),m,l,())=some ((),(g',rip,fl,nx,c',()),m',l',())/\(MS.mk g' m' c' l').ok (k+4):=by
 unfold MS.move aO
 dsimp only
 have hop:=hx.op
 have hz':di (z:Int)=true:=by rw[<-hz];exact hx.szs.1 (by decide)
 have hdv:=hx.dv
 rw[hz]at hdv
 have hsv:=hx.sv
 have hb:=hsv.b (hx.kd.2.2.1 rfl).2
 obtain⟨g',m',c',l',e2,r2,ok2⟩:=wE hs (by omega) hz' hdv (hx.kd.1 (by decide)) nx (oT (g:=g) (nx:=nx) hsv)
 have hfin:∀a:Int,a=qZ g nx x.src->(bnd (aC ((dw x.dst (),(z:Int),a,()),(g,rip,fl,nx,c,()),m,l,())) (fun x8=>some ((),(x8.2.1.1,rip,fl,nx,x8.2.1.2.2.2.2),x8.2.2)))=some ((),(g',rip,fl,nx,c',()),m',l',()):=by
  rintro _ rfl
  rw[r2,af]
 rw[iD,iD,aa rfl,hop,hz,aD,ap,aD,ap,bK,aV]
 refine⟨g',m',c',l',e2,?_,ok2.mono (by omega)⟩
 by_cases b16:x.src.base=16
 ·rw[bK b16,aV]
  by_cases hi:0<=x.src.index
  ·rw[ag (gY hi),ag (cQ hi (by omega))]
   exact hfin _ (by unfold qZ;dsimp only;rw[aa b16,aa hi])
  ·rw[aq (mI hi)]
   exact hfin _ (by unfold qZ;dsimp only;rw[aa b16,ae hi])
 ·rw[aD b16,ap]
  by_cases hb0:0<=x.src.base
  ·rw[ag (gY hb0),ag (cQ hb0 (by omega))]
   by_cases hi:0<=x.src.index
   ·rw[ag (gY hi),ag (cQ hi (by omega))]
    exact hfin _ (by unfold qZ;dsimp only;rw[ae b16,aa hb0,aa hi])
   ·rw[aq (mI hi)]
    exact hfin _ (by unfold qZ;dsimp only;rw[ae b16,aa hb0,ae hi])
  ·rw[aq (mI hb0)]
   by_cases hi:0<=x.src.index
   ·rw[ag (gY hi),ag (cQ hi (by omega))]
    exact hfin _ (by unfold qZ;dsimp only;rw[ae b16,ae hb0,aa hi])
   ·rw[aq (mI hi)]
    exact hfin _ (by unfold qZ;dsimp only;rw[ae b16,ae hb0,ae hi])
theorem move_26 (hx:ExV x 26)(hz:x.size=z)(rip fl nx:Int):∃g' m' c' l',(MS.mk g m c l).move fl nx x 26 z=⟨g',m',c',l'⟩/\aO ((x,()),(g,rip,fl,nx,c,()),m,l,())=some ((),(g',rip,fl,nx,c',()),m',l',())/\(MS.mk g' m' c' l').ok (k+4):=by
 unfold MS.move aO
 dsimp only
 have hop:=hx.op
 have hz':di (z:Int)=true:=by rw[<-hz];exact hx.szs.1 (by decide)
 have hdv:=hx.dv
 rw[hz]at hdv
 obtain⟨f,hf,hf'⟩:=ux (hx.fr.1 (by decide))
 have hsv:=hx.sv
 rw[show sSz x 26=x.frm from by unfold sSz;rw[iD,aa (by rw[hf];have:=(fw hf').1;omega)],hf]at hsv
 have hfn:x.frm.toNat=f:=by rw[hf,bu]
 obtain⟨v1,c1,l1,e1,r1,ok1,I1⟩:=vZ hs (by omega) hf' hsv nx
 obtain⟨g',m',c',l',e2,r2,ok2⟩:=wE ok1 (by omega) hz' hdv (hx.kd.1 (by decide)) nx I1
 rw[iD,iD,iD,aa rfl,hfn,e1,hop,hz,hf,aD,ap,aD,ap,aD,ap,bK,aV,r1,af]
 dsimp only
 rw[r2,af]
 exact⟨g',m',c',l',e2,rfl,ok2.mono (by omega)⟩
theorem move_27 (hx:ExV x 27)(hz:x.size=z)(rip fl nx:Int):∃g' m' c' l',(MS.mk g m c l).move fl nx x 27 z=⟨g',m',c',l'⟩/\aO ((x,()),(g,rip,fl,nx,c,()),m,l,())=some ((),(g',rip,fl,nx,c',()),m',l',())/\(MS.mk g' m' c' l').ok (k+4):=by
 unfold MS.move aO
 dsimp only
 have hop:=hx.op
 have hz':di (z:Int)=true:=by rw[<-hz];exact hx.szs.1 (by decide)
 have hdv:=hx.dv
 rw[hz]at hdv
 obtain⟨f,hf,hf'⟩:=ux (hx.fr.1 (by decide))
 have hsv:=hx.sv
 rw[show sSz x 27=x.frm from by unfold sSz;rw[iD,aa (by rw[hf];have:=(fw hf').1;omega)],hf]at hsv
 have hfn:x.frm.toNat=f:=by rw[hf,bu]
 obtain⟨h1,h8⟩:=fw hf'
 obtain⟨v1,c1,l1,e1,r1,ok1,I1⟩:=vZ hs (by omega) hf' hsv nx
 obtain⟨g',m',c',l',e2,r2,ok2⟩:=wE ok1 (by omega) hz' hdv (hx.kd.1 (by decide)) nx (jv (8*f-1) (by omega) v1)
 rw[iD,iD,iD,iD,aa rfl,hfn,e1,hop,hz,hf,aD,ap,aD,ap,aD,ap,aD,ap,bK,aV,r1,af]
 dsimp only
 rw[qb _ _ (by omega) (by omega),af,show(8*(f:Int)-1).toNat=8*f-1 by omega,r2,af]
 exact⟨g',m',c',l',e2,rfl,ok2.mono (by omega)⟩
theorem move_35 (hx:ExV x 35)(hz:x.size=z)(rip fl nx:Int):∃g' m' c' l',(MS.mk g m c l).move fl nx x 35 z=⟨g',m',c',l'⟩/\aO ((x,()),(g,rip,fl,nx,c,()),m,l,())=some ((),(g',rip,fl,nx,c',()),m',l',())/\(MS.mk g' m' c' l').ok (k+4):=by
 unfold MS.move aO
 dsimp only
 have hop:=hx.op
 have hdv:=hx.dv
 rw[hx.szs.2.2.2.1 rfl]at hdv
 obtain⟨g',m',c',l',e2,r2,ok2⟩:=wE hs (by omega) (n:=1) rfl hdv (hx.kd.1 (by decide)) nx (v:=if kO x.cond fl=true then 1 else 0) (by split<;>(unfold I64;omega))
 have r2':aC ((dw x.dst (),1,if kO x.cond fl=true then 1 else 0,()),(g,rip,fl,nx,c,()),m,l,())=_:=r2 rip fl
 rw[iD,iD,iD,iD,iD,aa rfl,hop,aD,ap,aD,ap,aD,ap,aD,ap,aD,ap,bK,aV,yp hx.c0 hx.c1,af]
 dsimp only
 rw[j6,af,r2',af]
 exact⟨g',m',c',l',e2,rfl,ok2.mono (by omega)⟩
theorem move_36 (hx:ExV x 36)(hz:x.size=z)(rip fl nx:Int):∃g' m' c' l',(MS.mk g m c l).move fl nx x 36 z=⟨g',m',c',l'⟩/\aO ((x,()),(g,rip,fl,nx,c,()),m,l,())=some ((),(g',rip,fl,nx,c',()),m',l',())/\(MS.mk g' m' c' l').ok (k+4):=by
 unfold MS.move aO
 dsimp only
 have hop:=hx.op
 have hz':di (z:Int)=true:=by rw[<-hz];exact hx.szs.1 (by decide)
 have hdv:=hx.dv
 rw[hz]at hdv
 have hsv:=hx.sv
 rw[show sSz x 36=x.size from by unfold sSz;rw[iD,hx.fr.2 (by decide),iD],hz]at hsv
 obtain⟨v1,c1,l1,e1,r1,ok1,I1⟩:=vZ hs (by omega) hz' hsv nx
 have hb:∃v2 c2 l2,(if kO x.cond fl=true then(v1,MS.mk g m c1 l1)else(MS.mk g m c1 l1).rd nx x.dst z)=(v2,MS.mk g m c2 l2)/\(MS.mk g m c2 l2).ok (k+2)/\I64 v2/\
   (kO x.cond fl=true->v2=v1/\c2=c1/\l2=l1)/\(kO x.cond fl=false->∀rip fl,aH ((dw x.dst (),(z:Int),()),(g,rip,fl,nx,c1,()),m,l1,())=some (v2,(g,rip,fl,nx,c2,()),m,l2,())):=by
  by_cases hh:kO x.cond fl=true
  ·rw[aa hh]
   exact⟨v1,c1,l1,rfl,ok1.mono (by omega),I1,fun _=>⟨rfl,rfl,rfl⟩,fun h=>by rw[hh]at h;cases h⟩
  ·rw[ae hh]
   obtain⟨v2,c2,l2,e2,r2,ok2,I2⟩:=vZ ok1 (by omega) hz' hdv nx
   exact⟨v2,c2,l2,e2,ok2,I2,fun h=>ah h hh,fun _=>r2⟩
 obtain⟨v2,c2,l2,e2,ok2,I2,t1,t2⟩:=hb
 obtain⟨g',m',c',l',e3,r3,ok3⟩:=wE ok2 (by omega) hz' hdv (hx.kd.1 (by decide)) nx I2
 rw[iD,iD,iD,iD,iD,iD,aa rfl,e1,hop,hz,aD,ap,aD,ap,aD,ap,aD,ap,aD,ap,aD,ap,bK,aV,r1,af,yp hx.c0 hx.c1,af]
 dsimp only
 rw[e2]
 dsimp only
 refine⟨g',m',c',l',e3,?_,ok3.mono (by omega)⟩
 refine(Ret.bnd (Q:=fun y=>y=Sum.inl ((v2,()),(g,rip,fl,nx,c2,()),m,l2,(ew x ()),())) ?_ ?_).eq
 ·by_cases hh:kO x.cond fl=true
  ·obtain⟨rfl,rfl,rfl⟩:=t1 hh
   rw[hh,show bm true=false from rfl,ap]
   exact Ret.some rfl
  ·rw[jO.2 hh,show bm false=true from rfl,aV,t2 (jO.2 hh),af]
   exact Ret.some rfl
 rintro _ rfl
 rw[am]
 dsimp only[ew,dw,cp7]
 have hw:=r3 rip fl
 unfold dw at hw
 rw[hz,hw,af]
 exact Ret.some rfl
theorem move_39 (hx:ExV x 39)(hz:x.size=z)(rip fl nx:Int):∃g' m' c' l',(MS.mk g m c l).move fl nx x 39 z=⟨g',m',c',l'⟩/\aO ((x,()),(g,rip,fl,nx,c,()),m,l,())=some ((),(g',rip,fl,nx,c',()),m',l',())/\(MS.mk g' m' c' l').ok (k+4):=by
 unfold MS.move aO
 dsimp only
 have hop:=hx.op
 have h3:z=2\/z=4\/z=8:=by have:=hx.szs.2.1 rfl;omega
 have hz':di (z:Int)=true:=by rcases h3 with rfl|rfl|rfl<;>rfl
 have hz2:di ((z/2:Nat):Int)=true:=by rcases h3 with rfl|rfl|rfl<;>rfl
 have hq:nn .i64 (z:Int) 2=((z/2:Nat):Int):=by rw[ig (by omega) (by decide) (by omega)];omega
 obtain⟨h1,h8⟩:=fw hz2
 have hI:=jv (8*(z/2)-1) (by omega) (nC g 0 (z/2))
 rw[iD,iD,iD,iD,iD,iD,iD,aa rfl,hop,hz,aD,ap,aD,ap,aD,ap,aD,ap,aD,ap,aD,ap,aD,ap,bK,aV,vq,af]
 dsimp only
 rw[ap,hq,cG _ (z/2) hz2,af]
 dsimp only
 rw[qb _ _ (by omega) (by omega),af,af,show(8*((z/2:Nat):Int)-1).toNat=8*(z/2)-1 by omega,xu (by decide)]
 dsimp only
 rw[ap]
 refine⟨_,m,c,l,rfl,?_,⟨hs.m,dN hs.l (by omega),pi (g:=g) (r:=0) hs.g hI hz'⟩⟩
 exact G9 hz' (by decide) (fun g'=>some ((),(g',rip,fl,nx,c,()),m,l,()))
theorem move_40 (hx:ExV x 40)(hz:x.size=z)(rip fl nx:Int):∃g' m' c' l',(MS.mk g m c l).move fl nx x 40 z=⟨g',m',c',l'⟩/\aO ((x,()),(g,rip,fl,nx,c,()),m,l,())=some ((),(g',rip,fl,nx,c',()),m',l',())/\(MS.mk g' m' c' l').ok (k+4):=by
 unfold MS.move aO
 dsimp only
 have hop:=hx.op
 have hz':di (z:Int)=true:=by rw[<-hz];exact hx.szs.1 (by decide)
 have hdv:=hx.dv
 rw[hz]at hdv
 obtain⟨h1,h8⟩:=fw hz'
 have hI:=jv (8*z-1) (by omega) (nC g 0 z)
 have hI2:I64 (dC .i64 (sx (8*z-1) (nC g 0 z)) 63):=by rw[Hd hI];split<;>(unfold I64;omega)
 rw[iD,iD,iD,iD,iD,iD,iD,iD,aa rfl,hop,hz,aD,ap,aD,ap,aD,ap,aD,ap,aD,ap,aD,ap,aD,ap,aD,ap,bK,aV,vq,af]
 dsimp only
 rw[ap,cG _ z hz',af]
 dsimp only
 rw[qb _ _ (by omega) (by omega),af,isHigh2,af,show(8*(z:Int)-1).toNat=8*z-1 by omega,xu (by decide)]
 dsimp only
 rw[ap]
 refine⟨_,m,c,l,rfl,?_,⟨hs.m,dN hs.l (by omega),pi (g:=g) (r:=2) hs.g hI2 hz'⟩⟩
 exact G9 hz' (by decide) (fun g'=>some ((),(g',rip,fl,nx,c,()),m,l,()))
end
end
noncomputable section
theorem zero1 (v:Int):aj ((v,1,()),())=some (cR v 1,()):=cG v 1 rfl
theorem set_c0 {g:List Int}{v:Int}{n:Nat}(hn:di (n:Int)=true){α:Type}(Z:List Int->Option α):
  (br (leI 4 (n:Int)) (bnd (aj ((v,(n:Int),()),())) (fun x32=>Z (eM (gj 16 (aJ .i) g) 0 x32.1))) (bnd (aj ((v,(n:Int),()),())) (fun x33=>bnd (some (nC g 0 n,())) (fun x34=>Z (eM (gj 16 (aJ .i) g) 0 (aL .i64 (bk g 0 (aJ .i)) (bo .i64 x33.1 x34.1)))))))=Z (wc g 0 n v):=by
 have:=G9 (g:=g) (r:=0) (v:=v) hn (by decide) Z
 rw[cG (bk g 0 (aJ .i)) n hn,xu (by decide)]at this
 exact this
def setF {α:Type}(g:List Int)(r:Int)(n:Nat)(v:Int)(Z:List Int->Option α):Option α:=
 (bnd (aS ((r,()),())) (fun x8=>br x8.1 (br (inR (bo .i64 r 16) 16) (bnd (aj ((v,1,()),())) (fun x9=>Z (eM (gj 16 (aJ .i) g) (bo .i64 r 16) (ior .i64 (jy .i64 (bk g (bo .i64 r 16) (aJ .i)) 65280) (eW .i64 x9.1 8))))) none) (br (leI 4 (n:Int)) (bnd (aj ((v,(n:Int),()),())) (fun x10=>br (inR r 16) (Z (eM (gj 16 (aJ .i) g) r x10.1)) none)) (br (inR r 16) (br (inR r 16) (bnd (aj ((v,(n:Int),()),())) (fun x11=>bnd (aj (((bk g r (aJ .i)),(n:Int),()),())) (fun x12=>br (inR r 16) (Z (eM (gj 16 (aJ .i) g) r (aL .i64 (bk g r (aJ .i)) (bo .i64 x11.1 x12.1)))) none))) none) none))))
theorem Ce {g:List Int}{r v:Int}{n:Nat}(hn:di (n:Int)=true)(hr:sE r n){α:Type}(Z:List Int->Option α):setF g r n v Z=Z (wc g r n v):=set_m hn hr Z
def upZ (z:Nat):Int:=if z=1 then 16 else 2
def MS.wide (s:MS)(fl nx:Int)(x:Ins)(n z:Nat):MS×Int:=
 let b:=s.rd nx x.src z
 if n=13\/n=14 then
  let r:=vI n z (nC s.g 0 z) b.1 fl
  ({b.2 with g:=wc (wc s.g 0 z r.1) (upZ z) z r.2.1},r.2.2)
 else
  let r:=xX n z (nC s.g (upZ z) z) (nC s.g 0 z) b.1
  ({b.2 with g:=wc (wc s.g 0 z r.1) (upZ z) z r.2.1,code:=if r.2.2=false/\b.2.code=0 then 16 else b.2.code},fl)
theorem JY (z:Nat):ls (((z:Int),()),())=some (upZ z,()):=by
 unfold ls upZ
 dsimp only
 by_cases h:z=1
 ·rw[bK,aV,aa h]
 ·rw[aD,ap,ae h]
theorem tN (z:Nat):sE (upZ z) z:=by
 unfold upZ sE
 split<;>omega
theorem wide_m {g:List Int}{m:List Page}{c:Int}{l:List Acc}{k:Nat}(hs:(MS.mk g m c l).ok k)(hk:k+4<=1000){x:Ins}{n z:Nat}(hx:ExV x n)(hn:13<=n/\n<=16)(hz:x.size=z)
  {fl:Int} (hI:I64 fl) (hf:ct fl=true) (rip nx:Int):
  ∃g' m' c' l' fl',(MS.mk g m c l).wide fl nx x n z=(⟨g',m',c',l'⟩,fl')/\eH ((x,()),(g,rip,fl,nx,c,()),m,l,())=some ((),(g',rip,fl',nx,c',()),m',l',())/\(MS.mk g' m' c' l').ok (k+4)/\I64 fl'/\ct fl'=true:=by
 have hz':di (z:Int)=true:=by rw[<-hz];exact hx.szs.1 (by omega)
 have hsv:=hx.sv
 rw[show sSz x n=x.size from by unfold sSz;rw[iN,hx.fr.2 (by omega),iD],hz]at hsv
 obtain⟨v1,c1,l1,e1,r1,ok1,I1⟩:=vZ hs (by omega) hz' hsv nx
 have hgI:∀r,I64 (nC g r z):=fun r=>yn (g:=g) hs.g hz'
 unfold MS.wide eH
 dsimp only
 have hop:=hx.op
 rw[e1,hop,hz,r1,af,JY,af]
 dsimp only
 have hb:br (eqI (n:Int) 13) (some true) (some (eqI (n:Int) 14))=some (decide (n=13\/n=14)):=by
  by_cases a:n=13
  ·rw[bK,aV,dT]
  ·rw[aD,ap]
   by_cases b:n=14
   ·rw[bK,dT]
   ·rw[aD,dF]
 rw[hb,af]
 by_cases hm:n=13\/n=14
 ·rw[aF hm,aV,vq,af,aa hm]
  dsimp only
  rw[ap,cG _ z hz',af,xu (by decide)]
  dsimp only
  rw[vJ hz' (hgI 0) I1 hI hf,af,af]
  dsimp only
  rw[ap]
  obtain⟨o1,o2,o3,o4⟩:=yF (op:=n) (n:=z) (a:=nC g 0 z) (b:=v1) hI hf
  obtain⟨p,hp⟩:∃p,p=vI n z (nC g 0 z) v1 fl:=⟨_,rfl⟩
  rw[<-hp]at o1 o2 o3 o4|-
  obtain⟨lo,hi,f'⟩:=p
  clear hp
  dsimp only at o1 o2 o3 o4|-
  refine⟨_,m,c1,l1,f',rfl,?_,⟨ok1.m,dN ok1.l (by omega),pi (g:=wc g 0 z lo) (pi (g:=g) hs.g o1 hz') o2 hz'⟩,o4,o3⟩
  exact(set_c0 (g:=g) (v:=lo) hz' (fun g'=>setF g' (upZ z) z hi (fun g''=>some ((),(g'',rip,f',nx,c1,()),m,l1,())))).trans (Ce hz' (tN z) _)
 ·rw[aP hm,ap,ae hm]
  obtain⟨o1,o2⟩:=CJ (op:=n) (n:=z) (hi:=nC g (upZ z) z) (lo:=nC g 0 z) (d:=v1)
  have hd:=FC (op:=n) (n:=z) (hi:=nC g (upZ z) z) (lo:=nC g 0 z) (d:=v1) hz' (hgI _) (hgI _) I1
  obtain⟨p,hp⟩:∃p,p=xX n z (nC g (upZ z) z) (nC g 0 z) v1:=⟨_,rfl⟩
  rw[<-hp]at o1 o2 hd|-
  obtain⟨q,r,ok⟩:=p
  clear hp
  dsimp only at o1 o2 hd|-
  obtain⟨c2,hc2⟩:∃c2,c2=if ok=false/\c1=0 then 16 else c1:=⟨_,rfl⟩
  rw[<-hc2]
  refine⟨_,m,c2,l1,fl,rfl,?_,⟨ok1.m,dN ok1.l (by omega),pi (g:=wc g 0 z q) (pi (g:=g) hs.g o1 hz') o2 hz'⟩,hI,hf⟩
  have hbr:br (bm ok) (some (eqI c1 0)) (some false)=some (decide (ok=false/\c1=0)):=by
   cases ok with
   |true=>rfl
   |false=>rw[show bm false=true from rfl,aV];unfold eqI;simp only[true_and]
  rw[pJ,af]
  dsimp only
  have hget:nC g (upZ z) z=if z=1 then cR (dC .i64 (bk g 0 (aJ .i)) 8) 1 else cR (bk g 2 (aJ .i)) z:=by
   unfold nC upZ
   by_cases h:z=1
   ·rw[aa h,aa h,aa (by decide)];rfl
   ·rw[ae h,ae h,iD]
  by_cases h1:z=1
  ·rw[aa h1]at hget
   have hu:upZ z=16:=aa h1
   have hhi:decide (16<=upZ z/\upZ z<=19)=true:=by rw[hu];decide
   rw[hhi,aV,ag (show inR (bo .i64 (upZ z) 16) 16=true by rw[hu];rfl),show bo .i64 (upZ z) 16=0 by rw[hu];rfl,zero1 (dC .i64 (bk g 0 (aJ .i)) 8),af,<-hget]
   dsimp only
   rw[vq,af]
   dsimp only
   rw[ap,cG _ z hz',af,xu (r:=0) (by decide)]
   dsimp only
   rw[hd,af]
   dsimp only
   rw[hbr,af]
   refine(Ret.bnd (Q:=fun y=>y=Sum.inl ((upZ z,q,r,()),(g,rip,fl,nx,c2,()),m,l1,(ew x ()),())) ?_ ?_).eq
   ·by_cases hcc:ok=false/\c1=0
    ·rw[aF hcc,aV,hc2,aa hcc]
     exact Ret.some rfl
    ·rw[aP hcc,ap,hc2,ae hcc]
     exact Ret.some rfl
   rintro _ rfl
   rw[am]
   dsimp only[ew,dw]
   rw[af,hz]
   dsimp only
   rw[ap]
   refine Ret.of_eq ((G9 (g:=g) (r:=0) (v:=q) hz' (by decide) (fun g'=>setF g' (upZ z) z r (fun g''=>some ((),(g'',rip,fl,nx,c2,()),m,l1,())))).trans (Ce hz' (tN z) _)) rfl
  ·rw[ae h1]at hget
   have hu:upZ z=2:=ae h1
   have hhi:decide (16<=upZ z/\upZ z<=19)=false:=by rw[hu];decide
   rw[hhi,ap,ag (show inR (upZ z) 16=true by rw[hu];rfl),cG (bk g (upZ z) (aJ .i)) z hz',af,show cR (bk g (upZ z) (aJ .i)) z=nC g (upZ z) z by rw[hget,hu]]
   dsimp only
   rw[vq,af]
   dsimp only
   rw[ap,cG _ z hz',af,xu (r:=0) (by decide)]
   dsimp only
   rw[hd,af]
   dsimp only
   rw[hbr,af]
   refine(Ret.bnd (Q:=fun y=>y=Sum.inl ((upZ z,q,r,()),(g,rip,fl,nx,c2,()),m,l1,(ew x ()),())) ?_ ?_).eq
   ·by_cases hcc:ok=false/\c1=0
    ·rw[aF hcc,aV,hc2,aa hcc]
     exact Ret.some rfl
    ·rw[aP hcc,ap,hc2,ae hcc]
     exact Ret.some rfl
   rintro _ rfl
   rw[am]
   dsimp only[ew,dw]
   rw[af,hz]
   dsimp only
   rw[ap]
   refine Ret.of_eq ((G9 (g:=g) (r:=0) (v:=q) hz' (by decide) (fun g'=>setF g' (upZ z) z r (fun g''=>some ((),(g'',rip,fl,nx,c2,()),m,l1,())))).trans (Ce hz' (tN z) _)) rfl
end
noncomputable section
def mvB (n:Nat):Bool:=decide (n=9\/n=28\/n=25\/n=26\/n=27\/n=35\/n=36\/n=39\/n=40)
def wdB (n:Nat):Bool:=decide (n=13\/n=14\/n=15\/n=16)
def fwB (n:Nat):Bool:=decide (n=29\/n=30\/n=31\/n=34\/n=32\/n=33\/n=41\/n=42\/n=38\/n=43\/n=44\/n=37)
def exM (g:List Int)(rip fl:Int)(m:List Page)(x:Ins)(n z:Nat):MS×Int×Int:=
 let nx:=aL .i64 rip x.len
 let s:MS:=⟨g,m,0,[]⟩
 if mvB n=true then(s.move fl nx x n z,nx,fl)
 else if wdB n=true then((s.wide fl nx x n z).1,nx,(s.wide fl nx x n z).2)
 else if fwB n=true then((s.flow nx fl nx x n).1,(s.flow nx fl nx x n).2,fl)
 else((s.reck nx fl x n z).1,nx,(s.reck nx fl x n z).2)
def exR (g:List Int)(rip fl:Int)(m:List Page)(r:MS×Int×Int):((List Int×Int×Int×Unit)×Unit×Int×Unit)×List Page×List Acc×Unit:=
 if r.1.code≠0 then(((g,rip,fl,()),(),r.1.code,()),m,r.1.l,())else(((r.1.g,r.2.1,r.2.2,()),(),0,()),r.1.m,r.1.l,())
abbrev exT (g:List Int)(rip fl:Int)(m:List Page)(x:Ins):(List Int×Int×Int×Unit)×(List Page×Unit)×(Int×Int×Int×Int×Int×Int×Int×Int×Int×Int×Int×Int×Int×Int×Int×Int×Int×Int×Int×Unit)×(List Int×Int×Int×Unit)×Unit×TM:=
 (((g,rip,fl,()):List Int×Int×Int×Unit),(m,()),(ew x ()),(([]:List Int),0,0,()),(),(g,aL .i64 rip x.len,fl,aL .i64 rip x.len,0,()),m,([]:List Acc),())
theorem exec_m {g:List Int}{rip fl:Int}{m:List Page}{x:Ins}{n z:Nat}(hm:MemT m)(hg:lj g)(hI:I64 fl)(hf:ct fl=true)(hx:ExV x n)(hz:x.size=z):
  mN (((g,rip,fl,()),(m,()),x,()),())=some (exR g rip fl m (exM g rip fl m x n z))/\(exM g rip fl m x n z).1.ok 4/\ct (exM g rip fl m x n z).2.2=true/\I64 (exM g rip fl m x n z).2.2:=by
 have hs:(MS.mk g m 0 []).ok 0:=⟨hm,bV 0,hg⟩
 have hop:=hx.op
 have h1:=hx.n1
 have h2:=hx.n2
 have F4:(m8 (ew x ()))=x:=rfl
 have key:∃g' m' c' l' rip' fl',exM g rip fl m x n z=(⟨g',m',c',l'⟩,rip',fl')/\(MS.mk g' m' c' l').ok 4/\ct fl'=true/\I64 fl'/\
   (mvB n=true->rip'=aL .i64 rip x.len/\fl'=fl/\aO ((x,()),(g,aL .i64 rip x.len,fl,aL .i64 rip x.len,0,()),m,([]:List Acc),())=some ((),(g',aL .i64 rip x.len,fl,aL .i64 rip x.len,c',()),m',l',()))/\
   (mvB n=false->wdB n=true->rip'=aL .i64 rip x.len/\eH ((x,()),(g,aL .i64 rip x.len,fl,aL .i64 rip x.len,0,()),m,([]:List Acc),())=some ((),(g',aL .i64 rip x.len,fl',aL .i64 rip x.len,c',()),m',l',()))/\
   (mvB n=false->wdB n=false->fwB n=true->fl'=fl/\aA ((x,()),(g,aL .i64 rip x.len,fl,aL .i64 rip x.len,0,()),m,([]:List Acc),())=some ((),(g',rip',fl,aL .i64 rip x.len,c',()),m',l',()))/\
   (mvB n=false->wdB n=false->fwB n=false->rip'=aL .i64 rip x.len/\dK ((x,()),(g,aL .i64 rip x.len,fl,aL .i64 rip x.len,0,()),m,([]:List Acc),())=some ((),(g',aL .i64 rip x.len,fl',aL .i64 rip x.len,c',()),m',l',())):=by
  unfold exM
  dsimp only
  cases hmv:mvB n with
  |true=>
   rw[aa rfl]
   have hn:=bh hmv
   have hmove:∃g' m' c' l',(MS.mk g m 0 []).move fl (aL .i64 rip x.len) x n z=⟨g',m',c',l'⟩/\aO ((x,()),(g,aL .i64 rip x.len,fl,aL .i64 rip x.len,0,()),m,[],())=some ((),(g',aL .i64 rip x.len,fl,aL .i64 rip x.len,c',()),m',l',())/\(MS.mk g' m' c' l').ok (0+4):=by
    rcases hn with rfl|rfl|rfl|rfl|rfl|rfl|rfl|rfl|rfl
    ·exact move_9 hs (by decide) hx hz _ fl _
    ·exact move_28 hs (by decide) hx hz _ fl _
    ·exact move_25 hs (by decide) hx hz _ fl _
    ·exact move_26 hs (by decide) hx hz _ fl _
    ·exact move_27 hs (by decide) hx hz _ fl _
    ·exact move_35 hs (by decide) hx hz _ fl _
    ·exact move_36 hs (by decide) hx hz _ fl _
    ·exact move_39 hs (by decide) hx hz _ fl _
    ·exact move_40 hs (by decide) hx hz _ fl _
   obtain⟨g',m',c',l',e,r,ok⟩:=hmove
   exact⟨g',m',c',l',_,fl,by rw[e],ok,hf,hI,fun _=>⟨rfl,rfl,r⟩,(fun h=>by cases h),(fun h=>by cases h),(fun h=>by cases h)⟩
  |false=>
   rw[iD]
   cases hwd:wdB n with
   |true=>
    rw[aa rfl]
    have hn:=bh hwd
    obtain⟨g',m',c',l',fl',e,r,ok,fI,ff⟩:=wide_m hs (by decide) hx (by omega) hz hI hf (aL .i64 rip x.len) (aL .i64 rip x.len)
    exact⟨g',m',c',l',_,fl',by rw[e],ok,ff,fI,(fun h=>by cases h),fun _ _=>⟨rfl,r⟩,(fun _ h=>by cases h),(fun _ h=>by cases h)⟩
   |false=>
    rw[iD]
    cases hfw:fwB n with
    |true=>
     rw[aa rfl]
     have hn:=bh hfw
     have hflow:∃g' m' c' l' rip',(MS.mk g m 0 []).flow (aL .i64 rip x.len) fl (aL .i64 rip x.len) x n=(⟨g',m',c',l'⟩,rip')/\aA ((x,()),(g,aL .i64 rip x.len,fl,aL .i64 rip x.len,0,()),m,[],())=some ((),(g',rip',fl,aL .i64 rip x.len,c',()),m',l',())/\(MS.mk g' m' c' l').ok (0+3):=by
      rcases hn with rfl|rfl|rfl|rfl|rfl|rfl|rfl|rfl|rfl|rfl|rfl|rfl
      ·exact flow_29 hs (by decide) hx _ fl _
      ·exact flow_30 hs (by decide) hx _ fl _
      ·exact flow_31 hs (by decide) hx _ fl _
      ·exact flow_34 hs (by decide) hx _ fl _
      ·exact flow_32 hs (by decide) hx _ fl _
      ·exact flow_33 hs (by decide) hx _ fl _
      ·exact flow_41 hs (by decide) hx _ fl _
      ·exact flow_42 hs (by decide) hx _ fl _
      ·exact flow_38 hs (by decide) hx _ fl _
      ·exact flow_43 hs (by decide) hx _ fl _
      ·exact flow_44 hs (by decide) hx _ fl _
      ·exact flow_37 hs (by decide) hx _ fl _
     obtain⟨g',m',c',l',rip',e,r,ok⟩:=hflow
     exact⟨g',m',c',l',rip',fl,by rw[e],ok.mono (by decide),hf,hI,(fun h=>by cases h),(fun _ h=>by cases h),fun _ _ _=>⟨rfl,r⟩,(fun _ _ h=>by cases h)⟩
    |false=>
     rw[iD]
     have n1:=of_decide_eq_false hmv
     have n2:=of_decide_eq_false hwd
     have n3:=of_decide_eq_false hfw
     obtain⟨g',m',c',l',fl',e,r,ok,fI,ff⟩:=reck_m hs (by decide) hx (by omega) hz hI hf (aL .i64 rip x.len)
     exact⟨g',m',c',l',_,fl',by rw[e],ok.mono (by decide),ff,fI,(fun h=>by cases h),(fun _ h=>by cases h),(fun _ _ h=>by cases h),fun _ _ _=>⟨rfl,r _⟩⟩
 obtain⟨g',m',c',l',rip',fl',e,ok,ff,fI,k1,k2,k3,k4⟩:=key
 rw[e]
 refine⟨?_,ok,ff,fI⟩
 unfold mN
 dsimp only
 rw[tp m (by have:=hm.len;omega),af,hop]
 dsimp only
 refine(Ret.bnd (Q:=fun y=>y=Sum.inl (((n:Int),mvB n,()),exT g rip fl m x)) ?_ ?_).eq
 ·by_cases h9:n=9
  ·rw[bK,aV,show mvB n=true from dT]
   exact Ret.some rfl
  rw[aD,ap]
  refine Ret.bnd (Q:=fun y=>y=Sum.inl (((n:Int),mvB n,()),exT g rip fl m x)) ?_ (by rintro _ rfl;rw[am];exact Ret.some rfl)
  by_cases h28:n=28
  ·rw[bK,aV,show mvB n=true from dT]
   exact Ret.some rfl
  rw[aD,ap]
  refine Ret.bnd (Q:=fun y=>y=Sum.inl (((n:Int),mvB n,()),exT g rip fl m x)) ?_ (by rintro _ rfl;rw[am];exact Ret.some rfl)
  by_cases h25:n=25
  ·rw[bK,aV,show mvB n=true from dT]
   exact Ret.some rfl
  rw[aD,ap]
  refine Ret.bnd (Q:=fun y=>y=Sum.inl (((n:Int),mvB n,()),exT g rip fl m x)) ?_ (by rintro _ rfl;rw[am];exact Ret.some rfl)
  by_cases h26:n=26
  ·rw[bK,aV,show mvB n=true from dT]
   exact Ret.some rfl
  rw[aD,ap]
  refine Ret.bnd (Q:=fun y=>y=Sum.inl (((n:Int),mvB n,()),exT g rip fl m x)) ?_ (by rintro _ rfl;rw[am];exact Ret.some rfl)
  by_cases h27:n=27
  ·rw[bK,aV,show mvB n=true from dT]
   exact Ret.some rfl
  rw[aD,ap]
  refine Ret.bnd (Q:=fun y=>y=Sum.inl (((n:Int),mvB n,()),exT g rip fl m x)) ?_ (by rintro _ rfl;rw[am];exact Ret.some rfl)
  by_cases h35:n=35
  ·rw[bK,aV,show mvB n=true from dT]
   exact Ret.some rfl
  rw[aD,ap]
  refine Ret.bnd (Q:=fun y=>y=Sum.inl (((n:Int),mvB n,()),exT g rip fl m x)) ?_ (by rintro _ rfl;rw[am];exact Ret.some rfl)
  by_cases h36:n=36
  ·rw[bK,aV,show mvB n=true from dT]
   exact Ret.some rfl
  rw[aD,ap]
  refine Ret.bnd (Q:=fun y=>y=Sum.inl (((n:Int),mvB n,()),exT g rip fl m x)) ?_ (by rintro _ rfl;rw[am];exact Ret.some rfl)
  by_cases h39:n=39
  ·rw[bK,aV,show mvB n=true from dT]
   exact Ret.some rfl
  rw[aD,ap]
  rw[show eqI (n:Int) 40=mvB n from by unfold eqI;unfold mvB;rw[bv,aG,aG];omega]
  exact Ret.some rfl
 rintro _ rfl
 rw[am]
 dsimp only[d6,p6,exT]
 rw[F4]
 refine Ret.bnd (Q:=fun y=>y=Sum.inl ((),((g,rip,fl,()):List Int×Int×Int×Unit),(m,()),(([]:List Int),0,0,()),(),(g',rip',fl',aL .i64 rip x.len,c',()),m',l',())) ?_ ?_
 ·cases hmv:mvB n with
  |true=>
   obtain⟨rfl,rfl,r⟩:=k1 hmv
   rw[aV,r,af]
   exact Ret.some rfl
  |false=>
   rw[ap]
   refine Ret.bnd (Q:=fun y=>y=Sum.inl (((n:Int),wdB n,()),exT g rip fl m x)) ?_ ?_
   ·by_cases h13:n=13
    ·rw[bK,aV,show wdB n=true from dT]
     exact Ret.some rfl
    rw[aD,ap]
    refine Ret.bnd (Q:=fun y=>y=Sum.inl (((n:Int),wdB n,()),exT g rip fl m x)) ?_ (by rintro _ rfl;rw[am];exact Ret.some rfl)
    by_cases h14:n=14
    ·rw[bK,aV,show wdB n=true from dT]
     exact Ret.some rfl
    rw[aD,ap]
    refine Ret.bnd (Q:=fun y=>y=Sum.inl (((n:Int),wdB n,()),exT g rip fl m x)) ?_ (by rintro _ rfl;rw[am];exact Ret.some rfl)
    by_cases h15:n=15
    ·rw[bK,aV,show wdB n=true from dT]
     exact Ret.some rfl
    rw[aD,ap]
    rw[show eqI (n:Int) 16=wdB n from by unfold eqI;unfold wdB;rw[bv,aG,aG];omega]
    exact Ret.some rfl
   rintro _ rfl
   rw[am]
   dsimp only[d6,p6,exT]
   rw[F4]
   refine Ret.bnd (Q:=fun y=>y=Sum.inl ((),((g,rip,fl,()):List Int×Int×Int×Unit),(m,()),(([]:List Int),0,0,()),(),(g',rip',fl',aL .i64 rip x.len,c',()),m',l',())) ?_ (by rintro _ rfl;rw[am];exact Ret.some rfl)
   cases hwd:wdB n with
   |true=>
    obtain⟨rfl,r⟩:=k2 hmv hwd
    rw[aV,r,af]
    exact Ret.some rfl
   |false=>
    rw[ap]
    refine Ret.bnd (Q:=fun y=>y=Sum.inl ((fwB n,()),exT g rip fl m x)) ?_ ?_
    ·by_cases h29:n=29
     ·rw[bK,aV,show fwB n=true from dT]
      exact Ret.some rfl
     rw[aD,ap]
     refine Ret.bnd (Q:=fun y=>y=Sum.inl ((fwB n,()),exT g rip fl m x)) ?_ (by rintro _ rfl;rw[am];exact Ret.some rfl)
     by_cases h30:n=30
     ·rw[bK,aV,show fwB n=true from dT]
      exact Ret.some rfl
     rw[aD,ap]
     refine Ret.bnd (Q:=fun y=>y=Sum.inl ((fwB n,()),exT g rip fl m x)) ?_ (by rintro _ rfl;rw[am];exact Ret.some rfl)
     by_cases h31:n=31
     ·rw[bK,aV,show fwB n=true from dT]
      exact Ret.some rfl
     rw[aD,ap]
     refine Ret.bnd (Q:=fun y=>y=Sum.inl ((fwB n,()),exT g rip fl m x)) ?_ (by rintro _ rfl;rw[am];exact Ret.some rfl)
     by_cases h34:n=34
     ·rw[bK,aV,show fwB n=true from dT]
      exact Ret.some rfl
     rw[aD,ap]
     refine Ret.bnd (Q:=fun y=>y=Sum.inl ((fwB n,()),exT g rip fl m x)) ?_ (by rintro _ rfl;rw[am];exact Ret.some rfl)
     by_cases h32:n=32
     ·rw[bK,aV,show fwB n=true from dT]
      exact Ret.some rfl
     rw[aD,ap]
     refine Ret.bnd (Q:=fun y=>y=Sum.inl ((fwB n,()),exT g rip fl m x)) ?_ (by rintro _ rfl;rw[am];exact Ret.some rfl)
     by_cases h33:n=33
     ·rw[bK,aV,show fwB n=true from dT]
      exact Ret.some rfl
     rw[aD,ap]
     refine Ret.bnd (Q:=fun y=>y=Sum.inl ((fwB n,()),exT g rip fl m x)) ?_ (by rintro _ rfl;rw[am];exact Ret.some rfl)
     by_cases h41:n=41
     ·rw[bK,aV,show fwB n=true from dT]
      exact Ret.some rfl
     rw[aD,ap]
     refine Ret.bnd (Q:=fun y=>y=Sum.inl ((fwB n,()),exT g rip fl m x)) ?_ (by rintro _ rfl;rw[am];exact Ret.some rfl)
     by_cases h42:n=42
     ·rw[bK,aV,show fwB n=true from dT]
      exact Ret.some rfl
     rw[aD,ap]
     refine Ret.bnd (Q:=fun y=>y=Sum.inl ((fwB n,()),exT g rip fl m x)) ?_ (by rintro _ rfl;rw[am];exact Ret.some rfl)
     by_cases h38:n=38
     ·rw[bK,aV,show fwB n=true from dT]
      exact Ret.some rfl
     rw[aD,ap]
     refine Ret.bnd (Q:=fun y=>y=Sum.inl ((fwB n,()),exT g rip fl m x)) ?_ (by rintro _ rfl;rw[am];exact Ret.some rfl)
     by_cases h43:n=43
     ·rw[bK,aV,show fwB n=true from dT]
      exact Ret.some rfl
     rw[aD,ap]
     refine Ret.bnd (Q:=fun y=>y=Sum.inl ((fwB n,()),exT g rip fl m x)) ?_ (by rintro _ rfl;rw[am];exact Ret.some rfl)
     by_cases h44:n=44
     ·rw[bK,aV,show fwB n=true from dT]
      exact Ret.some rfl
     rw[aD,ap]
     rw[show eqI (n:Int) 37=fwB n from by unfold eqI;unfold fwB;rw[bv,aG,aG];omega]
     exact Ret.some rfl
    rintro _ rfl
    rw[am]
    dsimp only[d6,p6,exT]
    rw[F4]
    refine Ret.bnd (Q:=fun y=>y=Sum.inl ((),((g,rip,fl,()):List Int×Int×Int×Unit),(m,()),(([]:List Int),0,0,()),(),(g',rip',fl',aL .i64 rip x.len,c',()),m',l',())) ?_ (by rintro _ rfl;rw[am];exact Ret.some rfl)
    cases hfw:fwB n with
    |true=>
     obtain⟨rfl,r⟩:=k3 hmv hwd hfw
     rw[aV,r,af]
     exact Ret.some rfl
    |false=>
     obtain⟨rfl,r⟩:=k4 hmv hwd hfw
     rw[ap,r,af]
     exact Ret.some rfl
 rintro _ rfl
 rw[am]
 dsimp only[d5,p5,d6,d7]
 unfold exR
 dsimp only
 by_cases hc:c'=0
 ·rw[hc,bK rfl,eu,ap,iD]
  exact Ret.some rfl
 ·rw[aD hc,eF,aV,aa hc,tp m (by have:=hm.len;omega),af]
  exact Ret.some rfl
end
noncomputable section
theorem rM {c f:Int}(h0:0<=c)(h1:c<=15):eO ((c,f,()),())=some (kO c f,()):=by
 unfold eO
 dsimp only
 have hs:∀b,bm (eqI (dP .i64 f b) 0)=oY f b:=fun b=>by
  unfold oY
  cases eqI (dP .i64 f b) 0<;>rfl
 simp only[hs]
 have o1:br (oY f 1) (some true) (some (oY f 64))=some (oY f 1||oY f 64):=by cases oY f 1<;>rfl
 have o2:br (oY f 64) (some true) (some (bm (eqB (oY f 128) (oY f 2048))))=some (oY f 64||(oY f 128 != oY f 2048)):=by rw[neB];cases oY f 64<;>rfl
 rw[o1,af,o2,af,ig h0 (by decide) (by omega),ag (cQ),cS h0,neB]
 congr 2
theorem gU (a b:Int):bD ((a,b,()),())=some (aL .i64 a b,()):=by
 unfold bD
 dsimp only
 congr 2
 unfold an
 rw[Fb]
 unfold aL
 refine oR ?_
 rw[gB,gB]
 omega
theorem vE {g:List Int}{rip fl r:Int}{n:Nat}(hg:lj g)(hn:di (n:Int)=true)(hr:sE r n):fY (((g,rip,fl,()),r,(n:Int),()),())=some (nC g r n,()):=by
 unfold sE at hr
 unfold fY nC
 dsimp only
 by_cases h16:16<=r
 ·rw[gY h16,aV,aa h16,bN,ag (cQ)]
  have h1:=cc (v:=an .i64 (dC .u64 (an .u64 (bk g (r-16) (aJ .i))) 8)) (jW _) 1 rfl
  have h1':au (((an .i64 (dC .u64 (an .u64 (bk g (r-16) (aJ .i))) 8)),1,()),())=_:=h1
  rw[h1',af]
  have hI:=hg (r-16)
  obtain⟨v,hv⟩:∃v,v=bk g (r-16) (aJ .i):=⟨_,rfl⟩
  rw[<-hv]
  have hI:I64 v:=by rw[hv];exact hI
  unfold I64 at hI
  have e:cR (an .i64 (dC .u64 (an .u64 v) 8)) 1=cR (dC .i64 v 8) 1:=by
   unfold cR
   rw[iD,iD]
   have hs:dC .u64 (an .u64 v) 8=an .u64 v/256:=wg _ 8 (by decide)
   have hs2:dC .i64 v 8=v/256:=by
    unfold dC
    rw[show(2:Int)^min (Int.toNat 8) IntKind.i64.bits=256 from rfl,i7 _ (by decide)]
   rw[hs,hs2]
   have hw:an .u64 v=v%18446744073709551616:=gB
   rw[hw,show(2:Int)^(8*1)=256 from rfl]
   have:=qj (v%18446744073709551616/256)
   unfold an
   omega
  rw[e,hv]
 ·rw[mI h16,ap,ae h16,ag (cQ),cc (hg r) n hn,af]
end
noncomputable section
theorem xQ {a b:Int}(h:a%18446744073709551616=b%18446744073709551616):BitVec.ofInt 64 a=BitVec.ofInt 64 b:=by
 apply qv
 rw[gd,gd]
 show(a%18446744073709551616).toNat=(b%18446744073709551616).toNat
 rw[h]
theorem zS {a b c d:Int}(h1:a%18446744073709551616=c%18446744073709551616)(h2:b%18446744073709551616=d%18446744073709551616):an .i64 (ior .u64 a b)=ior .i64 c d:=by
 unfold ior an
 refine oR ?_
 rw[gB,j9]
 show((BitVec.ofInt 64 a|||BitVec.ofInt 64 b).toNat:Int)%_=((BitVec.ofInt 64 c|||BitVec.ofInt 64 d).toNat:Int)%_
 rw[xQ h1,xQ h2]
theorem vh {a b m:Int}(h:a%18446744073709551616=b%18446744073709551616):jy .u64 a m%18446744073709551616=jy .i64 b m%18446744073709551616:=by
 unfold jy
 rw[gB,j9,qj]
 show((BitVec.ofInt 64 a&&& ~~~BitVec.ofInt 64 m).toNat:Int)%_=((BitVec.ofInt 64 b&&& ~~~BitVec.ofInt 64 m).toNat:Int)%_
 rw[xQ h]
theorem F5 (a:Int)(k:Nat)(hk:k<=63):uns (jy .i64 a ((2^k-1:Nat):Int))=2^k*(uns a/2^k):=by
 unfold jy
 rw[cT]
 show uns (((BitVec.ofInt 64 a&&& ~~~BitVec.ofInt 64 ((2^k-1:Nat):Int)).toNat:Nat):Int)=_
 rw[gX (BitVec.isLt _)]
 have hm:(BitVec.ofInt 64 ((2^k-1:Nat):Int)).toNat=2^k-1:=by
  have hlt:2^k-1<2^64:=dB (Nat.sub_lt (cE k) (by decide)) (cX (by decide) (by omega))
  rw[gd]
  have:(((2^k-1:Nat):Int)%((2^64:Nat):Int))=(((2^k-1)%2^64:Nat):Int):=(dM ..).symm
  rw[this,bu,cb hlt]
 refine Nat.eq_of_testBit_eq fun i=>?_
 rw[<-BitVec.getLsbD,oh,BitVec.getLsbD_not]
 rw[BitVec.getLsbD,BitVec.getLsbD,hm,Nat.testBit_two_pow_sub_one,Nat.testBit_two_pow_mul]
 show((uns a).testBit i&&_)=_
 rw[Nat.testBit_div_two_pow]
 by_cases h:i<64
 ·by_cases hki:k<=i
  ·rw[aF h,dF,aF hki,show i-k+k=i by omega];simp
  ·rw[aF h,aF (show i<k by omega),aP hki];simp
 ·have:(uns a).testBit i=false:=Nat.testBit_lt_two_pow (dB (gA a) (cX (by decide) (by omega)))
  by_cases hki:k<=i
  ·rw[this,aF hki,show i-k+k=i by omega,this];simp
  ·omega
theorem set_low {x v:Int}{n:Nat}(hn:n=1\/n=2)(hx:I64 x)(hv:I64 v)(m:Int)(hm:m=((2^(8*n)-1:Nat):Int)):
  an .i64 (ior .u64 (jy .u64 (an .u64 x) m) (eW .u64 (an .u64 (cR v n)) 0))=aL .i64 x (bo .i64 (cR v n) (cR x n)):=by
 have hs:di (n:Int)=true:=by rcases hn with rfl|rfl<;>rfl
 have hw:∀z:Int,an .u64 z=z%18446744073709551616:=fun z=>gB
 have e0:eW .u64 (an .u64 (cR v n)) 0=an .u64 (cR v n)%18446744073709551616:=by
  have:=Dx (an .u64 (cR v n)) 0 (by decide)
  rw[Int.pow_zero,Int.mul_one]at this
  exact this
 have h1:=vh (a:=an .u64 x) (b:=x) (m:=m) (by rw[hw];omega)
 have h2:eW .u64 (an .u64 (cR v n)) 0%18446744073709551616=cR v n%18446744073709551616:=by rw[e0,hw];omega
 rw[zS h1 h2]
 refine l7 (mL ..) (aB _) ?_
 rw[qe,hm,F5 x _ (by omega),dD hv hs,<-lA (jx v n)]
 unfold aL bo
 rw[cT]
 have hl:=dD hv hs
 have hl2:=dD hx hs
 have c1:=bX (cR v n)
 have c2:=bX (cR x n)
 have c3:=bX x
 rw[hl]at c1
 rw[hl2]at c2
 have hlx:cZ x n=uns x%2^(8*n):=rfl
 have hdm:=mz (uns x) (2^(8*n))
 have hux:=gA x
 have hlv:=jx v n
 have hP:2^(8*n)<=65536:=by rcases hn with rfl|rfl<;>decide
 have hz:=bX (x+IntKind.wrap .i64 (cR v n-cR x n))
 have hwe:=qj (cR v n-cR x n)
 rw[show(2:Int)^64=18446744073709551616 from rfl]at*
 have key:((uns (x+IntKind.wrap .i64 (cR v n-cR x n)):Nat):Int)=((2^(8*n)*(uns x/2^(8*n))+cZ v n:Nat):Int):=by
  rw[hz]
  have hbd:2^(8*n)*(uns x/2^(8*n))+cZ v n<18446744073709551616:=by
   have hd64:2^(8*n)*(uns x/2^(8*n))+2^(8*n)<=2^64:=by
    have hq:uns x/2^(8*n)<2^(64-8*n):=ja (by rw[<-eD,show 8*n+(64-8*n)=64 by omega];exact hux)
    have:2^(8*n)*(uns x/2^(8*n)+1)<=2^(8*n)*2^(64-8*n):=oe _ hq
    rw[<-eD,show 8*n+(64-8*n)=64 by omega,kb,eB]at this
    exact this
   exact dB (Nat.add_lt_add_left hlv _) hd64
  rw[Int.natCast_add]
  obtain⟨A,hA⟩:∃A,A=2^(8*n)*(uns x/2^(8*n)):=⟨_,rfl⟩
  rw[<-hA]at hdm hbd|-
  rw[<-hlx]at hdm
  generalize IntKind.wrap .i64 (cR v n-cR x n)=W at*
  omega
 omega
end
noncomputable section
theorem ishl8 (v:Int):eW .u64 (an .u64 v) 8%18446744073709551616=eW .i64 v 8%18446744073709551616:=by
 have h1:eW .u64 (an .u64 v) 8=an .u64 v*256%18446744073709551616:=Dx (an .u64 v) 8 (by decide)
 have h2:an .u64 v=v%18446744073709551616:=gB
 have h3:eW .i64 v 8=IntKind.wrap .i64 (v*256):=rfl
 rw[h1,h2,h3,qj]
 omega
theorem na {g:List Int}{rip fl r v:Int}{n:Nat}(hg:lj g)(hv:I64 v)(hn:di (n:Int)=true)(hr:sE r n):
  d9 (((g,rip,fl,()),r,(n:Int),v,()),())=some ((wc g r n v,rip,fl,()),()):=by
 have h1:=cc hv n hn
 have h4:=yw hn
 unfold sE at hr
 unfold d9 wc Go.Den.G.setA
 dsimp only
 rw[h1,af]
 dsimp only
 by_cases h16:16<=r
 ·have hn1:n=1:=by omega
  subst hn1
  rw[gY h16,aV,af,am,aa h16,bN]
  dsimp only
  rw[show leI 4 ((1:Nat):Int)=false from rfl,ap,show cj .i64 8 ((1:Nat):Int)=8 from rfl,show an .u64 8=8 from rfl,show leI 0 8=true from rfl,aV,aV,ag (cQ),aV,ag (cQ)]
  rw[show eW .u64 (bo .u64 (eW .u64 1 8) 1) 8=65280 from by decide]
  have e:=zS (a:=jy .u64 (an .u64 (bk g (r-16) (aJ .i))) 65280) (b:=eW .u64 (an .u64 (cR v 1)) 8) (c:=jy .i64 (bk g (r-16) (aJ .i)) 65280) (d:=eW .i64 (cR v 1) 8)
   (vh (by rw[show an .u64 (bk g (r-16) (aJ .i))=_ from gB,j9])) (ishl8 _)
  rw[e]
 ·rw[mI h16,ap,af,am,ae h16]
  dsimp only
  by_cases h4':4<=n
  ·rw[ag (gY),ag (cQ),aa h4']
  ·rw[aq (mI),ae h4']
   have hI:=hg r
   have hn12:n=1\/n=2:=by omega
   have e:=set_low (x:=rg g r) (v:=v) (n:=n) hn12 hI hv ((2^(8*n)-1:Nat):Int) rfl
   rcases hn12 with rfl|rfl
   ·rw[show cj .i64 8 ((1:Nat):Int)=8 from rfl,show an .u64 8=8 from rfl,show an .u64 0=0 from rfl,show leI 0 8=true from rfl,show leI 0 0=true from rfl,aV,aV,ag (cQ),aV,ag (cQ)]
    rw[show eW .u64 (bo .u64 (eW .u64 1 8) 1) 0=((2^(8*1)-1:Nat):Int)from by decide]
    rw[e]
   ·rw[show cj .i64 8 ((2:Nat):Int)=16 from rfl,show an .u64 16=16 from rfl,show an .u64 0=0 from rfl,show leI 0 16=true from rfl,show leI 0 0=true from rfl,aV,aV,ag (cQ),aV,ag (cQ)]
    rw[show eW .u64 (bo .u64 (eW .u64 1 16) 1) 0=((2^(8*2)-1:Nat):Int)from by decide]
    rw[e]
theorem mul_u (a b:Int):an .i64 (cj .u64 (an .u64 a) (an .u64 b))=cj .i64 a b:=by
 have h1:∀z:Int,an .u64 z=z%18446744073709551616:=fun z=>gB
 unfold an cj
 refine oR ?_
 rw[gB,gB,gB,j9,Int.mul_emod a b,<-Int.mul_emod]
theorem pa {g:List Int}{rip fl nx:Int}{o:Opd}(hb:o.base<=16/\o.index<=15):
  dg (((g,rip,fl,()),dw o (),nx,()),())=some (qZ g nx o,()):=by
 unfold dg qZ dw
 dsimp only
 refine(Ret.bnd (Q:=fun y=>y=Sum.inl ((if o.base=16 then aL .i64 o.disp nx else if 0<=o.base then aL .i64 o.disp (rg g o.base)else o.disp,()),(g,rip,fl,()),(o.kind,o.reg,o.base,o.index,o.scale,o.disp,o.imm,()),())) ?_ ?_).eq
 ·by_cases b16:o.base=16
  ·rw[bK b16,aV,aa b16,gU,af]
   exact Ret.some rfl
  ·rw[aD b16,ap,ae b16]
   by_cases hb0:0<=o.base
   ·rw[ag (gY hb0),ag (cQ hb0 (by omega)),aa hb0,gU,af,af,am]
    exact Ret.some rfl
   ·rw[aq (mI hb0),ae hb0,af,am]
    exact Ret.some rfl
 rintro _ rfl
 rw[am]
 dsimp only
 by_cases hi:0<=o.index
 ·rw[ag (gY hi),ag (cQ hi (by omega)),aa hi,mul_u,gU,af]
  exact Ret.some rfl
 ·rw[aq (mI hi),ae hi]
  exact Ret.some rfl
theorem By (m:List Page)(hm:MemT m)(a v:Int)(n:Nat)(hn:di (n:Int)=true)(ha:I64 a):
  iV (((m,()),a,(n:Int),v,()),())=some ((((nj m a n v).1,()),(nj m a n v).2,()),()):=by
 obtain⟨n1,n8⟩:=fw hn
 obtain⟨_,hs⟩:=yX m hm a v n hn ha
 generalize nj m a n v=s at hs|-
 obtain⟨x,e⟩:=s
 dsimp only at hs|-
 unfold iV
 dsimp only
 rw[mu m hm.r a 2 n n1 (by omega) ha,af]
 dsimp only
 rcases hs with ⟨_,rfl,he,hf⟩|⟨rfl,hf,hx⟩
 ·rw[aD hf,eF,aV,he]
 ·have hok:=pD hm.r n 0 hf
  have hok:∀k,k<(leB v n).length->¬fnd m (a+(k:Nat))<0:=fun k hk=>hok k (iG _) (by rw[cM]at hk;omega)
  obtain⟨y,hy1,hy2⟩:=KA m hm a (leB v n) ha (by rw[cM];omega) hok
  rw[cM]at hy2
  rw[hf,bK rfl,eu,ap,tX v n n8,af,hy1,af,hy2.unique hx]
abbrev TR:=(List Int×Int×Int×List Page×Int×Int×Unit)×List Acc×Unit
def MS.r (s:MS)(rip fl nx:Int):TR:=((s.g,rip,fl,s.m,nx,s.code,()),s.l,())
theorem Gw {s:MS}{k:Nat}(hs:s.ok k)(hk:k<=1000){a:Int}(ha:I64 a){n:Nat}(hn:di (n:Int)=true)(rip fl nx:Int):
  cg ((a,(n:Int),()),s.r rip fl nx)=some ((s.ld a n).1,(s.ld a n).2.r rip fl nx):=by
 obtain⟨n1,n8⟩:=fw hn
 unfold cg MS.r MS.ld
 dsimp only
 by_cases hc:s.code=0
 ·rw[hc,ae (by simp),bK rfl,eu,ap,AG _ hs.m.r a n n1 n8 ha,af]
  dsimp only
  rw[Iq (dN hs.l hk),aV]
  rfl
 ·rw[aa hc,aD hc,eF,aV]
theorem Cm {s:MS}{k:Nat}(hs:s.ok k)(hk:k<=1000){a v:Int}(ha:I64 a)(hv:I64 v){n:Nat}(hn:di (n:Int)=true)(rip fl nx:Int):
  bJ ((a,(n:Int),v,()),s.r rip fl nx)=some ((),(s.st a n v).r rip fl nx):=by
 unfold bJ MS.r MS.st
 dsimp only
 by_cases hc:s.code=0
 ·rw[hc,ae (by simp),bK rfl,eu,ap,By _ hs.m a v n hn ha,af,cc hv n hn,af]
  dsimp only
  rw[Iq (dN hs.l hk),aV]
  rfl
 ·rw[aa hc,aD hc,eF,aV]
theorem get_r {s:MS}{k:Nat}(hs:s.ok k)(hk:k<=1000){o:Opd}{n:Nat}(hn:di (n:Int)=true)(hv:OpV o n)(rip fl nx:Int):
  aI ((dw o (),(n:Int),()),s.r rip fl nx)=some ((s.rd nx o n).1,(s.rd nx o n).2.r rip fl nx):=by
 have hI:=oT (g:=s.g) (nx:=nx) hv
 have hl:=Gw hs hk hI hn rip fl nx
 have hg:=(hs.ld (qZ s.g nx o) n).2.2
 unfold aI MS.rd
 dsimp only[dw]
 by_cases h1:o.kind=1
 ·have hr:=hv.r (by omega) h1
  rw[aa h1,bK h1,aV]
  have h:=vE (rip:=rip) (fl:=fl) hs.g hn hr
  unfold MS.r
  dsimp only
  rw[h,af]
 ·rw[ae h1,aD h1,ap]
  by_cases h2:o.kind=2
  ·rw[aa h2,bK h2,aV]
   have h:=pa (g:=s.g) (rip:=rip) (fl:=fl) (nx:=nx) (hv.b h2)
   unfold MS.r at hl|-
   unfold dw at h
   dsimp only at hl|-
   rw[h,af]
   dsimp only
   rw[hl,af]
   dsimp only
   rw[hg.1,hg.2]
  ·rw[ae h2,aD h2,ap]
theorem put_r {s:MS}{k:Nat}(hs:s.ok k)(hk:k<=1000){o:Opd}{n:Nat}{v:Int}(hI:I64 v)(hn:di (n:Int)=true)(hv:OpV o n)(h0:o.kind=1\/o.kind=2)(rip fl nx:Int):
  bc ((dw o (),(n:Int),v,()),s.r rip fl nx)=some ((),(s.wr nx o n v).r rip fl nx):=by
 have hA:=oT (g:=s.g) (nx:=nx) hv
 have hl:=Cm hs hk (v:=v) hA hI hn rip fl nx
 have hg:=(hs.st (v:=v) hA hn).2
 unfold bc MS.wr
 dsimp only[dw]
 by_cases h2:o.kind=2
 ·rw[aa h2,aD,ap]
  have h:=pa (g:=s.g) (rip:=rip) (fl:=fl) (nx:=nx) (hv.b h2)
  unfold MS.r at hl|-
  unfold dw at h
  dsimp only at hl|-
  rw[h,af]
  dsimp only
  rw[hl,af]
  dsimp only
  rw[hg]
 ·have h1:o.kind=1:=by omega
  have hr:=hv.r h2 h1
  rw[ae h2,bK h1,aV]
  have h:=na (rip:=rip) (fl:=fl) hs.g hI hn hr
  unfold MS.r
  dsimp only
  rw[h,af]
theorem push_r {s:MS}{k:Nat}(hs:s.ok k)(hk:k<=1000){v:Int}(hv:I64 v)(rip fl nx:Int):du ((v,()),s.r rip fl nx)=some ((),(s.pu v).r rip fl nx):=by
 have h1:=hs.setA (i:=4) (v:=bo .i64 (rg s.g 4) 8) (aB _)
 have h2:=Cm h1 hk (a:=rg (setA s.g 4 (bo .i64 (rg s.g 4) 8)) 4) (v:=v) (n:=8) (h1.g 4) hv rfl rip fl nx
 have h3:=(h1.st (a:=rg (setA s.g 4 (bo .i64 (rg s.g 4) 8)) 4) (n:=8) (h1.g 4) rfl v).2
 have e:aL .i64 (rg s.g 4) (-8)=bo .i64 (rg s.g 4) 8:=by unfold aL bo;rw[Int.sub_eq_add_neg]
 unfold du
 unfold MS.r at h2|-
 dsimp only at h2 h3|-
 have e':bD (((bk s.g 4 (aJ .i)),-8,()),())=some (bo .i64 (rg s.g 4) 8,()):=by rw[gU];rw[<-e]
 rw[e',af]
 dsimp only
 have h2':bJ (((bk (eM (gj 16 (aJ .i) s.g) 4 (bo .i64 (rg s.g 4) 8)) 4 (aJ .i)),8,v,()),((eM (gj 16 (aJ .i) s.g) 4 (bo .i64 (rg s.g 4) 8)),rip,fl,s.m,nx,s.code,()),s.l,())=_:=h2
 rw[h2',af]
 unfold MS.pu
 dsimp only
 rw[h3]
 rfl
theorem pop_r {s:MS}{k:Nat}(hs:s.ok k)(hk:k<=1000)(rip fl nx:Int):dL ((),s.r rip fl nx)=some (s.po.1,s.po.2.r rip fl nx):=by
 have h2:=Gw hs hk (a:=rg s.g 4) (n:=8) (hs.g 4) rfl rip fl nx
 have h3:=(hs.ld (rg s.g 4) 8).2.2
 unfold dL
 unfold MS.r at h2|-
 dsimp only at h2|-
 have h2':cg (((bk s.g 4 (aJ .i)),8,()),(s.g,rip,fl,s.m,nx,s.code,()),s.l,())=_:=h2
 rw[h2',af,gU,af]
 unfold MS.po
 dsimp only
 rw[h3.2]
 rfl
theorem goal_r {s:MS}{k:Nat}(hs:s.ok k)(hk:k<=1000){x:Ins}(hv:OpV x.src 8)(rip fl nx:Int):cC ((x,()),s.r rip fl nx)=some ((s.go nx x).1,(s.go nx x).2.r rip fl nx):=by
 have hr:=get_r hs hk (n:=8) rfl hv rip fl nx
 have hg:=(hs.rd nx (n:=8) rfl hv).2.2
 unfold cC MS.go
 dsimp only
 by_cases h3:x.src.kind=3
 ·rw[bK h3,aV,aa h3]
  have h:=gU nx x.src.imm
  unfold MS.r
  dsimp only
  rw[h,af]
 ·rw[aD h3,ap,ae h3]
  have hr':aI ((dw x.src (),8,()),s.r rip fl nx)=_:=hr
  rw[hr',af]
  unfold MS.r
  dsimp only
  rw[hg.1,hg.2]
end
set_option linter.unusedSectionVars false
noncomputable section
theorem gtq {g:List Int}{m:List Page}{c:Int}{l:List Acc}{k:Nat}(hs:(MS.mk g m c l).ok k)(hk:k<=1000){o:Opd}{n:Nat}(hn:di (n:Int)=true)(hv:OpV o n)(nx:Int):
  ∃v c' l',(MS.mk g m c l).rd nx o n=(v,⟨g,m,c',l'⟩)/\(∀rip fl,aI ((dw o (),(n:Int),()),(g,rip,fl,m,nx,c,()),l,())=some (v,(g,rip,fl,m,nx,c',()),l',()))/\(MS.mk g m c' l').ok (k+1)/\I64 v:=by
 obtain⟨h1,h2,h3,h4⟩:=hs.rd nx hn hv
 have h5:=fun rip fl=>get_r hs hk hn hv rip fl nx
 obtain⟨v,c',l',e⟩:=Er h3 h4
 rw[e]at h1 h2
 refine⟨v,c',l',e,fun rip fl=>?_,h1,h2⟩
 have:=h5 rip fl
 rw[e]at this
 exact this
theorem ptq {g:List Int}{m:List Page}{c:Int}{l:List Acc}{k:Nat}(hs:(MS.mk g m c l).ok k)(hk:k<=1000){o:Opd}{n:Nat}(hn:di (n:Int)=true)(hv:OpV o n)(h0:o.kind=1\/o.kind=2)(nx:Int){v:Int}(hI:I64 v):
  ∃g' m' c' l',(MS.mk g m c l).wr nx o n v=⟨g',m',c',l'⟩/\(∀rip fl,bc ((dw o (),(n:Int),v,()),(g,rip,fl,m,nx,c,()),l,())=some ((),(g',rip,fl,m',nx,c',()),l',()))/\(MS.mk g' m' c' l').ok (k+1):=
 ⟨_,_,_,_,rfl,fun rip fl=>put_r hs hk hI hn hv h0 rip fl nx,hs.wr nx hI hn hv⟩
theorem puq {g:List Int}{m:List Page}{c:Int}{l:List Acc}{k:Nat}(hs:(MS.mk g m c l).ok k)(hk:k<=1000){v:Int}(hv:I64 v):
  ∃g' m' c' l',(MS.mk g m c l).pu v=⟨g',m',c',l'⟩/\(∀rip fl nx,du ((v,()),(g,rip,fl,m,nx,c,()),l,())=some ((),(g',rip,fl,m',nx,c',()),l',()))/\(MS.mk g' m' c' l').ok (k+1):=
 ⟨_,_,_,_,rfl,fun rip fl nx=>push_r hs hk hv rip fl nx,hs.pu v⟩
theorem poq {g:List Int}{m:List Page}{c:Int}{l:List Acc}{k:Nat}(hs:(MS.mk g m c l).ok k)(hk:k<=1000):
  ∃v g' c' l',(MS.mk g m c l).po=(v,⟨g',m,c',l'⟩)/\(∀rip fl nx,dL ((),(g,rip,fl,m,nx,c,()),l,())=some (v,(g',rip,fl,m,nx,c',()),l',()))/\(MS.mk g' m c' l').ok (k+1)/\I64 v:=by
 obtain⟨h1,h2,h3⟩:=hs.po
 have h5:=fun rip fl nx=>pop_r hs hk rip fl nx
 obtain⟨v,g',c',l',e⟩:∃v g' c' l',(MS.mk g m c l).po=(v,MS.mk g' m c' l'):=by
  generalize (MS.mk g m c l).po=r at h3
  obtain⟨v,g',m',c',l'⟩:=r
  cases h3
  exact⟨v,g',c',l',rfl⟩
 rw[e]at h1 h2
 refine⟨v,g',c',l',e,fun rip fl nx=>?_,h1,h2⟩
 have:=h5 rip fl nx
 rw[e]at this
 exact this
theorem goq {g:List Int}{m:List Page}{c:Int}{l:List Acc}{k:Nat}(hs:(MS.mk g m c l).ok k)(hk:k<=1000){x:Ins}(hv:OpV x.src 8)(nx:Int):
  ∃v c' l',(MS.mk g m c l).go nx x=(v,⟨g,m,c',l'⟩)/\(∀rip fl,cC ((x,()),(g,rip,fl,m,nx,c,()),l,())=some (v,(g,rip,fl,m,nx,c',()),l',()))/\(MS.mk g m c' l').ok (k+1)/\I64 v:=by
 obtain⟨h1,h2⟩:=hs.go nx hv
 have h5:=fun rip fl=>goal_r hs hk hv rip fl nx
 have h3:((MS.mk g m c l).go nx x).2.g=g/\((MS.mk g m c l).go nx x).2.m=m:=by
  unfold MS.go
  split
  ·exact⟨rfl,rfl⟩
  ·exact(hs.rd nx (n:=8) rfl hv).2.2
 obtain⟨v,c',l',e⟩:=Er h3.1 h3.2
 rw[e]at h1 h2
 refine⟨v,c',l',e,fun rip fl=>?_,h1,h2⟩
 have:=h5 rip fl
 rw[e]at this
 exact this
theorem ldq {g:List Int}{m:List Page}{c:Int}{l:List Acc}{k:Nat}(hs:(MS.mk g m c l).ok k)(hk:k<=1000){a:Int}(ha:I64 a){n:Nat}(hn:di (n:Int)=true):
  ∃v c' l',(MS.mk g m c l).ld a n=(v,⟨g,m,c',l'⟩)/\(∀rip fl nx,cg ((a,(n:Int),()),(g,rip,fl,m,nx,c,()),l,())=some (v,(g,rip,fl,m,nx,c',()),l',()))/\(MS.mk g m c' l').ok (k+1)/\I64 v:=by
 obtain⟨h1,h2,h3,h4⟩:=hs.ld a n
 have h5:=fun rip fl nx=>Gw hs hk ha hn rip fl nx
 obtain⟨v,c',l',e⟩:=Er h3 h4
 rw[e]at h1 h2
 refine⟨v,c',l',e,fun rip fl nx=>?_,h1,h2⟩
 have:=h5 rip fl nx
 rw[e]at this
 exact this
theorem stq {g:List Int}{m:List Page}{c:Int}{l:List Acc}{k:Nat}(hs:(MS.mk g m c l).ok k)(hk:k<=1000){a:Int}(ha:I64 a){n:Nat}(hn:di (n:Int)=true){v:Int}(hv:I64 v):
  ∃m' c' l',(MS.mk g m c l).st a n v=⟨g,m',c',l'⟩/\(∀rip fl nx,bJ ((a,(n:Int),v,()),(g,rip,fl,m,nx,c,()),l,())=some ((),(g,rip,fl,m',nx,c',()),l',()))/\(MS.mk g m' c' l').ok (k+1):=by
 obtain⟨h1,h2⟩:=hs.st ha hn v
 have h5:=fun rip fl nx=>Cm hs hk ha hv hn rip fl nx
 obtain⟨m',c',l',e⟩:∃m' c' l',(MS.mk g m c l).st a n v=⟨g,m',c',l'⟩:=by
  generalize (MS.mk g m c l).st a n v=r at h2
  obtain⟨g',m',c',l'⟩:=r
  cases h2
  exact⟨m',c',l',rfl⟩
 rw[e]at h1
 refine⟨m',c',l',e,fun rip fl nx=>?_,h1⟩
 have:=h5 rip fl nx
 rw[e]at this
 exact this
def RelR (S:MS)(nx fl:Int)(e:MS×Int×Int):Prop:=S.l=e.1.l/\S.code=e.1.code/\(e.1.code=0->S=e.1/\nx=e.2.1/\fl=e.2.2)
theorem RelR.same {S:MS}{nx fl:Int}{e:MS×Int×Int}(h:e=(S,nx,fl)):RelR S nx fl e:=by subst h;exact⟨rfl,rfl,fun _=>⟨rfl,rfl,rfl⟩⟩
def iL (g:List Int)(m:List Page)(c:Int)(l:List Acc)(x:Ins)(rip fl nx:Int)(e:MS×Int×Int):Prop:=
 ∃S fl' nx',bx ((x,()),(g,rip,fl,m,nx,c,()),l,())=some ((),S.r rip fl' nx')/\RelR S nx' fl' e
theorem Fr {α β:Type}(n:Nat)(X:α):br (leI (n:Int) 8) (some (Sum.inl (((leI (n:Int) 8),()),X):Sum ((Bool×Unit)×α) β)) (some (Sum.inl (((eqI (n:Int) 10),()),X)))=some (Sum.inl ((decide (n<=8\/n=10),()),X)):=by
 by_cases h:n<=8
 ·rw[gY (show(n:Int)<=8 by omega),aV,dT]
 ·rw[mI (show ¬(n:Int)<=8 by omega),ap]
  by_cases h2:n=10
  ·rw[bK (show(n:Int)=10 by omega),dT]
  ·rw[aD (show ¬(n:Int)=10 by omega),dF]
theorem HM {α R:Type}(n:Nat)(X:α):
  (br (eqI (n:Int) 11) (some (Sum.inl (((eqI (n:Int) 11),()),X))) (bnd (br (eqI (n:Int) 12) (some (Sum.inl (((eqI (n:Int) 12),()),X))) (bnd (br (eqI (n:Int) 18) (some (Sum.inl (((eqI (n:Int) 18),()),X))) (some (Sum.inl (((eqI (n:Int) 19),()),X)))) (fun(x9:Sum ((Bool×Unit)×α) (Sum ((Bool×Unit)×α) (Sum ((Bool×Unit)×α) R)))=>ba x9 (fun x10=>some (Sum.inl x10)) some))) (fun(x11:Sum ((Bool×Unit)×α) (Sum ((Bool×Unit)×α) R))=>ba x11 (fun x12=>some (Sum.inl x12)) some)))=some (Sum.inl ((decide (n=11\/n=12\/n=18\/n=19),()),X)):=by
 by_cases h1:n=11
 ·rw[bK (show(n:Int)=11 by omega),aV,dT]
 rw[aD (show ¬(n:Int)=11 by omega),ap]
 by_cases h2:n=12
 ·rw[bK (show(n:Int)=12 by omega),aV,af,am,dT]
 rw[aD (show ¬(n:Int)=12 by omega),ap]
 by_cases h3:n=18
 ·rw[bK (show(n:Int)=18 by omega),aV,af,am,af,am,dT]
 rw[aD (show ¬(n:Int)=18 by omega),ap,af,am,af,am]
 by_cases h4:n=19
 ·rw[bK (show(n:Int)=19 by omega),dT]
 ·rw[aD (show ¬(n:Int)=19 by omega),dF]
theorem put_ne (n:Nat):br (bm (eqI (n:Int) 8)) (some (bm (eqI (n:Int) 10))) (some false)=some (decide (n≠8/\n≠10)):=by
 by_cases a8:n=8
 ·rw[bK (show(n:Int)=8 by omega),eu,ap,dF]
 ·rw[aD (show ¬(n:Int)=8 by omega),eF,aV]
  by_cases a10:n=10
  ·rw[bK (show(n:Int)=10 by omega),eu,dF]
  ·rw[aD (show ¬(n:Int)=10 by omega),eF,dT]
end
set_option linter.unusedSectionVars false
noncomputable section
theorem Hb {w v op a f:Int}{z:Nat}(h:w%64=v%64):lP op z a w f=lP op z a v f:=by
 unfold lP
 have:Cg z w=Cg z v:=by unfold Cg;split<;>omega
 rw[this]
section
variable {g:List Int}{m:List Page}{c:Int}{l:List Acc}{k:Nat}(hs:(MS.mk g m c l).ok k)(hk:k+4<=1000){x:Ins}{n z:Nat}{rip fl nx:Int}
include hs hk
theorem GT (hx:ExV x n)(hz:x.size=z)(hn:n<=8\/n=10):iL g m c l x rip fl nx (((MS.mk g m c l).reck nx fl x n z).1,nx,((MS.mk g m c l).reck nx fl x n z).2):=by
 have hop:=hx.op
 have hz':di (z:Int)=true:=by rw[<-hz];exact hx.szs.1 (by omega)
 have hdv:=hx.dv
 have hsv:=hx.sv
 have hss2:=(uI hx (by omega) hz hz').2
 have hsz:DA n z=z:=by unfold DA;rw[iN]
 have hks:=hx.kd.2.2.2.2.2.2.2.2.2.2 (by omega)
 rw[hz]at hdv
 rw[hss2,hsz]at hsv
 obtain⟨v1,c1,l1,e1,r1,ok1,I1⟩:=gtq hs (by omega) hz' hdv nx
 obtain⟨v2,c2,l2,e2,r2,ok2,I2⟩:=gtq ok1 (by omega) hz' hsv nx
 have hrk:sN n z v1 v2 fl=AZ n z v1 v2 fl:=by unfold sN;rw[aa hn]
 have rI:=(Fc (op:=(n:Int)) (b:=v2) (f:=fl) hz' I1).1
 have hre:(MS.mk g m c l).reck nx fl x n z=(if n≠8/\n≠10 then(MS.mk g m c2 l2).wr nx x.dst z (AZ n z v1 v2 fl).1 else MS.mk g m c2 l2,(AZ n z v1 v2 fl).2):=by
  unfold MS.reck MS.rd0
  dsimp only
  rw[e1,aa (show x.src.kind≠0 by omega),hsz]
  dsimp only
  rw[e2]
  dsimp only
  rw[hrk]
 rw[hre]
 have hA:=Gk (op:=(n:Int)) (f:=fl) hz' I1 I2
 generalize AZ (n:Int) z v1 v2 fl=A at rI hA|-
 obtain⟨A,f'⟩:=A
 dsimp only at rI hA|-
 unfold dw at r1 r2
 unfold iL bx
 dsimp only
 rw[hop,Fr,af,am,aF hn]
 dsimp only[ew,dw,cp7,d5,d11]
 rw[aV,hop,hz,r1,af]
 dsimp only
 rw[r2,af]
 dsimp only
 rw[hA,af,put_ne,af]
 dsimp only
 by_cases h:n≠8/\n≠10
 ·obtain⟨g',m',c',l',e3,r3,ok3⟩:=ptq ok2 (by omega) hz' hdv (hx.kd.1 (by omega)) nx rI
  unfold dw at r3
  rw[aF h,aV,aa h,e3,r3,af]
  exact⟨⟨g',m',c',l'⟩,f',nx,rfl,.same rfl⟩
 ·rw[aP h,ap,ae h]
  exact⟨⟨g,m,c2,l2⟩,f',nx,rfl,.same rfl⟩
theorem GU (hx:ExV x n)(hz:x.size=z)(hI:I64 fl)(hf:ct fl=true)(hn:n=11\/n=12\/n=18\/n=19):iL g m c l x rip fl nx (((MS.mk g m c l).reck nx fl x n z).1,nx,((MS.mk g m c l).reck nx fl x n z).2):=by
 have hop:=hx.op
 have hz':di (z:Int)=true:=by rw[<-hz];exact hx.szs.1 (by omega)
 have hdv:=hx.dv
 have hks:=hx.kd.2.2.2.2.2.2.2.2.2.1 (by omega)
 rw[hz]at hdv
 obtain⟨v1,c1,l1,e1,r1,ok1,I1⟩:=gtq hs (by omega) hz' hdv nx
 have hrk:sN n z v1 0 fl=BS n z v1 fl:=by unfold sN;rw[iN,iP]
 have hre:(MS.mk g m c l).reck nx fl x n z=((MS.mk g m c1 l1).wr nx x.dst z (BS n z v1 fl).1,(BS n z v1 fl).2):=by
  unfold MS.reck MS.rd0
  dsimp only
  rw[e1,ae (show ¬x.src.kind≠0 by omega)]
  dsimp only
  rw[hrk,aa (show n≠8/\n≠10 by omega)]
 rw[hre]
 have hA:=Gl (op:=(n:Int)) (f:=fl) hz' I1
 have rI:=(GO (op:=(n:Int)) (a:=v1) hz' hI hf).1
 generalize BS (n:Int) z v1 fl=A at rI hA|-
 obtain⟨A,f'⟩:=A
 dsimp only at rI hA|-
 obtain⟨g',m',c',l',e3,r3,ok3⟩:=ptq ok1 (by omega) hz' hdv (hx.kd.1 (by omega)) nx rI
 unfold dw at r1 r3
 unfold iL bx
 dsimp only
 rw[hop,Fr,af,am,dF]
 dsimp only
 rw[ap,show(ew x ()).1=(n:Int)from hop,HM,af,am,aF hn]
 dsimp only[ew,dw,cp7,d5,d11]
 rw[aV,hop,hz,r1,af]
 dsimp only
 rw[hA,af]
 dsimp only
 rw[r3,af,e3]
 exact⟨⟨g',m',c',l'⟩,f',nx,rfl,.same rfl⟩
theorem BX (hx:ExV x n)(hz:x.size=z)(hI:I64 fl)(hf:ct fl=true)(hn:20<=n/\n<=24):iL g m c l x rip fl nx (((MS.mk g m c l).reck nx fl x n z).1,nx,((MS.mk g m c l).reck nx fl x n z).2):=by
 have hop:=hx.op
 have hz':di (z:Int)=true:=by rw[<-hz];exact hx.szs.1 (by omega)
 have hdv:=hx.dv
 have hsv:=hx.sv
 have hss2:=(uI hx (by omega) hz hz').2
 have hsz:DA n z=8:=by unfold DA;rw[iP]
 have hks:=hx.kd.2.2.2.2.2.2.2.2.1 (by omega)
 rw[hz]at hdv
 rw[hss2,hsz]at hsv
 have hsv1:OpV x.src ((1:Nat):Int):=by
  refine⟨fun h2 h1=>?_,hsv.b,hsv.d,hsv.i⟩
  have:=hsv.r h2 h1
  unfold sE at this|-
  omega
 obtain⟨v1,c1,l1,e1,r1,ok1,I1⟩:=gtq hs (by omega) hz' hdv nx
 have hw:∃w v,(∀rip fl,aI ((dw x.src (),1,()),(g,rip,fl,m,nx,c,()),l,())=some (w,(g,rip,fl,m,nx,c,()),l,()))/\(MS.mk g m c1 l1).rd nx x.src 8=(v,MS.mk g m c1 l1)/\w%64=cR v 1%64:=by
  have h5:=fun rip fl=>get_r hs (by omega) (n:=1) rfl hsv1 rip fl nx
  unfold MS.rd at h5|-
  rcases hks with h1|h3
  ·rw[aa h1]
   have hr:=hsv.r (by omega) h1
   unfold sE at hr
   refine⟨nC g x.src.reg 1,nC g x.src.reg 8,fun rip fl=>?_,rfl,?_⟩
   ·have:=h5 rip fl
    rw[aa h1]at this
    exact this
   ·unfold nC
    rw[iN,iN]
    have e8:cR (rg g x.src.reg) 8=rg g x.src.reg:=aa rfl
    rw[e8]
  ·rw[iN,iN]
   refine⟨x.src.imm,x.src.imm,fun rip fl=>?_,rfl,?_⟩
   ·have:=h5 rip fl
    rw[iN,iN]at this
    exact this
   ·unfold cR
    rw[iD,show(2:Int)^(8*1)=256 from rfl]
    omega
 obtain⟨w,v2,r2,e2,hwv⟩:=hw
 have hrk:sN n z v1 v2 fl=lP n z v1 w fl:=by
  unfold sN
  rw[iN,iN,iP]
  exact(Hb hwv).symm
 have hre:(MS.mk g m c l).reck nx fl x n z=((MS.mk g m c1 l1).wr nx x.dst z (lP n z v1 w fl).1,(lP n z v1 w fl).2):=by
  unfold MS.reck MS.rd0
  dsimp only
  rw[e1,aa (show x.src.kind≠0 by omega),hsz]
  dsimp only
  rw[e2]
  dsimp only
  rw[hrk,aa (show n≠8/\n≠10 by omega)]
 rw[hre]
 have hA:=BB (op:=(n:Int)) (k:=w) (f:=fl) (by omega) hz' I1
 have rI:=(AB (op:=(n:Int)) (k:=w) hz' I1 hI hf).1
 generalize lP (n:Int) z v1 w fl=A at rI hA|-
 obtain⟨A,f'⟩:=A
 dsimp only at rI hA|-
 obtain⟨g',m',c',l',e3,r3,ok3⟩:=ptq ok1 (by omega) hz' hdv (hx.kd.1 (by omega)) nx rI
 unfold dw at r1 r2 r3
 unfold iL bx
 dsimp only
 rw[hop,Fr,af,am,dF]
 dsimp only
 rw[ap,show(ew x ()).1=(n:Int)from hop,HM,af,am,dF]
 dsimp only
 rw[ap,show(ew x ()).1=(n:Int)from hop,ca,bB,af,dT]
 dsimp only[ew,dw,cp7,d5,d11]
 rw[aV,hz,r2,af]
 dsimp only
 rw[r1,af]
 dsimp only
 rw[hA,af]
 dsimp only
 rw[r3,af,e3]
 exact⟨⟨g',m',c',l'⟩,f',nx,rfl,.same rfl⟩
theorem En (hx:ExV x 17)(hz:x.size=z)(hI:I64 fl)(hf:ct fl=true):iL g m c l x rip fl nx (((MS.mk g m c l).reck nx fl x 17 z).1,nx,((MS.mk g m c l).reck nx fl x 17 z).2):=by
 have hop:=hx.op
 have hz':di (z:Int)=true:=by rw[<-hz];exact hx.szs.1 (by omega)
 have hdv:=hx.dv
 have hsv:=hx.sv
 have hss2:=(uI hx (by omega) hz hz').2
 have hsz:DA 17 z=z:=by unfold DA;rw[iN]
 have hks:=hx.kd.2.2.2.2.2.2.2.2.2.2 (by omega)
 rw[hz]at hdv
 rw[hss2,hsz]at hsv
 obtain⟨v1,c1,l1,e1,r1,ok1,I1⟩:=gtq hs (by omega) hz' hdv nx
 obtain⟨v2,c2,l2,e2,r2,ok2,I2⟩:=gtq ok1 (by omega) hz' hsv nx
 have hrk:sN 17 z v1 v2 fl=((vI (17:Nat) z v1 v2 fl).1,(vI (17:Nat) z v1 v2 fl).2.2):=by
  unfold sN;rw[iN,iN,iN]
 have hre:(MS.mk g m c l).reck nx fl x 17 z=((MS.mk g m c2 l2).wr nx x.dst z (vI (17:Nat) z v1 v2 fl).1,(vI (17:Nat) z v1 v2 fl).2.2):=by
  unfold MS.reck MS.rd0
  dsimp only
  rw[e1,aa (show x.src.kind≠0 by omega),hsz]
  dsimp only
  rw[e2]
  dsimp only
  rw[hrk,aa (show(17:Nat)≠8/\(17:Nat)≠10 by omega)]
 rw[hre]
 have hA:=rq (op:=((17:Nat):Int)) (f:=fl) hz' I1 I2
 have rI:=(yF (op:=((17:Nat):Int)) (n:=z) (a:=v1) (b:=v2) hI hf).1
 generalize vI ((17:Nat):Int) z v1 v2 fl=A at rI hA|-
 obtain⟨A,A2,f'⟩:=A
 dsimp only at rI hA|-
 obtain⟨g',m',c',l',e3,r3,ok3⟩:=ptq ok2 (by omega) hz' hdv (hx.kd.1 (by omega)) nx rI
 unfold dw at r1 r2 r3
 unfold iL bx
 dsimp only
 rw[hop,Fr,af,am,dF]
 dsimp only
 rw[ap,show(ew x ()).1=((17:Nat):Int)from hop,HM,af,am,dF]
 dsimp only
 rw[ap,show(ew x ()).1=((17:Nat):Int)from hop,ca,bB,af,dF]
 dsimp only
 rw[ap,bK (show((17:Nat):Int)=17 by omega),aV]
 dsimp only[ew,dw,cp7,d5,d11]
 rw[hz,r1,af]
 dsimp only
 rw[r2,af]
 dsimp only
 rw[hA,af]
 dsimp only
 rw[r3,af,e3]
 exact⟨⟨g',m',c',l'⟩,f',nx,rfl,.same rfl⟩
end
end
set_option linter.unusedSectionVars false
noncomputable section
theorem upper_r (z:Nat):i5 (((z:Int),()),())=some (upZ z,()):=by
 unfold i5 upZ
 dsimp only
 by_cases h:z=1
 ·rw[bK,aV,aa h]
 ·rw[aD,ap,ae h]
theorem reg0 (z:Nat):sE 0 z:=by unfold sE;omega
theorem F4 (x:Ins):m8 (ew x ())=x:=rfl
section
variable {g:List Int}{m:List Page}{c:Int}{l:List Acc}{k:Nat}(hs:(MS.mk g m c l).ok k)(hk:k+4<=1000){x:Ins}{n z:Nat}{rip fl nx:Int}
include hs hk
theorem plain_9 (hx:ExV x 9)(hz:x.size=z):iL g m c l x rip fl nx ((MS.mk g m c l).move fl nx x 9 z,nx,fl):=by
 have hop:=hx.op
 have hz':di (z:Int)=true:=by rw[<-hz];exact hx.szs.1 (by omega)
 have hdv:=hx.dv
 have hsv:=hx.sv
 rw[hz]at hdv
 rw[show sSz x 9=x.size from by unfold sSz;rw[iD,hx.fr.2 (by decide),iD],hz]at hsv
 obtain⟨v1,c1,l1,e1,r1,ok1,I1⟩:=gtq hs (by omega) hz' hsv nx
 obtain⟨g',m',c',l',e2,r2,ok2⟩:=ptq ok1 (by omega) hz' hdv (hx.kd.1 (by omega)) nx I1
 unfold dw at r1 r2
 have hre:(MS.mk g m c l).move fl nx x 9 z=⟨g',m',c',l'⟩:=by
  unfold MS.move
  rw[aa rfl,e1]
  exact e2
 rw[hre]
 unfold iL bx
 dsimp only
 rw[hop,Fr,af,am,dF]
 dsimp only
 rw[ap,show(ew x ()).1=((9:Nat):Int)from hop,HM,af,am,dF]
 dsimp only
 rw[ap,show(ew x ()).1=((9:Nat):Int)from hop,ca,bB,af,dF]
 dsimp only
 rw[ap,aD,ap,bK,aV]
 dsimp only[ew,dw,cp7,d5,d11]
 rw[hz,r1,af]
 dsimp only
 rw[r2,af]
 exact⟨⟨g',m',c',l'⟩,fl,nx,rfl,.same rfl⟩
theorem Jy (hx:ExV x 28)(hz:x.size=z):iL g m c l x rip fl nx ((MS.mk g m c l).move fl nx x 28 z,nx,fl):=by
 have hop:=hx.op
 have hz':di (z:Int)=true:=by rw[<-hz];exact hx.szs.1 (by omega)
 have hdv:=hx.dv
 have hsv:=hx.sv
 rw[hz]at hdv
 rw[show sSz x 28=x.size from by unfold sSz;rw[iD,hx.fr.2 (by decide),iD],hz]at hsv
 have hsk:=hx.kd.2.1 rfl
 obtain⟨v1,c1,l1,e1,r1,ok1,I1⟩:=gtq hs (by omega) hz' hdv nx
 obtain⟨v2,c2,l2,e2,r2,ok2,I2⟩:=gtq ok1 (by omega) hz' hsv nx
 obtain⟨g3,m3,c3,l3,e3,r3,ok3⟩:=ptq ok2 (by omega) hz' hdv (hx.kd.1 (by omega)) nx I2
 obtain⟨g4,m4,c4,l4,e4,r4,ok4⟩:=ptq ok3 (by omega) hz' hsv (.inl hsk) nx I1
 unfold dw at r1 r2 r3 r4
 have hre:(MS.mk g m c l).move fl nx x 28 z=⟨g4,m4,c4,l4⟩:=by
  unfold MS.move
  dsimp only
  rw[iD,aa rfl,e1]
  dsimp only
  rw[e2]
  dsimp only
  rw[e3]
  exact e4
 rw[hre]
 unfold iL bx
 dsimp only
 rw[hop,Fr,af,am,dF]
 dsimp only
 rw[ap,show(ew x ()).1=((28:Nat):Int)from hop,HM,af,am,dF]
 dsimp only
 rw[ap,show(ew x ()).1=((28:Nat):Int)from hop,ca,bB,af,dF]
 dsimp only
 rw[ap,aD,ap,aD,ap,bK,aV]
 dsimp only[ew,dw,cp7,d5,d11]
 rw[hz,r1,af]
 dsimp only
 rw[r2,af]
 dsimp only
 rw[r3,af]
 dsimp only
 rw[r4,af]
 exact⟨⟨g4,m4,c4,l4⟩,fl,nx,rfl,.same rfl⟩
theorem Jv (hx:ExV x 25)(hz:x.size=z):iL g m c l x rip fl nx ((MS.mk g m c l).move fl nx x 25 z,nx,fl):=by
 have hop:=hx.op
 have hz':di (z:Int)=true:=by rw[<-hz];exact hx.szs.1 (by omega)
 have hdv:=hx.dv
 have hsv:=hx.sv
 rw[hz]at hdv
 have hk2:=hx.kd.2.2.1 rfl
 have hA:=oT (g:=g) (nx:=nx) hsv
 obtain⟨g',m',c',l',e2,r2,ok2⟩:=ptq hs (by omega) hz' hdv (hx.kd.1 (by omega)) nx hA
 have hadr:=pa (g:=g) (rip:=rip) (fl:=fl) (nx:=nx) (hsv.b hk2.2)
 unfold dw at r2 hadr
 have hre:(MS.mk g m c l).move fl nx x 25 z=⟨g',m',c',l'⟩:=by
  unfold MS.move
  rw[iD,iD,aa rfl]
  exact e2
 rw[hre]
 unfold iL bx
 dsimp only
 rw[hop,Fr,af,am,dF]
 dsimp only
 rw[ap,show(ew x ()).1=((25:Nat):Int)from hop,HM,af,am,dF]
 dsimp only
 rw[ap,show(ew x ()).1=((25:Nat):Int)from hop,ca,bB,af,dF]
 dsimp only
 rw[ap,aD,ap,aD,ap,aD,ap,bK,aV]
 dsimp only[ew,dw,cp7,d5,d11]
 rw[hz,hadr,af]
 rw[r2,af]
 exact⟨⟨g',m',c',l'⟩,fl,nx,rfl,.same rfl⟩
theorem Jw (hx:ExV x 26)(hz:x.size=z):iL g m c l x rip fl nx ((MS.mk g m c l).move fl nx x 26 z,nx,fl):=by
 have hop:=hx.op
 have hz':di (z:Int)=true:=by rw[<-hz];exact hx.szs.1 (by omega)
 have hdv:=hx.dv
 have hsv:=hx.sv
 rw[hz]at hdv
 have hfz:=hx.fr.1 (by omega)
 obtain⟨f,hf,hf2⟩:=ux hfz
 rw[show sSz x 26=x.frm from by unfold sSz;rw[iD,aa (by have:=fw hf2;omega)],hf]at hsv
 obtain⟨v1,c1,l1,e1,r1,ok1,I1⟩:=gtq hs (by omega) hf2 hsv nx
 have hft:x.frm.toNat=f:=by omega
 obtain⟨g',m',c',l',e2,r2,ok2⟩:=ptq ok1 (by omega) hz' hdv (hx.kd.1 (by omega)) nx I1
 unfold dw at r1 r2
 have hre:(MS.mk g m c l).move fl nx x 26 z=⟨g',m',c',l'⟩:=by
  unfold MS.move
  rw[iD,iD,iD,aa rfl,hft,e1]
  exact e2
 rw[hre]
 unfold iL bx
 dsimp only
 rw[hop,Fr,af,am,dF]
 dsimp only
 rw[ap,show(ew x ()).1=((26:Nat):Int)from hop,HM,af,am,dF]
 dsimp only
 rw[ap,show(ew x ()).1=((26:Nat):Int)from hop,ca,bB,af,dF]
 dsimp only
 rw[ap,aD,ap,aD,ap,aD,ap,aD,ap,bK,aV]
 dsimp only[ew,dw,cp7,d5,d11]
 rw[hz,hf,r1,af]
 dsimp only
 rw[r2,af]
 exact⟨⟨g',m',c',l'⟩,fl,nx,rfl,.same rfl⟩
theorem Jx (hx:ExV x 27)(hz:x.size=z):iL g m c l x rip fl nx ((MS.mk g m c l).move fl nx x 27 z,nx,fl):=by
 have hop:=hx.op
 have hz':di (z:Int)=true:=by rw[<-hz];exact hx.szs.1 (by omega)
 have hdv:=hx.dv
 have hsv:=hx.sv
 rw[hz]at hdv
 have hfz:=hx.fr.1 (by omega)
 obtain⟨f,hf,hf2⟩:=ux hfz
 rw[show sSz x 27=x.frm from by unfold sSz;rw[iD,aa (by have:=fw hf2;omega)],hf]at hsv
 obtain⟨v1,c1,l1,e1,r1,ok1,I1⟩:=gtq hs (by omega) hf2 hsv nx
 have hft:x.frm.toNat=f:=by omega
 have hf18:=fw hf2
 have hsg:=jq v1 (f:Int) (by omega) (by omega)
 rw[show(8*(f:Int)-1).toNat=8*f-1 by omega]at hsg
 have hsI:I64 (sx (8*f-1) v1):=jv _ (by omega) v1
 obtain⟨g',m',c',l',e2,r2,ok2⟩:=ptq ok1 (by omega) hz' hdv (hx.kd.1 (by omega)) nx hsI
 unfold dw at r1 r2
 have hre:(MS.mk g m c l).move fl nx x 27 z=⟨g',m',c',l'⟩:=by
  unfold MS.move
  rw[iD,iD,iD,iD,aa rfl,hft,e1]
  exact e2
 rw[hre]
 unfold iL bx
 dsimp only
 rw[hop,Fr,af,am,dF]
 dsimp only
 rw[ap,show(ew x ()).1=((27:Nat):Int)from hop,HM,af,am,dF]
 dsimp only
 rw[ap,show(ew x ()).1=((27:Nat):Int)from hop,ca,bB,af,dF]
 dsimp only
 rw[ap,aD,ap,aD,ap,aD,ap,aD,ap,aD,ap,bK,aV]
 dsimp only[ew,dw,cp7,d5,d11]
 rw[hz,hf,r1,af]
 dsimp only
 rw[hsg,af]
 rw[r2,af]
 exact⟨⟨g',m',c',l'⟩,fl,nx,rfl,.same rfl⟩
theorem wide_r (hx:ExV x n)(hz:x.size=z)(hI:I64 fl)(hf:ct fl=true)(hn:13<=n/\n<=16):
  ∃g' c' l' fl',fZ ((x,()),(g,rip,fl,m,nx,c,()),l,())=some ((),(g',rip,fl',m,nx,c',()),l',())/\RelR ⟨g',m,c',l'⟩ nx fl' (((MS.mk g m c l).wide fl nx x n z).1,nx,((MS.mk g m c l).wide fl nx x n z).2):=by
 have hop:=hx.op
 have hz':di (z:Int)=true:=by rw[<-hz];exact hx.szs.1 (by omega)
 have hsv:=hx.sv
 rw[show sSz x n=x.size from by unfold sSz;rw[iN,hx.fr.2 (by omega),iD],hz]at hsv
 obtain⟨v1,c1,l1,e1,r1,ok1,I1⟩:=gtq hs (by omega) hz' hsv nx
 have hgI:∀r,I64 (nC g r z):=fun r=>yn (g:=g) hs.g hz'
 unfold fZ MS.wide RelR
 dsimp only
 rw[e1,hop,hz,r1,af]
 dsimp only[d5]
 by_cases hc1:c1=0
 rotate_left
 ·rw[aD hc1,eF,aV]
  refine⟨g,c1,l1,fl,rfl,?_⟩
  by_cases hm:n=13\/n=14
  ·rw[aa hm]
   exact⟨rfl,rfl,fun h=>ah h hc1⟩
  ·rw[ae hm]
   dsimp only
   rw[ae (fun h=>hc1 h.2)]
   exact⟨rfl,rfl,fun h=>ah h hc1⟩
 subst hc1
 have hg0:=vE (g:=g) (rip:=rip) (fl:=fl) hs.g hz' (reg0 z)
 have hgu:=vE (g:=g) (rip:=rip) (fl:=fl) hs.g hz' (tN z)
 rw[bK rfl,eu,ap,hg0,af,upper_r,af]
 have hb:br (eqI (n:Int) 13) (some true) (some (eqI (n:Int) 14))=some (decide (n=13\/n=14)):=by
  by_cases a:n=13
  ·rw[bK,aV,dT]
  ·rw[aD,ap]
   by_cases b:n=14
   ·rw[bK,dT]
   ·rw[aD,dF]
 rw[hb,af]
 by_cases hm:n=13\/n=14
 ·rw[aF hm,aV,aa hm]
  have hA:=rq (op:=(n:Int)) (a:=nC g 0 z) (b:=v1) (f:=fl) hz' (hgI 0) I1
  obtain⟨o1,o2,o3,o4⟩:=yF (op:=n) (n:=z) (a:=nC g 0 z) (b:=v1) hI hf
  generalize vI (n:Int) z (nC g 0 z) v1 fl=A at hA o1 o2 o3 o4|-
  obtain⟨lo,hi,f'⟩:=A
  dsimp only at hA o1 o2 o3 o4|-
  have s1:=na (g:=g) (rip:=rip) (fl:=f') hs.g o1 hz' (reg0 z)
  have s2:=na (g:=wc g 0 z lo) (rip:=rip) (fl:=f') (pi hs.g o1 hz') o2 hz' (tN z)
  rw[hA,af,af,am]
  dsimp only[ew]
  rw[hz,s1,af]
  dsimp only
  rw[s2,af]
  exact⟨_,0,l1,f',rfl,rfl,rfl,fun _=>⟨rfl,rfl,rfl⟩⟩
 ·rw[aP hm,ap,ae hm]
  obtain⟨o1,o2⟩:=CJ (op:=n) (n:=z) (hi:=nC g (upZ z) z) (lo:=nC g 0 z) (d:=v1)
  obtain⟨q,r,hd,hqr⟩:=zY (op:=(n:Int)) (n:=z) (hi:=nC g (upZ z) z) (lo:=nC g 0 z) (d:=v1) hz' (hgI _) (hgI _) I1
  generalize xX (n:Int) z (nC g (upZ z) z) (nC g 0 z) v1=A at hd hqr o1 o2|-
  obtain⟨q',r',ok⟩:=A
  dsimp only at hd hqr o1 o2|-
  rw[hgu,af]
  dsimp only
  rw[hd,af]
  dsimp only
  cases ok with
  |false=>
   rw[eF,aV,af,rC]
   exact⟨g,16,l1,fl,rfl,rfl,rfl,fun h=>ah h (by rw[aa ⟨rfl,rfl⟩];decide)⟩
  |true=>
   obtain⟨rfl,rfl⟩:=hqr rfl
   have s1:=na (g:=g) (rip:=rip) (fl:=fl) hs.g o1 hz' (reg0 z)
   have s2:=na (g:=wc g 0 z q) (rip:=rip) (fl:=fl) (pi hs.g o1 hz') o2 hz' (tN z)
   rw[eu,ap,af,am]
   dsimp only[ew]
   rw[hz,s1,af]
   dsimp only
   rw[s2,af]
   exact⟨_,0,l1,fl,rfl,rfl,rfl,fun _=>⟨rfl,rfl,rfl⟩⟩
theorem Ep (hx:ExV x n)(hz:x.size=z)(hI:I64 fl)(hf:ct fl=true)(hn:13<=n/\n<=16):iL g m c l x rip fl nx (((MS.mk g m c l).wide fl nx x n z).1,nx,((MS.mk g m c l).wide fl nx x n z).2):=by
 have hop:=hx.op
 obtain⟨g',c',l',fl',hr,hR⟩:=wide_r hs hk hx hz hI hf hn (rip:=rip) (nx:=nx)
 generalize (((MS.mk g m c l).wide fl nx x n z).1,nx,((MS.mk g m c l).wide fl nx x n z).2)=e at hR|-
 unfold iL bx
 dsimp only
 rw[hop,Fr,af,am,dF]
 dsimp only
 rw[ap,show(ew x ()).1=(n:Int)from hop,HM,af,am,dF]
 dsimp only
 rw[ap,show(ew x ()).1=(n:Int)from hop,ca,bB,af,dF]
 dsimp only
 rw[ap,aD,ap,aD,ap,aD,ap,aD,ap,aD,ap,aD,ap,bB,af]
 dsimp only
 rw[F4,dT,aV,hr,af]
 exact⟨⟨g',m,c',l'⟩,fl',nx,rfl,hR⟩
theorem Eo (hx:ExV x n)(hn:29<=n){e:MS×Int×Int}{S:MS}{fl' nx':Int}(hr:aR ((x,()),(g,rip,fl,m,nx,c,()),l,())=some ((),S.r rip fl' nx'))(hR:RelR S nx' fl' e):iL g m c l x rip fl nx e:=by
 have hop:=hx.op
 unfold iL bx
 dsimp only
 rw[hop,Fr,af,am,dF]
 dsimp only
 rw[ap,show(ew x ()).1=(n:Int)from hop,HM,af,am,dF]
 dsimp only
 rw[ap,show(ew x ()).1=(n:Int)from hop,ca,bB,af,dF]
 dsimp only
 rw[ap,aD,ap,aD,ap,aD,ap,aD,ap,aD,ap,aD,ap,bB,af]
 dsimp only
 rw[F4,dF,ap,hr,af]
 exact⟨S,fl',nx',rfl,hR⟩
end
end
set_option linter.unusedSectionVars false
noncomputable section
theorem G8 (g:List Int)(v w:Int):setA (setA g 7 v) 6 w=setA (setA g 6 w) 7 v:=by
 have hp:∀i a,gj 16 (aJ .i) (Go.Den.G.setA g i a)=Go.Den.G.setA g i a:=fun i a=>by
  unfold Go.Den.G.setA eM
  unfold gj
  rw[List.length_set,ch,List.length_replicate,show 16-(g.length+(16-g.length))=0 by omega]
  simp
 have h1:setA (setA g 7 v) 6 w=eM (setA g 7 v) 6 w:=by rw[Go.Den.G.setA,hp]
 have h2:setA (setA g 6 w) 7 v=eM (setA g 6 w) 7 v:=by rw[Go.Den.G.setA,hp]
 rw[h1,h2]
 unfold Go.Den.G.setA eM
 exact(List.set_comm w v (by decide)).symm
theorem Ax (g:List Int)(v:Int):rg (setA g 6 v) 7=rg g 7/\rg (setA g 7 v) 6=rg g 6:=by
 have hp:∀j:Nat,(gj 16 (aJ .i) g).getD j (aJ .i)=g.getD j (aJ .i):=fun j=>by
  unfold gj
  rw[ec,ec,oD]
  split
  ·rfl
  ·rw[sQ,fF (by omega)]
   split<;>rfl
 unfold rg bk Go.Den.G.setA eM
 constructor
 ·rw[ec,mV (by decide),<-ec,hp]
 ·rw[ec,mV (by decide),<-ec,hp]
section
variable {g:List Int}{m:List Page}{c:Int}{l:List Acc}{k:Nat}(hs:(MS.mk g m c l).ok k)(hk:k+4<=1000){x:Ins}{z:Nat}{rip fl nx:Int}
include hs hk
def qk (g:List Int)(m:List Page)(c:Int)(l:List Acc)(x:Ins)(rip fl nx:Int)(e:MS×Int×Int):Prop:=
 ∃S fl' nx',aR ((x,()),(g,rip,fl,m,nx,c,()),l,())=some ((),S.r rip fl' nx')/\RelR S nx' fl' e
theorem Jh (hx:ExV x 35):qk g m c l x rip fl nx ((MS.mk g m c l).move fl nx x 35 z,nx,fl):=by
 have hop:=hx.op
 have hdv:=hx.dv
 rw[hx.szs.2.2.2.1 rfl]at hdv
 obtain⟨g',m',c',l',e2,r2,ok2⟩:=ptq hs (by omega) (n:=1) rfl hdv (hx.kd.1 (by omega)) nx (show I64 (if kO x.cond fl=true then 1 else 0)by split<;>(unfold I64;decide))
 have r2':∀rip fl',bc ((dw x.dst (),1,(if kO x.cond fl=true then 1 else 0),()),(g,rip,fl',m,nx,c,()),l,())=_:=r2
 have hre:(MS.mk g m c l).move fl nx x 35 z=⟨g',m',c',l'⟩:=by
  unfold MS.move
  rw[iD,iD,iD,iD,iD,aa rfl]
  exact e2
 rw[hre]
 unfold qk
 unfold aR
 dsimp only
 rw[hop,bK,aV]
 rw[rM hx.c0 hx.c1,af,zX,af,r2',af]
 exact⟨⟨g',m',c',l'⟩,fl,nx,rfl,.same rfl⟩
theorem Ji (hx:ExV x 36)(hz:x.size=z):qk g m c l x rip fl nx ((MS.mk g m c l).move fl nx x 36 z,nx,fl):=by
 have hop:=hx.op
 have hz':di (z:Int)=true:=by rw[<-hz];exact hx.szs.1 (by omega)
 have hdv:=hx.dv
 have hsv:=hx.sv
 rw[hz]at hdv
 rw[show sSz x 36=x.size from by unfold sSz;rw[iD,hx.fr.2 (by decide),iD],hz]at hsv
 obtain⟨v1,c1,l1,e1,r1,ok1,I1⟩:=gtq hs (by omega) hz' hsv nx
 obtain⟨v2,c2,l2,e2,r2,ok2,I2⟩:=gtq ok1 (by omega) hz' hdv nx
 unfold qk
 unfold aR
 dsimp only
 rw[hop,aD,ap,bK,aV]
 rw[hz,r1,af,rM hx.c0 hx.c1,af]
 dsimp only[d5]
 by_cases hh:kO x.cond fl=true
 ·obtain⟨g',m',c',l',e3,r3,ok3⟩:=ptq ok1 (by omega) hz' hdv (hx.kd.1 (by omega)) nx I1
  unfold dw at r3
  have hre:(MS.mk g m c l).move fl nx x 36 z=⟨g',m',c',l'⟩:=by
   unfold MS.move
   dsimp only
   rw[iD,iD,iD,iD,iD,iD,aa rfl,e1,aa hh]
   exact e3
  rw[hre,hh,eu,ap,af,am]
  dsimp only[ew,dw,cp7,d5]
  rw[hz,r3,af]
  exact⟨⟨g',m',c',l'⟩,fl,nx,rfl,.same rfl⟩
 ·obtain⟨g',m',c',l',e3,r3,ok3⟩:=ptq ok2 (by omega) hz' hdv (hx.kd.1 (by omega)) nx I2
  unfold dw at r3
  have hre:(MS.mk g m c l).move fl nx x 36 z=⟨g',m',c',l'⟩:=by
   unfold MS.move
   dsimp only
   rw[iD,iD,iD,iD,iD,iD,aa rfl,e1,ae hh]
   dsimp only
   rw[e2]
   exact e3
  rw[hre,jO.2 hh,eF,aV,r2,af,af,am]
  dsimp only[ew,dw,cp7,d5]
  rw[hz,r3,af]
  exact⟨⟨g',m',c',l'⟩,fl,nx,rfl,.same rfl⟩
theorem Jl (hx:ExV x 39)(hz:x.size=z):qk g m c l x rip fl nx ((MS.mk g m c l).move fl nx x 39 z,nx,fl):=by
 have hop:=hx.op
 have h39:=hx.szs.2.1 rfl
 rw[hz]at h39
 have hz':di (z:Int)=true:=by rcases h39 with h|h|h<;>rw[h]<;>rfl
 have hz2:di ((z/2:Nat):Int)=true:=by rcases h39 with h|h|h<;>rw[show z/2=_ from by rw[show z=_ from Int.ofNat_inj.1 h]]<;>rfl
 have h18:=fw hz2
 have hq:nn .i64 (z:Int) 2=((z/2:Nat):Int):=by rw[ig (by omega) (by decide) (by omega)];omega
 have hsg:=jq (rg g 0) ((z/2:Nat):Int) (by omega) (by omega)
 rw[show(8*((z/2:Nat):Int)-1).toNat=8*(z/2)-1 by omega]at hsg
 have hI:I64 (sx (8*(z/2)-1) (rg g 0)):=jv _ (by omega) _
 have hst:=na (g:=g) (rip:=rip) (fl:=fl) hs.g hI hz' (reg0 z)
 have hre:(MS.mk g m c l).move fl nx x 39 z=⟨wc g 0 z (sx (8*(z/2)-1) (rg g 0)),m,c,l⟩:=by
  unfold MS.move
  rw[iD,iD,iD,iD,iD,iD,iD,aa rfl,show nC (MS.mk g m c l).g 0 (z/2)=cR (rg g 0) (z/2)from iD,Hv hz2]
 rw[hre]
 unfold qk
 unfold aR
 dsimp only
 rw[hop,aD,ap,aD,ap,bK,aV]
 rw[hz,hq]
 have hsg':bi (((bk g 0 (aJ .i)),((z/2:Nat):Int),()),())=_:=hsg
 rw[hsg',af,hst,af]
 exact⟨_,fl,nx,rfl,.same rfl⟩
theorem Jm (hx:ExV x 40)(hz:x.size=z):qk g m c l x rip fl nx ((MS.mk g m c l).move fl nx x 40 z,nx,fl):=by
 have hop:=hx.op
 have hz':di (z:Int)=true:=by rw[<-hz];exact hx.szs.1 (by omega)
 have h18:=fw hz'
 have hsg:=jq (rg g 0) (z:Int) (by omega) (by omega)
 rw[show(8*(z:Int)-1).toNat=8*z-1 by omega]at hsg
 have hI0:I64 (sx (8*z-1) (rg g 0)):=jv _ (by omega) _
 have hI:I64 (dC .i64 (sx (8*z-1) (rg g 0)) 63):=by
  rw[Hd hI0]
  split<;>(unfold I64;decide)
 have hst:=na (g:=g) (r:=2) (rip:=rip) (fl:=fl) hs.g hI hz' (by unfold sE;omega)
 have hre:(MS.mk g m c l).move fl nx x 40 z=⟨wc g 2 z (dC .i64 (sx (8*z-1) (rg g 0)) 63),m,c,l⟩:=by
  unfold MS.move
  rw[iD,iD,iD,iD,iD,iD,iD,iD,aa rfl,show nC (MS.mk g m c l).g 0 z=cR (rg g 0) z from iD,Hv hz']
 rw[hre]
 unfold qk
 unfold aR
 dsimp only
 rw[hop,aD,ap,aD,ap,aD,ap,bK,aV]
 rw[hz]
 have hsg':bi (((bk g 0 (aJ .i)),(z:Int),()),())=_:=hsg
 rw[hsg',af,hst,af]
 exact⟨_,fl,nx,rfl,.same rfl⟩
theorem Jn (hx:ExV x 41):qk g m c l x rip fl nx (((MS.mk g m c l).flow nx fl nx x 41).1,((MS.mk g m c l).flow nx fl nx x 41).2,fl):=by
 have hop:=hx.op
 obtain⟨m',c',l',e1,r1,ok1⟩:=stq hs (by omega) (hs.g 7) (n:=1) rfl (hs.g 0)
 have r1':bJ ((bk g 7 (aJ .i),1,bk g 0 (aJ .i),()),(g,rip,fl,m,nx,c,()),l,())=_:=r1 rip fl nx
 have hre:(MS.mk g m c l).flow nx fl nx x 41=(⟨setA g 7 (aL .i64 (rg g 7) 1),m',c',l'⟩,nx):=by
  unfold MS.flow
  rw[iD,iD,iD,iD,iD,iD,aa rfl]
  dsimp only
  rw[e1]
 rw[hre]
 unfold qk
 unfold aR
 dsimp only
 rw[hop,aD,ap,aD,ap,aD,ap,aD,ap,bK,aV]
 rw[r1',af,gU,af]
 exact⟨_,fl,nx,rfl,.same rfl⟩
theorem Jo (hx:ExV x 42):qk g m c l x rip fl nx (((MS.mk g m c l).flow nx fl nx x 42).1,((MS.mk g m c l).flow nx fl nx x 42).2,fl):=by
 have hop:=hx.op
 obtain⟨v1,c1,l1,e1,r1,ok1,I1⟩:=ldq hs (by omega) (hs.g 6) (n:=1) rfl
 obtain⟨m',c',l',e2,r2,ok2⟩:=stq ok1 (by omega) (hs.g 7) (n:=1) rfl I1
 have r1':cg ((bk g 6 (aJ .i),1,()),(g,rip,fl,m,nx,c,()),l,())=_:=r1 rip fl nx
 have r2':bJ ((bk g 7 (aJ .i),1,v1,()),(g,rip,fl,m,nx,c1,()),l1,())=_:=r2 rip fl nx
 have hre:(MS.mk g m c l).flow nx fl nx x 42=(⟨setA (setA g 7 (aL .i64 (rg g 7) 1)) 6 (aL .i64 (rg g 6) 1),m',c',l'⟩,nx):=by
  unfold MS.flow
  rw[iD,iD,iD,iD,iD,iD,iD,aa rfl]
  dsimp only
  rw[e1]
  dsimp only
  rw[e2]
  dsimp only
  rw[(Ax g _).1,G8]
 rw[hre]
 unfold qk
 unfold aR
 dsimp only
 rw[hop,aD,ap,aD,ap,aD,ap,aD,ap,aD,ap,bK,aV]
 rw[r1',af]
 dsimp only[d5]
 rw[r2',af,gU,af]
 dsimp only
 have h6:bD (((bk (eM (gj 16 (aJ .i) g) 7 (aL .i64 (bk g 7 (aJ .i)) 1)) 6 (aJ .i)),1,()),())=some (aL .i64 (rg g 6) 1,()):=by
  rw[gU]
  have:=(Ax g (aL .i64 (bk g 7 (aJ .i)) 1)).2
  unfold rg Go.Den.G.setA at this
  rw[this]
 rw[h6,af]
 exact⟨_,fl,nx,rfl,.same rfl⟩
theorem Jb (hx:ExV x 29):qk g m c l x rip fl nx (((MS.mk g m c l).flow nx fl nx x 29).1,((MS.mk g m c l).flow nx fl nx x 29).2,fl):=by
 have hop:=hx.op
 have hsv:=hx.sv
 rw[show sSz x 29=x.size from by unfold sSz;rw[iD,hx.fr.2 (by decide),iD],hx.szs.2.2.1 (by decide)]at hsv
 obtain⟨v1,c1,l1,e1,r1,ok1,I1⟩:=gtq hs (by omega) (n:=8) rfl hsv nx
 obtain⟨g',m',c',l',e2,r2,ok2⟩:=puq ok1 (by omega) I1
 have r1':aI ((dw x.src (),8,()),(g,rip,fl,m,nx,c,()),l,())=_:=r1 rip fl
 have hre:(MS.mk g m c l).flow nx fl nx x 29=(⟨g',m',c',l'⟩,nx):=by
  unfold MS.flow
  rw[aa rfl,e1]
  dsimp only
  rw[e2]
 rw[hre]
 unfold qk
 unfold aR
 dsimp only
 rw[hop,aD,ap,aD,ap,aD,ap,aD,ap,aD,ap,aD,ap,bK,aV]
 rw[r1',af]
 dsimp only[d5]
 rw[r2,af]
 exact⟨⟨g',m',c',l'⟩,fl,nx,rfl,.same rfl⟩
theorem Jc (hx:ExV x 30):qk g m c l x rip fl nx (((MS.mk g m c l).flow nx fl nx x 30).1,((MS.mk g m c l).flow nx fl nx x 30).2,fl):=by
 have hop:=hx.op
 have hdv:=hx.dv
 rw[hx.szs.2.2.1 (by decide)]at hdv
 obtain⟨v1,g1,c1,l1,e1,r1,ok1,I1⟩:=poq hs (by omega)
 obtain⟨g',m',c',l',e2,r2,ok2⟩:=ptq ok1 (by omega) (n:=8) rfl hdv (hx.kd.1 (by decide)) nx I1
 have r2':bc ((dw x.dst (),8,v1,()),(g1,rip,fl,m,nx,c1,()),l1,())=_:=r2 rip fl
 have hre:(MS.mk g m c l).flow nx fl nx x 30=(⟨g',m',c',l'⟩,nx):=by
  unfold MS.flow
  rw[iD,aa rfl,e1]
  dsimp only
  rw[e2]
 rw[hre]
 unfold qk
 unfold aR
 dsimp only
 rw[hop,aD,ap,aD,ap,aD,ap,aD,ap,aD,ap,aD,ap,aD,ap,bK,aV]
 rw[r1,af]
 dsimp only[d5]
 rw[r2',af]
 exact⟨⟨g',m',c',l'⟩,fl,nx,rfl,.same rfl⟩
theorem Jk (hx:ExV x 38):qk g m c l x rip fl nx (((MS.mk g m c l).flow nx fl nx x 38).1,((MS.mk g m c l).flow nx fl nx x 38).2,fl):=by
 have hop:=hx.op
 have hre:(MS.mk g m c l).flow nx fl nx x 38=(⟨g,m,17,l⟩,nx):=by
  unfold MS.flow
  rw[iD,iD,iD,iD,iD,iD,iD,iD,aa rfl]
 rw[hre]
 unfold qk
 unfold aR
 dsimp only
 rw[hop,aD,ap,aD,ap,aD,ap,aD,ap,aD,ap,aD,ap,aD,ap,aD,ap,bK,aV]
 exact⟨⟨g,m,17,l⟩,fl,nx,rfl,.same rfl⟩
theorem Jp (hx:ExV x 43):qk g m c l x rip fl nx (((MS.mk g m c l).flow nx fl nx x 43).1,((MS.mk g m c l).flow nx fl nx x 43).2,fl):=by
 have hop:=hx.op
 have hre:(MS.mk g m c l).flow nx fl nx x 43=(⟨g,m,18,l⟩,nx):=by
  unfold MS.flow
  rw[iD,iD,iD,iD,iD,iD,iD,iD,iD,aa (by decide)]
 rw[hre]
 unfold qk
 unfold aR
 dsimp only
 rw[hop,aD,ap,aD,ap,aD,ap,aD,ap,aD,ap,aD,ap,aD,ap,aD,ap,aD,ap]
 rw[show eqI ((43:Nat):Int) 43=true from rfl,aV,af,am]
 dsimp only
 rw[aV]
 exact⟨⟨g,m,18,l⟩,fl,nx,rfl,.same rfl⟩
theorem Jq (hx:ExV x 44):qk g m c l x rip fl nx (((MS.mk g m c l).flow nx fl nx x 44).1,((MS.mk g m c l).flow nx fl nx x 44).2,fl):=by
 have hop:=hx.op
 have hre:(MS.mk g m c l).flow nx fl nx x 44=(⟨g,m,18,l⟩,nx):=by
  unfold MS.flow
  rw[iD,iD,iD,iD,iD,iD,iD,iD,iD,aa (by decide)]
 rw[hre]
 unfold qk
 unfold aR
 dsimp only
 rw[hop,aD,ap,aD,ap,aD,ap,aD,ap,aD,ap,aD,ap,aD,ap,aD,ap,aD,ap]
 rw[show eqI ((44:Nat):Int) 43=false from rfl,ap,af,am]
 dsimp only
 rw[show eqI ((44:Nat):Int) 44=true from rfl,aV]
 exact⟨⟨g,m,18,l⟩,fl,nx,rfl,.same rfl⟩
theorem Jd (hx:ExV x 31)(hnx:I64 nx):qk g m c l x rip fl nx (((MS.mk g m c l).flow nx fl nx x 31).1,((MS.mk g m c l).flow nx fl nx x 31).2,fl):=by
 have hop:=hx.op
 have hsv:=hx.sv
 rw[show sSz x 31=x.size from by unfold sSz;rw[iD,hx.fr.2 (by decide),iD],hx.szs.2.2.1 (by decide)]at hsv
 obtain⟨v1,c1,l1,e1,r1,ok1,I1⟩:=goq hs (by omega) hsv nx
 obtain⟨g',m',c',l',e2,r2,ok2⟩:=puq ok1 (by omega) hnx
 have hre:(MS.mk g m c l).flow nx fl nx x 31=(⟨g',m',c',l'⟩,v1):=by
  unfold MS.flow
  rw[iD,iD,aa rfl,e1]
  dsimp only
  rw[e2]
 rw[hre]
 unfold qk
 unfold aR
 dsimp only
 rw[hop,aD,ap,aD,ap,aD,ap,aD,ap,aD,ap,aD,ap,aD,ap,aD,ap,aD,ap]
 rw[show eqI ((31:Nat):Int) 43=false from rfl,ap,af,am]
 dsimp only
 rw[show eqI ((31:Nat):Int) 44=false from rfl,ap,F4]
 unfold dr
 dsimp only
 rw[hop,bK,aV]
 rw[r1,af]
 dsimp only[d5]
 rw[r2,af]
 exact⟨⟨g',m',c',l'⟩,fl,v1,rfl,.same rfl⟩
theorem Je (hx:ExV x 32):qk g m c l x rip fl nx (((MS.mk g m c l).flow nx fl nx x 32).1,((MS.mk g m c l).flow nx fl nx x 32).2,fl):=by
 have hop:=hx.op
 have hsv:=hx.sv
 rw[show sSz x 32=x.size from by unfold sSz;rw[iD,hx.fr.2 (by decide),iD],hx.szs.2.2.1 (by decide)]at hsv
 obtain⟨v1,c1,l1,e1,r1,ok1,I1⟩:=goq hs (by omega) hsv nx
 have hre:(MS.mk g m c l).flow nx fl nx x 32=(⟨g,m,c1,l1⟩,v1):=by
  unfold MS.flow
  rw[iD,iD,iD,iD,aa rfl,e1]
 rw[hre]
 unfold qk
 unfold aR
 dsimp only
 rw[hop,aD,ap,aD,ap,aD,ap,aD,ap,aD,ap,aD,ap,aD,ap,aD,ap,aD,ap]
 rw[show eqI ((32:Nat):Int) 43=false from rfl,ap,af,am]
 dsimp only
 rw[show eqI ((32:Nat):Int) 44=false from rfl,ap,F4]
 unfold dr
 dsimp only
 rw[hop,aD,ap,bK,aV]
 rw[r1,af]
 exact⟨⟨g,m,c1,l1⟩,fl,v1,rfl,.same rfl⟩
theorem Jf (hx:ExV x 33):qk g m c l x rip fl nx (((MS.mk g m c l).flow nx fl nx x 33).1,((MS.mk g m c l).flow nx fl nx x 33).2,fl):=by
 have hop:=hx.op
 have hk3:=hx.kd.2.2.2.2.2.2.2.1 rfl
 have hgo:∀s:MS,s.go nx x=(aL .i64 nx x.src.imm,s):=fun s=>aa hk3
 have hg2:cC ((x,()),(g,rip,fl,m,nx,c,()),l,())=some (aL .i64 nx x.src.imm,(g,rip,fl,m,nx,c,()),l,()):=by
  unfold cC
  dsimp only
  rw[bK hk3,aV,gU,af]
 have hre:(MS.mk g m c l).flow nx fl nx x 33=(⟨g,m,c,l⟩,if kO x.cond fl=true then aL .i64 nx x.src.imm else nx):=by
  unfold MS.flow
  rw[iD,iD,iD,iD,iD,aa rfl,hgo]
  split<;>rfl
 rw[hre]
 unfold qk
 unfold aR
 dsimp only
 rw[hop,aD,ap,aD,ap,aD,ap,aD,ap,aD,ap,aD,ap,aD,ap,aD,ap,aD,ap]
 rw[show eqI ((33:Nat):Int) 43=false from rfl,ap,af,am]
 dsimp only
 rw[show eqI ((33:Nat):Int) 44=false from rfl,ap,F4]
 unfold dr
 dsimp only
 rw[hop,aD,ap,aD,ap,bK,aV]
 rw[rM hx.c0 hx.c1,af]
 dsimp only
 by_cases hh:kO x.cond fl=true
 ·rw[hh,aV,hg2,af,aa rfl]
  exact⟨⟨g,m,c,l⟩,fl,_,rfl,.same rfl⟩
 ·rw[jO.2 hh,ap,iD]
  exact⟨⟨g,m,c,l⟩,fl,_,rfl,.same rfl⟩
theorem Jg (hx:ExV x 34):qk g m c l x rip fl nx (((MS.mk g m c l).flow nx fl nx x 34).1,((MS.mk g m c l).flow nx fl nx x 34).2,fl):=by
 have hop:=hx.op
 obtain⟨v1,g1,c1,l1,e1,r1,ok1,I1⟩:=poq hs (by omega)
 have hre:(MS.mk g m c l).flow nx fl nx x 34=(⟨g1,m,c1,l1⟩,v1):=by
  unfold MS.flow
  rw[iD,iD,iD,aa rfl,e1]
 rw[hre]
 unfold qk
 unfold aR
 dsimp only
 rw[hop,aD,ap,aD,ap,aD,ap,aD,ap,aD,ap,aD,ap,aD,ap,aD,ap,aD,ap]
 rw[show eqI ((34:Nat):Int) 43=false from rfl,ap,af,am]
 dsimp only
 rw[show eqI ((34:Nat):Int) 44=false from rfl,ap,F4]
 unfold dr
 dsimp only
 rw[hop,aD,ap,aD,ap,aD,ap,bK,aV]
 rw[r1,af]
 exact⟨⟨g1,m,c1,l1⟩,fl,v1,rfl,.same rfl⟩
theorem Jj (hx:ExV x 37):qk g m c l x rip fl nx (((MS.mk g m c l).flow nx fl nx x 37).1,((MS.mk g m c l).flow nx fl nx x 37).2,fl):=by
 have hop:=hx.op
 have hre:(MS.mk g m c l).flow nx fl nx x 37=(⟨g,m,c,l⟩,nx):=by
  unfold MS.flow
  rw[iD,iD,iD,iD,iD,iD,iD,iD,iD,iD]
 rw[hre]
 unfold qk
 unfold aR
 dsimp only
 rw[hop,aD,ap,aD,ap,aD,ap,aD,ap,aD,ap,aD,ap,aD,ap,aD,ap,aD,ap]
 rw[show eqI ((37:Nat):Int) 43=false from rfl,ap,af,am]
 dsimp only
 rw[show eqI ((37:Nat):Int) 44=false from rfl,ap,F4]
 unfold dr
 dsimp only
 rw[hop,aD,ap,aD,ap,aD,ap,aD,ap]
 exact⟨⟨g,m,c,l⟩,fl,nx,rfl,.same rfl⟩
end
end
noncomputable section
theorem Hx:∀n,n<45->1<=n->∀z∈szL (szK n),(0:Int)<=z:=by decide +kernel
theorem qk.plain {g:List Int}{m:List Page}{c:Int}{l:List Acc}{k:Nat}(hs:(MS.mk g m c l).ok k)(hk:k+4<=1000){x:Ins}{n:Nat}{rip fl nx:Int}{e:MS×Int×Int}(hx:ExV x n)(hn:29<=n)(h:qk g m c l x rip fl nx e):iL g m c l x rip fl nx e:=by
 obtain⟨S,fl',nx',hr,hR⟩:=h
 exact Eo hs hk hx hn hr hR
theorem plain_r {g:List Int}{rip fl:Int}{m:List Page}{x:Ins}{n z:Nat}(hm:MemT m)(hg:lj g)(hI:I64 fl)(hf:ct fl=true)(hx:ExV x n)(hz:x.size=z):
  iL g m 0 [] x rip fl (aL .i64 rip x.len) (exM g rip fl m x n z):=by
 have hs:(MS.mk g m 0 []).ok 0:=⟨hm,bV 0,hg⟩
 have hk:0+4<=1000:=by decide
 have h1:=hx.n1
 have h2:=hx.n2
 have hnx:I64 (aL .i64 rip x.len):=aB _
 unfold exM
 dsimp only
 by_cases hmv:mvB n=true
 ·rw[aa hmv]
  have hn:=bh hmv
  rcases hn with rfl|rfl|rfl|rfl|rfl|rfl|rfl|rfl|rfl
  ·exact plain_9 hs hk hx hz
  ·exact Jy hs hk hx hz
  ·exact Jv hs hk hx hz
  ·exact Jw hs hk hx hz
  ·exact Jx hs hk hx hz
  ·exact(Jh hs hk hx).plain hs hk hx (by decide)
  ·exact(Ji hs hk hx hz).plain hs hk hx (by decide)
  ·exact(Jl hs hk hx hz).plain hs hk hx (by decide)
  ·exact(Jm hs hk hx hz).plain hs hk hx (by decide)
 ·rw[ae hmv]
  by_cases hwd:wdB n=true
  ·rw[aa hwd]
   have hn:=bh hwd
   exact Ep hs hk hx hz hI hf (by omega)
  ·rw[ae hwd]
   by_cases hfw:fwB n=true
   ·rw[aa hfw]
    have hn:=bh hfw
    rcases hn with rfl|rfl|rfl|rfl|rfl|rfl|rfl|rfl|rfl|rfl|rfl|rfl
    ·exact(Jb hs hk hx).plain hs hk hx (by decide)
    ·exact(Jc hs hk hx).plain hs hk hx (by decide)
    ·exact(Jd hs hk hx hnx).plain hs hk hx (by decide)
    ·exact(Jg hs hk hx).plain hs hk hx (by decide)
    ·exact(Je hs hk hx).plain hs hk hx (by decide)
    ·exact(Jf hs hk hx).plain hs hk hx (by decide)
    ·exact(Jn hs hk hx).plain hs hk hx (by decide)
    ·exact(Jo hs hk hx).plain hs hk hx (by decide)
    ·exact(Jk hs hk hx).plain hs hk hx (by decide)
    ·exact(Jp hs hk hx).plain hs hk hx (by decide)
    ·exact(Jq hs hk hx).plain hs hk hx (by decide)
    ·exact(Jj hs hk hx).plain hs hk hx (by decide)
   ·rw[ae hfw]
    have n1:=of_decide_eq_false (jO.2 hmv)
    have n2:=of_decide_eq_false (jO.2 hwd)
    have n3:=of_decide_eq_false (jO.2 hfw)
    by_cases ha:n<=8\/n=10
    ·exact GT hs hk hx hz ha
    by_cases hb:n=11\/n=12\/n=18\/n=19
    ·exact GU hs hk hx hz hI hf hb
    by_cases hc:20<=n/\n<=24
    ·exact BX hs hk hx hz hI hf hc
    have:n=17:=by omega
    subst this
    exact En hs hk hx hz hI hf
def exS (g:List Int)(rip fl:Int)(m:List Page)(r:MS×Int×Int):((List Int×Int×Int×Unit)×(List Page×Unit)×List Acc×Int×Unit)×Unit:=
 if r.1.code≠0 then(((g,rip,fl,()),(m,()),r.1.l,r.1.code,()),())else(((r.1.g,r.2.1,r.2.2,()),(r.1.m,()),r.1.l,0,()),())
theorem exec_r {g:List Int}{rip fl:Int}{m:List Page}{x:Ins}{n z:Nat}(hm:MemT m)(hg:lj g)(hI:I64 fl)(hf:ct fl=true)(hx:ExV x n)(hz:x.size=z):
  jK (((g,rip,fl,()),(m,()),x,()),())=some (exS g rip fl m (exM g rip fl m x n z)):=by
 obtain⟨S,fl',nx',hr,h1,h2,h3⟩:=plain_r (rip:=rip) hm hg hI hf hx hz
 generalize exM g rip fl m x n z=e at h1 h2 h3
 unfold jK
 dsimp only
 rw[gU,af]
 dsimp only
 rw[hr,af]
 unfold MS.r exS
 dsimp only[p5,d5]
 rw[h1,h2]
 by_cases hc:e.1.code=0
 ·obtain⟨hS,rfl,rfl⟩:=h3 hc
  rw[hc,bK rfl,eu,ap,iD,hS]
 ·rw[aD hc,eF,aV,aa hc]
end
abbrev Shz:=Int×Int×Int×Bool×Int×Unit
def shz (sec:Bool)(n:Nat):Shz:=match dY ((sec,(n:Int),()),())with
 |some x=>x.1
 |none=>(0,0,0,false,0,())
theorem Ha:∀n:Nat,n<256->(dY ((false,(n:Int),()),())).isSome=true/\(dY ((true,(n:Int),()),())).isSome=true:=by decide +kernel
theorem BA (sec:Bool){n:Nat}(h:n<256):dY ((sec,(n:Int),()),())=some (shz sec n,()):=by
 have h2:(dY ((sec,(n:Int),()),())).isSome=true:=by cases sec;exact(Ha n h).1;exact(Ha n h).2
 unfold shz
 cases hx:dY ((sec,(n:Int),()),())with
 |none=>rw[hx]at h2;cases h2
 |some x=>rfl
def shR (z:Shz):(Shz×Int×Unit)×Unit:=((if z.2.1=0 then(0,0,0,false,0,())else z,if z.2.1=0 then 11 else 0,()),())
instance decShz:DecidableEq (Int×Int×Int×Bool×Int×Unit):=inferInstance
instance decShz2:DecidableEq ((Int×Int×Int×Bool×Int×Unit)×Int×Unit):=inferInstance
def okSh (sec:Bool)(n:Nat):Bool:=decide (jC ((sec,(n:Int),()),())=some (shR (shz sec n)))
theorem JG:∀n:Nat,n<256->okSh false n=true:=by decide +kernel
theorem JH:∀n:Nat,n<256->okSh true n=true:=by decide +kernel
theorem DM (sec:Bool){n:Nat}(h:n<256):jC ((sec,(n:Int),()),())=some (shR (shz sec n)):=by
 cases sec
 ·exact bh (JG n h)
 ·exact bh (JH n h)
def sk (f:Int):Bool:=decide (f=1\/f=2\/f=4\/f=5\/f=6\/f=11\/f=12\/f=13\/f=17)
theorem F1:∀n:Nat,n<18->iQ (((n:Int),()),())=some (sk n,()):=by decide +kernel
theorem F2:∀n:Nat,n<18->eQ (((n:Int),()),())=some (sk n,()):=by decide +kernel
def shP (z:Shz):Bool:=decide (0<=z.1/\z.1<=44/\0<=z.2.1/\z.2.1<18/\0<=z.2.2.1/\z.2.2.1<=7/\(z.2.2.2.2.1=0\/z.2.1=17/\(z.2.2.2.2.1=1\/z.2.2.2.2.1=2\/z.2.2.2.2.1=4))/\(z.2.1=17->z.2.2.2.2.1≠0)/\(0<z.2.2.1->sk z.2.1=true/\z.2.1≠17/\z.1=0)/\(z.1=25->z.2.1=2)/\(z.2.1≠0->z.2.2.1=0->1<=z.1))
theorem JD:∀n:Nat,n<256->shP (shz false n)=true:=by decide +kernel
theorem JE:∀n:Nat,n<256->shP (shz true n)=true:=by decide +kernel
theorem JF (sec:Bool){n:Nat}(h:n<256):shP (shz sec n)=true:=by
 cases sec
 ·exact JD n h
 ·exact JE n h
def grp (g d:Nat):Int:=match iW (((g:Int),(d:Int),()),())with
 |some x=>x.1
 |none=>0
theorem Bz:∀g:Nat,g<8->1<=g->∀d:Nat,d<8->iW (((g:Int),(d:Int),()),())=some (grp g d,()):=by decide +kernel
def gpR (o:Int):(Int×Int×Unit)×Unit:=((o,if o=0 then 11 else 0,()),())
def okGp (g d:Nat):Bool:=decide (jB (((g:Int),(d:Int),()),())=some (gpR (grp g d)))
theorem gp_impl:∀g:Nat,g<8->1<=g->∀d:Nat,d<8->okGp g d=true:=by decide +kernel
theorem DJ {g d:Nat}(h:g<8)(h1:1<=g)(k:d<8):jB (((g:Int),(d:Int),()),())=some (gpR (grp g d)):=bh (gp_impl g h h1 d k)
theorem FY:∀g:Nat,g<8->∀d:Nat,d<8->0<=grp g d/\grp g d<=44:=by decide +kernel
def eh (op:Int):Bool:=decide (op=29\/op=30\/op=31\/op=32)
def gD (op:Int):Bool:=decide (op=33\/op=34\/op=37\/op=38\/op=43\/op=44)
theorem D0:∀n:Nat,n<45->fL (((n:Int),()),())=some ((if eh n=true then(8,true,())else if gD n=true then(0,true,())else(0,false,())),()):=by decide +kernel
def szM (by':Bool)(op:Int)(w:Bool)(x:Int):Int:=if eh op=true then 8 else if gD op=true then 0 else if by'=true then 1 else if x/8%2=1 then 8 else if w=true then 2 else 4
def uD:List Int:=[38,46,54,62,100,101,102,103,240,242,243]
theorem Ju:∀n:Nat,n<256->iu (((n:Int),()),())=some (decide ((n:Int)∈uD/\n≠102),()):=by decide +kernel
section
variable {t:List UInt8}{a c:Int}
theorem Fv {x:Int}(nw hr:Bool)(r:_):bn ((0,()),(t,a,c,nw,x%16,hr,r),())=some (lK x 0,(t,a,c,nw,x%16,hr,r),()):=xS 0 (by decide) nw hr r
theorem dbit1 {x:Int}(nw hr:Bool)(r:_):bn ((1,()),(t,a,c,nw,x%16,hr,r),())=some (lK x 1,(t,a,c,nw,x%16,hr,r),()):=xS 1 (by decide) nw hr r
theorem dbit2 {x:Int}(nw hr:Bool)(r:_):bn ((2,()),(t,a,c,nw,x%16,hr,r),())=some (lK x 2,(t,a,c,nw,x%16,hr,r),()):=xS 2 (by decide) nw hr r
theorem dbit3 {x:Int}(nw hr:Bool)(r:_):bn ((3,()),(t,a,c,nw,x%16,hr,r),())=some (lK x 3,(t,a,c,nw,x%16,hr,r),()):=xS 3 (by decide) nw hr r
theorem nB {x:Int}{k:Nat}(hk:k<4):0<=lK x k/\lK x k<=8/\(x=0->lK x k=0):=by
 rcases u6 (x:=x) hk with h|h<;>omega
theorem AD {b:Int}(h0:0<=b)(h1:b<256):eW .i64 1 (b/64)=2^(b/64).toNat:=by
 have:b/64=0\/b/64=1\/b/64=2\/b/64=3:=by omega
 rcases this with h|h|h|h<;>rw[h]<;>decide
theorem oG {α:Type}{o:Option α}{f:Int->Int->α}{p:Int->Int->Prop}(h:Ret o fun y=>∃a c,y=f a c/\p a c):∃a c,o=some (f a c)/\p a c:=by
 obtain⟨y,e,a,c,rfl,h⟩:=h
 exact⟨a,c,e,h⟩
theorem kF {x m z:Int}(hm0:0<=m)(hm:m<256)(nw:Bool)(op z0 z1 z2:Int)(z3:Bool)(z4 rg:Int)(r:_)
  (hl:(t.length:Int)<=1099511627776) (hp:(aU a c).In t):
  ∃a' c',bz ((z,()),(t,a,c,nw,x%16,decide (x≠0),op,z0,z1,z2,z3,z4,m/64,rg,m%8,r),())=
   some (dw (plM t x m z (aU a c)).1 (),(t,a',c',nw,x%16,decide (x≠0),op,z0,z1,z2,z3,z4,m/64,rg,m%8,r),())/\aU a' c'=(plM t x m z (aU a c)).2:=by
 have hmd:0<=m/64/\m/64<=3:=by omega
 have hrm:0<=m%8/\m%8<=7:=by omega
 unfold bz plM
 dsimp only[p12,p14]
 generalize m/64=md at hmd|-
 generalize m%8=rm at hrm|-
 obtain⟨e0,e8,ez⟩:=nB (x:=x) (k:=0) (by decide)
 have⟨f0,f8,_⟩:=nB (x:=x) (k:=1) (by decide)
 by_cases h3:md=3
 ·rw[ag (bK h3),aa h3,Fv,af]
  dsimp only
  rw[aW,Bf (by omega) (by omega) (by omega),af]
  exact⟨a,c,rfl,rfl⟩
 ·rw[aq (aD h3),ae h3,Fv,af]
  dsimp only
  unfold EQ
  by_cases h4:rm=4
  ·rw[ag (bK h4),aa h4]
   obtain⟨a1,c1,hn,hq⟩:=mn 1 (nw,x%16,decide (x≠0),op,z0,z1,z2,z3,z4,md,rg,rm,r) (by decide) (by decide) hl hp
   rw[hn,af]
   dsimp only
   rw[Fv,af,dbit1,af]
   dsimp only
   rw[<-hq]
   have hb:=fv t (aU a c) hp
   generalize rdU t 1 (aU a c)=b at hb|-
   obtain⟨b6,b3,b0,_⟩:=bI hb.1 hb.2
   rw[b6,b3,b0,aW,aW,AD hb.1 hb.2]
   refine oG (Ret.bnd (Q:=fun y=>y=Sum.inl ((decide (md=2\/md=0/\b%8=5),()),(t,a1,c1,nw,x%16,decide (x≠0),op,z0,z1,z2,z3,z4,md,rg,rm,r),(0,0,0,0,0,0,0,()),
    (2,0,(if md=0/\b%8=5 then -1 else b%8+lK x 0),(if b/8%8+lK x 1=4 then -1 else b/8%8+lK x 1),(if b/8%8+lK x 1=4 then 1 else 2^(b/64).toNat),0,0,()),())) ?_ ?_)
   ·have hle:leI 0 (b/64)=true:=gY
    by_cases hA:b/8%8+lK x 1=4<;>by_cases hB:md=0<;>by_cases hC:b%8=5<;>
     simp[b0,hle,hA,hB,hC,eqI,bm,br,bnd,ba,Ret]
   ·rintro _ rfl
    rw[am]
    dsimp only[p12,d6]
    have hin:(aU a1 c1).In t:=by rw[hq];exact hp.adv (by decide)
    by_cases hW:md=2\/md=0/\b%8=5
    ·rw[ag (aF hW)]
     obtain⟨a2,c2,hn2,hq2⟩:=iH 4 (nw,x%16,decide (x≠0),op,z0,z1,z2,z3,z4,md,rg,rm,r) (by decide) (by decide) hl hin
     have hd:nR md rm b=4:=by unfold nR;repeat' split
                              all_goals omega
     rw[hn2,af,hd]
     exact Ret.some ⟨a2,c2,rfl,hq2⟩
    ·rw[aq (aP hW)]
     by_cases h1:md=1
     ·rw[ag (bK h1)]
      obtain⟨a2,c2,hn2,hq2⟩:=iH 1 (nw,x%16,decide (x≠0),op,z0,z1,z2,z3,z4,md,rg,rm,r) (by decide) (by decide) hl hin
      have hd:nR md rm b=1:=by unfold nR;repeat' split
                               all_goals omega
      rw[hn2,af,hd]
      exact Ret.some ⟨a2,c2,rfl,hq2⟩
     ·rw[aq (aD h1)]
      have hd:nR md rm b=0:=by unfold nR;repeat' split
                               all_goals omega
      rw[hd]
      exact Ret.some ⟨a1,c1,rfl,rfl⟩
  ·rw[aq (aD h4),ae h4]
   refine oG (Ret.bnd (Q:=fun y=>y=Sum.inl ((decide (md=2\/md=0/\rm=5),()),(t,a,c,nw,x%16,decide (x≠0),op,z0,z1,z2,z3,z4,md,rg,rm,r),(0,0,0,0,0,0,0,()),
    (2,0,(if md=0/\rm=5 then 16 else rm+lK x 0),-1,1,0,0,()),())) ?_ ?_)
   ·rw[aW]
    by_cases hB:md=0<;>by_cases hC:rm=5<;>
     simp[hB,hC,eqI,br,bnd,ba,Ret]
   ·rintro _ rfl
    rw[am]
    dsimp only[p12,d6]
    by_cases hR:rm=5/\md=0
    ·rw[ag (aF (.inr ⟨hR.2,hR.1⟩)),aa ⟨hR.2,hR.1⟩,aa hR]
     obtain⟨a2,c2,hn2,hq2⟩:=iH 4 (nw,x%16,decide (x≠0),op,z0,z1,z2,z3,z4,md,rg,rm,r) (by decide) (by decide) hl hp
     rw[hn2,af]
     exact Ret.some ⟨a2,c2,rfl,hq2⟩
    ·rw[ae (fun g=>hR ⟨g.2,g.1⟩),ae hR]
     by_cases hW:md=2
     ·rw[ag (aF (.inl hW))]
      obtain⟨a2,c2,hn2,hq2⟩:=iH 4 (nw,x%16,decide (x≠0),op,z0,z1,z2,z3,z4,md,rg,rm,r) (by decide) (by decide) hl hp
      have hd:nR md rm 0=4:=by unfold nR;rw[aa hW]
      rw[hn2,af,hd]
      exact Ret.some ⟨a2,c2,rfl,hq2⟩
     ·rw[aq (aP (fun g=>g.elim hW fun g=>hR ⟨g.2,g.1⟩))]
      by_cases h1:md=1
      ·rw[ag (bK h1)]
       obtain⟨a2,c2,hn2,hq2⟩:=iH 1 (nw,x%16,decide (x≠0),op,z0,z1,z2,z3,z4,md,rg,rm,r) (by decide) (by decide) hl hp
       have hd:nR md rm 0=1:=by unfold nR;rw[ae hW,aa h1]
       rw[hn2,af,hd]
       exact Ret.some ⟨a2,c2,rfl,hq2⟩
      ·rw[aq (aD h1)]
       have hd:nR md rm 0=0:=by unfold nR;repeat' split
                                all_goals omega
       rw[hd]
       exact Ret.some ⟨a,c,rfl,rfl⟩
end
def noD:Opd:=⟨0,0,0,0,0,0,0⟩
def EE (op:Int):Bool:=decide (op=13\/op=14\/op=15\/op=16\/op=31\/op=32\/op=29)
def ra (t:List UInt8)(op z:Int)(q:Opd×Pos):Opd×Opd×Pos:=
 if EE op=true then(noD,q.1,q.2)else if op=10 then(q.1,zO (rdS t (jp 4 z) q.2),adv t (jp 4 z) q.2)else(q.1,noD,q.2)
def su (t:List UInt8)(f frm op z x b m:Int)(p:Pos):Opd×Opd×Pos:=
 if f=1 then((plM t x m z p).1,uj (nr x (m/8%8+lK x 2) z),(plM t x m z p).2)
 else if f=2 then(uj (nr x (m/8%8+lK x 2) z),(plM t x m z p).1,(plM t x m z p).2)
 else if f=17 then(uj (nr x (m/8%8+lK x 2) z),(plM t x m frm p).1,(plM t x m frm p).2)
 else if f=3 then(uj 0,zO (rdS t (jp 4 z) p),adv t (jp 4 z) p)
 else if f=4 then((plM t x m z p).1,zO (rdS t 1 (plM t x m z p).2),adv t 1 (plM t x m z p).2)
 else if f=5 then((plM t x m z p).1,zO (rdS t (jp 4 z) (plM t x m z p).2),adv t (jp 4 z) (plM t x m z p).2)
 else if f=6 then ra t op z (plM t x m z p)
 else if f=7 then(if op=29 then(noD,uj (b%8+lK x 0),p)else(uj (b%8+lK x 0),noD,p))
 else if f=8 then(uj (nr x (b%8+lK x 0) z),zO (rdS t z p),adv t z p)
 else if f=9 then(noD,zO (rdS t 1 p),adv t 1 p)
 else if f=15 then(noD,zO (if op=44 then rdU t 1 p else rdS t 1 p),adv t 1 p)
 else if f=10\/f=16 then(noD,zO (rdS t 4 p),adv t 4 p)
 else if f=11 then((plM t x m z p).1,zO (rdU t 1 (plM t x m z p).2),adv t 1 (plM t x m z p).2)
 else if f=12 then((plM t x m z p).1,zO 1,(plM t x m z p).2)
 else if f=13 then((plM t x m z p).1,uj 1,(plM t x m z p).2)
 else(noD,noD,p)
section
variable {t:List UInt8}{a c:Int}
theorem Bh {w:Int}{p:Pos}(h:p.In t)(hw:0<=w):(FE t w p).In t:=by
 unfold FE;split
 ·exact h
 ·exact h.adv hw
theorem CK (mod rm b:Int):0<=nR mod rm b:=by unfold nR;(repeat' split)<;>decide
theorem lO {x m z:Int}{p:Pos}(h:p.In t):(plM t x m z p).2.In t:=by
 unfold plM EQ
 split
 ·exact h
 ·split
  ·exact Bh (h.adv (by decide)) (CK ..)
  ·split
   ·exact Bh h (show(0:Int)<=4 by decide)
   ·exact Bh h (CK ..)
theorem rK {z:Int}(h:ii z):1<=jp 4 z/\jp 4 z<=8:=by
 unfold ii at h
 rcases h with rfl|rfl|rfl|rfl<;>decide
theorem Be {nw:Bool}{rx:Int}{hr:Bool}{q6 q7 q8 q9:Int}{q10:Bool}{q11 q12 q13 q14 q15:Int}{z:Int}(r:_)(hz:ii z)(hl:(t.length:Int)<=1099511627776)(hp:(aU a c).In t):
  ∃a' c',ck ((),(t,a,c,nw,rx,hr,q6,q7,q8,q9,q10,q11,q12,q13,q14,q15,z,r),())=
   some (dw (zO (rdS t (jp 4 z) (aU a c))) (),(t,a',c',nw,rx,hr,q6,q7,q8,q9,q10,q11,q12,q13,q14,q15,z,r),())/\aU a' c'=adv t (jp 4 z) (aU a c):=by
 obtain⟨a',c',e,h⟩:=iH (jp 4 z) (nw,rx,hr,q6,q7,q8,q9,q10,q11,q12,q13,q14,q15,z,r) (rK hz).1 (rK hz).2 hl hp
 unfold ck dJ
 dsimp only[p16]
 rw[e,af,af]
 exact⟨a',c',rfl,h⟩
theorem sw1 {α β:Type}{a b:Bool}{r:α}:br a (some (Sum.inl ((a,()),r):Sum ((Bool×Unit)×α) β)) (some (Sum.inl ((b,()),r)))=some (Sum.inl ((a||b,()),r)):=by cases a<;>rfl
theorem sw2 {α β γ:Type}{a b:Bool}{r:α}{y:γ}:br a (some (Sum.inl ((y,a,()),r):Sum ((γ×Bool×Unit)×α) β)) (some (Sum.inl ((y,b,()),r)))=some (Sum.inl ((y,a||b,()),r)):=by cases a<;>rfl
theorem Hj (op:Int):(eqI op 13||(eqI op 14||(eqI op 15||(eqI op 16||(eqI op 31||(eqI op 32||eqI op 29))))))=EE op:=by
 rw[bv];simp[EE,eqI]
theorem done_eq {x m z:Int}(hm0:0<=m)(hm:m<256)(nw:Bool)(q6 q7 q8 q9:Int)(q10:Bool)(q11 q13 op:Int)(hz:ii z)(hl:(t.length:Int)<=1099511627776)(hp:(aU a c).In t):
  ∃a' c',dR ((),(t,a,c,nw,x%16,decide (x≠0),q6,q7,q8,q9,q10,q11,m/64,q13,m%8,op,z,0,0,0,0,0,0,0,0,0,0,0,0,0,0,0,0,0,()),())=
   some ((),(t,a',c',nw,x%16,decide (x≠0),q6,q7,q8,q9,q10,q11,m/64,q13,m%8,op,z,0,0,dw (ra t op z (plM t x m z (aU a c))).1 (dw (ra t op z (plM t x m z (aU a c))).2.1 (0,()))),())/\
   aU a' c'=(ra t op z (plM t x m z (aU a c))).2.2:=by
 obtain⟨a1,c1,e,h⟩:=kF (x:=x) (z:=z) hm0 hm nw q6 q7 q8 q9 q10 q11 q13 (op,z,0,0,0,0,0,0,0,0,0,0,0,0,0,0,0,0,0,()) hl hp
 have hin:(aU a1 c1).In t:=by rw[h];exact lO hp
 unfold dR
 dsimp only[p16,p15]
 rw[e,af]
 dsimp only
 simp only[sw1,af,am,Hj]
 unfold ra
 cases hs:EE op with
 |true=>
  rw[aV,af,rC,aa rfl]
  exact⟨a1,c1,rfl,h⟩
 |false=>
  rw[ap,af,am,iD]
  by_cases h10:op=10
  ·rw[ag (bK h10),aa h10]
   obtain⟨a2,c2,e2,h2⟩:=Be (nw:=nw) (rx:=x%16) (hr:=decide (x≠0)) (q6:=q6) (q7:=q7) (q8:=q8) (q9:=q9) (q10:=q10) (q11:=q11) (q12:=m/64) (q13:=q13) (q14:=m%8) (q15:=op) (0,0,dw (plM t x m z (aU a c)).1 (0,0,0,0,0,0,0,0,())) hz hl hin
   refine oG (Ret.bnd (Q:=fun y=>y=_) (Ret.of_eq e2 rfl) ?_)
   rintro _ rfl
   rw[<-h]
   exact Ret.some ⟨a2,c2,rfl,h2⟩
  ·rw[aq (aD h10),ae h10]
   exact⟨a1,c1,rfl,h⟩
end
section
variable {t:List UInt8}{a c:Int}
theorem bI7 (b:Int)(h0:0<=b)(h1:b<256):dP .i64 b 7=b%8:=(bI h0 h1).2.2.1
theorem sz18 {z:Int}(h:ii z):1<=z/\z<=8:=by unfold ii at h;omega
theorem zA {x m z f frm b op:Int}(hm0:0<=m)(hm:m<256)(hb0:0<=b)(hb:b<256)(nw:Bool)(z0 z2:Int)(z3:Bool)(hz:(f=3\/f=5\/f=6\/f=8)->ii z)(hl:(t.length:Int)<=1099511627776)(hp:(aU a c).In t):
  ∃a' c',dS ((),(t,a,c,nw,x%16,decide (x≠0),b,z0,f,z2,z3,frm,m/64,m/8%8,m%8,op,z,0,0,0,0,0,0,0,0,0,0,0,0,0,0,0,0,0,()),())=
   some ((),(t,a',c',nw,x%16,decide (x≠0),b,z0,f,z2,z3,frm,m/64,m/8%8,m%8,op,z,0,(if f=17 then frm else 0),dw (su t f frm op z x b m (aU a c)).1 (dw (su t f frm op z x b m (aU a c)).2.1 (0,()))),())/\
   aU a' c'=(su t f frm op z x b m (aU a c)).2.2:=by
 obtain⟨e0,e8,ez⟩:=nB (x:=x) (k:=0) (by decide)
 obtain⟨g0,g8,gz⟩:=nB (x:=x) (k:=2) (by decide)
 unfold dS su
 dsimp only[p13,p16,p8,p15,p11,p6]
 rw[dbit2,af]
 dsimp only
 rw[aW,Bf (by omega) (by omega) (by omega),af]
 dsimp only
 by_cases f1:f=1
 ·rw[ag (bK f1),aa f1,iN]
  obtain⟨a1,c1,e,h⟩:=kF (x:=x) (z:=z) hm0 hm nw b z0 f z2 z3 frm (m/8%8) (op,z,0,0,0,0,0,0,0,0,0,0,0,0,0,0,0,0,0,()) hl hp
  rw[e,af]
  exact⟨a1,c1,rfl,h⟩
 rw[aq (aD f1),ae f1]
 by_cases f2:f=2
 ·rw[ag (bK f2),aa f2,iN]
  obtain⟨a1,c1,e,h⟩:=kF (x:=x) (z:=z) hm0 hm nw b z0 f z2 z3 frm (m/8%8) (op,z,0,0,0,0,0,0,0,0,0,0,0,0,0,0,0,0,0,()) hl hp
  rw[e,af]
  exact⟨a1,c1,rfl,h⟩
 rw[aq (aD f2),ae f2]
 by_cases f17:f=17
 ·rw[ag (bK f17),aa f17,aa f17]
  obtain⟨a1,c1,e,h⟩:=kF (x:=x) (z:=frm) hm0 hm nw b z0 f z2 z3 frm (m/8%8) (op,z,0,frm,0,0,0,0,0,0,0,0,0,0,0,0,0,0,0,()) hl hp
  rw[e,af]
  exact⟨a1,c1,rfl,h⟩
 rw[aq (aD f17),ae f17,ae f17]
 by_cases f3:f=3
 ·rw[ag (bK f3),aa f3]
  obtain⟨a2,c2,e2,h2⟩:=Be (nw:=nw) (rx:=x%16) (hr:=decide (x≠0)) (q6:=b) (q7:=z0) (q8:=f) (q9:=z2) (q10:=z3) (q11:=frm) (q12:=m/64) (q13:=m/8%8) (q14:=m%8) (q15:=op) (0,0,dw (uj 0) (0,0,0,0,0,0,0,0,())) (hz (by omega)) hl hp
  refine oG (Ret.bnd (Q:=fun y=>y=(dw (uj 0) (),())) (Ret.some rfl) ?_)
  rintro _ rfl
  refine Ret.bnd (Q:=fun y=>y=_) (Ret.of_eq e2 rfl) ?_
  rintro _ rfl
  exact Ret.some ⟨a2,c2,rfl,h2⟩
 rw[aq (aD f3),ae f3]
 by_cases f4:f=4
 ·rw[ag (bK f4),aa f4]
  obtain⟨a1,c1,e,h⟩:=kF (x:=x) (z:=z) hm0 hm nw b z0 f z2 z3 frm (m/8%8) (op,z,0,0,0,0,0,0,0,0,0,0,0,0,0,0,0,0,0,()) hl hp
  have hin:(aU a1 c1).In t:=by rw[h];exact lO hp
  obtain⟨a2,c2,e2,h2⟩:=iH 1 (nw,x%16,decide (x≠0),b,z0,f,z2,z3,frm,m/64,m/8%8,m%8,op,z,0,0,dw (plM t x m z (aU a c)).1 (0,0,0,0,0,0,0,0,())) (by decide) (by decide) hl hin
  rw[e,af]
  refine oG (Ret.bnd (Q:=fun y=>y=_) (Ret.of_eq e2 rfl) ?_)
  rintro _ rfl
  rw[<-h]
  exact Ret.some ⟨a2,c2,rfl,h2⟩
 rw[aq (aD f4),ae f4]
 by_cases f5:f=5
 ·rw[ag (bK f5),aa f5]
  obtain⟨a1,c1,e,h⟩:=kF (x:=x) (z:=z) hm0 hm nw b z0 f z2 z3 frm (m/8%8) (op,z,0,0,0,0,0,0,0,0,0,0,0,0,0,0,0,0,0,()) hl hp
  have hin:(aU a1 c1).In t:=by rw[h];exact lO hp
  obtain⟨a2,c2,e2,h2⟩:=Be (nw:=nw) (rx:=x%16) (hr:=decide (x≠0)) (q6:=b) (q7:=z0) (q8:=f) (q9:=z2) (q10:=z3) (q11:=frm) (q12:=m/64) (q13:=m/8%8) (q14:=m%8) (q15:=op) (0,0,dw (plM t x m z (aU a c)).1 (0,0,0,0,0,0,0,0,())) (hz (by omega)) hl hin
  rw[e,af]
  refine oG (Ret.bnd (Q:=fun y=>y=_) (Ret.of_eq e2 rfl) ?_)
  rintro _ rfl
  rw[<-h]
  exact Ret.some ⟨a2,c2,rfl,h2⟩
 rw[aq (aD f5),ae f5]
 by_cases f6:f=6
 ·rw[ag (bK f6),aa f6]
  obtain⟨a1,c1,e,h⟩:=done_eq (x:=x) (z:=z) hm0 hm nw b z0 f z2 z3 frm (m/8%8) op (hz (by omega)) hl hp
  rw[e,af]
  exact⟨a1,c1,rfl,h⟩
 rw[aq (aD f6),ae f6]
 by_cases f7:f=7
 ·rw[ag (bK f7),aa f7,Fv,af,bI7 b hb0 hb]
  dsimp only
  rw[aW]
  by_cases ho:op=29
  ·rw[aa ho,bK ho]
   exact⟨a,c,rfl,rfl⟩
  ·rw[ae ho,aD ho]
   exact⟨a,c,rfl,rfl⟩
 rw[aq (aD f7),ae f7]
 by_cases f8:f=8
 ·rw[ag (bK f8),aa f8,Fv,af,bI7 b hb0 hb]
  dsimp only
  rw[aW,Bf (by omega) (by omega) (by omega),af]
  obtain⟨s1,s8⟩:=sz18 (hz (by omega))
  obtain⟨a2,c2,e2,h2⟩:=iH z (nw,x%16,decide (x≠0),b,z0,f,z2,z3,frm,m/64,m/8%8,m%8,op,z,0,0,dw (uj (nr x (b%8+lK x 0) z)) (0,0,0,0,0,0,0,0,())) s1 s8 hl hp
  refine oG (Ret.bnd (Q:=fun y=>y=_) (Ret.of_eq e2 rfl) ?_)
  rintro _ rfl
  exact Ret.some ⟨a2,c2,rfl,h2⟩
 rw[aq (aD f8),ae f8]
 by_cases f9:f=9
 ·rw[ag (bK f9),aa f9]
  obtain⟨a2,c2,e2,h2⟩:=iH 1 (nw,x%16,decide (x≠0),b,z0,f,z2,z3,frm,m/64,m/8%8,m%8,op,z,0,0,0,0,0,0,0,0,0,0,0,0,0,0,0,0,0,()) (by decide) (by decide) hl hp
  rw[e2,af]
  exact⟨a2,c2,rfl,h2⟩
 rw[aq (aD f9),ae f9]
 by_cases f15:f=15
 ·rw[ag (bK f15),aa f15]
  obtain⟨a2,c2,e2,h2⟩:=mn 1 (nw,x%16,decide (x≠0),b,z0,f,z2,z3,frm,m/64,m/8%8,m%8,op,z,0,0,0,0,0,0,0,0,0,0,0,0,0,0,0,0,0,()) (by decide) (by decide) hl hp
  rw[e2,af]
  dsimp only
  by_cases ho:op=44
  ·rw[aa ho,bK ho,eu,ap,af,am]
   exact⟨a2,c2,rfl,h2⟩
  ·rw[ae ho,aD ho,eF,aV,qb _ _ (by decide) (by decide),af,af,am]
   exact⟨a2,c2,rfl,h2⟩
 rw[aq (aD f15),ae f15]
 simp only[sw2,af,am]
 by_cases f10:f=10\/f=16
 ·rw[ag (by simpa[eqI]using f10),aa f10]
  obtain⟨a2,c2,e2,h2⟩:=iH 4 (nw,x%16,decide (x≠0),b,z0,f,z2,z3,frm,m/64,m/8%8,m%8,op,z,0,0,0,0,0,0,0,0,0,0,0,0,0,0,0,0,0,()) (by decide) (by decide) hl hp
  rw[e2,af]
  exact⟨a2,c2,rfl,h2⟩
 rw[aq (by simpa[eqI]using f10),ae f10]
 by_cases f11:f=11
 ·rw[ag (bK f11),aa f11]
  obtain⟨a1,c1,e,h⟩:=kF (x:=x) (z:=z) hm0 hm nw b z0 f z2 z3 frm (m/8%8) (op,z,0,0,0,0,0,0,0,0,0,0,0,0,0,0,0,0,0,()) hl hp
  have hin:(aU a1 c1).In t:=by rw[h];exact lO hp
  obtain⟨a2,c2,e2,h2⟩:=mn 1 (nw,x%16,decide (x≠0),b,z0,f,z2,z3,frm,m/64,m/8%8,m%8,op,z,0,0,dw (plM t x m z (aU a c)).1 (0,0,0,0,0,0,0,0,())) (by decide) (by decide) hl hin
  rw[e,af]
  refine oG (Ret.bnd (Q:=fun y=>y=_) (Ret.of_eq e2 rfl) ?_)
  rintro _ rfl
  rw[<-h]
  exact Ret.some ⟨a2,c2,rfl,h2⟩
 rw[aq (aD f11),ae f11]
 by_cases f12:f=12
 ·rw[ag (bK f12),aa f12]
  obtain⟨a1,c1,e,h⟩:=kF (x:=x) (z:=z) hm0 hm nw b z0 f z2 z3 frm (m/8%8) (op,z,0,0,0,0,0,0,0,0,0,0,0,0,0,0,0,0,0,()) hl hp
  rw[e,af]
  exact⟨a1,c1,rfl,h⟩
 rw[aq (aD f12),ae f12]
 by_cases f13:f=13
 ·rw[ag (bK f13),aa f13]
  obtain⟨a1,c1,e,h⟩:=kF (x:=x) (z:=z) hm0 hm nw b z0 f z2 z3 frm (m/8%8) (op,z,0,0,0,0,0,0,0,0,0,0,0,0,0,0,0,0,0,()) hl hp
  rw[e,af]
  exact⟨a1,c1,rfl,h⟩
 rw[aq (aD f13),ae f13]
 exact⟨a,c,rfl,rfl⟩
end
section
variable {t:List UInt8}{a c x:Int}{w:Bool}
theorem zC (hx:rS x):bL ((0,()),(t,a,x,w,c,()),())=some (lK x 0,(t,a,x,w,c,()),()):=Cf hx 0 (by decide)
theorem ext_s1 (hx:rS x):bL ((1,()),(t,a,x,w,c,()),())=some (lK x 1,(t,a,x,w,c,()),()):=Cf hx 1 (by decide)
theorem ext_s2 (hx:rS x):bL ((2,()),(t,a,x,w,c,()),())=some (lK x 2,(t,a,x,w,c,()),()):=Cf hx 2 (by decide)
theorem rU {z:Int}(hz:ii z)(hl:(t.length:Int)<=1099511627776)(hp:(aU a c).In t):
  ∃a' c',cz ((z,()),(t,a,x,w,c,()),())=some (dw (zO (rdS t (jp 4 z) (aU a c))) (),(t,a',x,w,c',()),())/\aU a' c'=adv t (jp 4 z) (aU a c):=by
 have e4:jp z 4=jp 4 z:=by unfold ii at hz;rcases hz with rfl|rfl|rfl|rfl<;>decide
 obtain⟨a',c',e,h⟩:=ju (x:=x) (w:=w) (jp 4 z) (rK hz).1 (rK hz).2 hl hp
 unfold cz
 dsimp only
 rw[e4,e,af]
 exact⟨a',c',rfl,h⟩
theorem Ex {b:Int}(h0:0<=b)(h1:b<256):an .u64 (b/64)=b/64:=dl
theorem EB {md rm:Int}(hx:rS x)(hrm:0<=rm/\rm<=7)(hl:(t.length:Int)<=1099511627776)(hp:(aU a c).In t):
  ∃a' c',fD ((md,rm,()),(t,a,x,w,c,()),())=some (dw (EQ t x md rm (aU a c)).1 (),(t,a',x,w,c',()),())/\aU a' c'=(EQ t x md rm (aU a c)).2:=by
 obtain⟨e0,e8,ez⟩:=nB (x:=x) (k:=0) (by decide)
 obtain⟨f0,f8,_⟩:=nB (x:=x) (k:=1) (by decide)
 unfold fD EQ
 rw[zC hx,af]
 dsimp only[d6]
 by_cases h4:rm=4
 ·rw[ag (bK h4),aa h4]
  obtain⟨a1,c1,hn,hq⟩:=nJ (x:=x) (w:=w) hl hp
  have hin:(aU a1 c1).In t:=by rw[hq];exact hp.adv (by decide)
  rw[hn,af]
  dsimp only
  rw[zC hx,af,ext_s1 hx,af]
  dsimp only
  rw[<-hq]
  have hb:=fv t (aU a c) hp
  generalize rdU t 1 (aU a c)=b at hb|-
  rw[cS hb.1,ig hb.1 (by decide) (by omega),ig hb.1 (by decide) (by omega),cS,aW,aW,Ex hb.1 hb.2,AD hb.1 hb.2]
  have hle:leI 0 (b/64)=true:=gY
  refine oG (Ret.bnd (Q:=fun y=>∃a2 c2,y=Sum.inl ((md,()),(t,a2,x,w,c2,()),(0,0,0,0,0,0,0,()),
    (2,0,(if md=0/\b%8=5 then -1 else b%8+lK x 0),(if b/8%8+lK x 1=4 then -1 else b/8%8+lK x 1),(if b/8%8+lK x 1=4 then 1 else 2^(b/64).toNat),(if md=0/\b%8=5 then rdS t 4 (aU a1 c1)else 0),0,()),())/\
    aU a2 c2=if md=0/\b%8=5 then adv t 4 (aU a1 c1)else aU a1 c1) ?_ ?_)
  ·refine Ret.bnd (Q:=fun y=>y=Sum.inl ((md,b,()),(t,a1,x,w,c1,()),(0,0,0,0,0,0,0,()),
    (2,0,b%8+lK x 0,(if b/8%8+lK x 1=4 then -1 else b/8%8+lK x 1),(if b/8%8+lK x 1=4 then 1 else 2^(b/64).toNat),0,0,()),())) ?_ ?_
   ·by_cases hA:b/8%8+lK x 1=4<;>simp[hle,hA,eqI,bm,br,Ret]
   ·rintro _ rfl
    rw[am]
    dsimp only
    rw[cS hb.1]
    by_cases hC:b%8=5
    ·rw[ag (bK hC),af]
     by_cases hB:md=0
     ·rw[ag (bK hB)]
      simp only[aa (show md=0/\b%8=5 from⟨hB,hC⟩)]
      obtain⟨a2,c2,hn2,hq2⟩:=ju (x:=x) (w:=w) 4 (by decide) (by decide) hl hin
      rw[hn2,af,af,am]
      exact Ret.some ⟨a2,c2,rfl,hq2⟩
     ·rw[aq (aD hB),af,am]
      simp only[ae (show ¬(md=0/\b%8=5)from fun g=>hB g.1)]
      exact Ret.some ⟨a1,c1,rfl,rfl⟩
    ·rw[aq (aD hC),af,ap,af,am]
     simp only[ae (show ¬(md=0/\b%8=5)from fun g=>hC g.2)]
     exact Ret.some ⟨a1,c1,rfl,rfl⟩
  ·rintro _ ⟨a2,c2,rfl,h2⟩
   rw[am]
   dsimp only
   by_cases hBC:md=0/\b%8=5
   ·have hd:nR md rm b=4:=by unfold nR;rw[iN,iN,iP]
    rw[aa hBC]at h2
    rw[aa hBC,aa hBC,aD (show md≠1 by omega),ap,af,am]
    dsimp only
    rw[aD (show md≠2 by omega),ap,hd]
    exact Ret.some ⟨a2,c2,rfl,h2⟩
   ·rw[ae hBC]at h2
    rw[ae hBC,ae hBC]
    have hin2:(aU a2 c2).In t:=by rw[h2];exact hin
    by_cases m1:md=1
    ·have hd:nR md rm b=1:=by unfold nR;rw[iN,aa m1]
     obtain⟨a3,c3,hn3,hq3⟩:=ju (x:=x) (w:=w) 1 (by decide) (by decide) hl hin2
     rw[bK m1,aV,hn3,af,af,am]
     dsimp only
     rw[aD (show md≠2 by omega),ap,hd,<-h2]
     exact Ret.some ⟨a3,c3,rfl,hq3⟩
    ·rw[aD m1,ap,af,am]
     dsimp only
     by_cases m2:md=2
     ·have hd:nR md rm b=4:=by unfold nR;rw[aa m2]
      obtain⟨a3,c3,hn3,hq3⟩:=ju (x:=x) (w:=w) 4 (by decide) (by decide) hl hin2
      rw[bK m2,aV,hn3,af,hd,<-h2]
      exact Ret.some ⟨a3,c3,rfl,hq3⟩
     ·have hd:nR md rm b=0:=by unfold nR;rw[ae m2,ae m1,iN]
      rw[aD m2,ap,hd]
      exact Ret.some ⟨a2,c2,rfl,h2⟩
 ·rw[aq (aD h4),ae h4]
  refine oG (Ret.bnd (Q:=fun y=>∃a2 c2,y=Sum.inl ((md,()),(t,a2,x,w,c2,()),(0,0,0,0,0,0,0,()),
    (2,0,(if rm=5/\md=0 then 16 else rm+lK x 0),-1,1,(if rm=5/\md=0 then rdS t 4 (aU a c)else 0),0,()),())/\
    aU a2 c2=if rm=5/\md=0 then adv t 4 (aU a c)else aU a c) ?_ ?_)
  ·by_cases hR:rm=5/\md=0
   ·rw[ag (bK hR.1),af,bK hR.2,aV,aa hR,aa hR,aa hR]
    obtain⟨a2,c2,hn2,hq2⟩:=ju (x:=x) (w:=w) 4 (by decide) (by decide) hl hp
    rw[hn2,af,af,am]
    exact Ret.some ⟨a2,c2,rfl,hq2⟩
   ·rw[ae hR,ae hR,ae hR]
    refine Ret.bnd (Q:=fun y=>y=false) ?_ ?_
    ·by_cases h5:rm=5
     ·rw[ag (bK h5)]
      exact Ret.some (aD (fun g=>hR ⟨h5,g⟩))
     ·rw[aq (aD h5)]
      exact Ret.some rfl
    ·rintro _ rfl
     rw[ap,af,am,aW]
     exact Ret.some ⟨a,c,rfl,rfl⟩
  ·rintro _ ⟨a2,c2,rfl,h2⟩
   rw[am]
   dsimp only
   by_cases hR:rm=5/\md=0
   ·rw[aa hR]at h2
    rw[aa hR,aa hR,aa hR,aD (show md≠1 by omega),ap,af,am]
    dsimp only
    rw[aD (show md≠2 by omega),ap]
    exact Ret.some ⟨a2,c2,rfl,h2⟩
   ·rw[ae hR]at h2
    rw[ae hR,ae hR,ae hR]
    have hin2:(aU a2 c2).In t:=by rw[h2];exact hp
    by_cases m1:md=1
    ·have hd:nR md rm 0=1:=by unfold nR;rw[iN,aa m1]
     obtain⟨a3,c3,hn3,hq3⟩:=ju (x:=x) (w:=w) 1 (by decide) (by decide) hl hin2
     rw[bK m1,aV,hn3,af,af,am]
     dsimp only
     rw[aD (show md≠2 by omega),ap,hd,<-h2]
     exact Ret.some ⟨a3,c3,rfl,hq3⟩
    ·rw[aD m1,ap,af,am]
     dsimp only
     by_cases m2:md=2
     ·have hd:nR md rm 0=4:=by unfold nR;rw[aa m2]
      obtain⟨a3,c3,hn3,hq3⟩:=ju (x:=x) (w:=w) 4 (by decide) (by decide) hl hin2
      rw[bK m2,aV,hn3,af,hd,<-h2]
      exact Ret.some ⟨a3,c3,rfl,hq3⟩
     ·have hd:nR md rm 0=0:=by unfold nR;rw[ae m2,ae m1,iN]
      rw[aD m2,ap,hd]
      exact Ret.some ⟨a2,c2,rfl,h2⟩
end
section
variable {t:List UInt8}{a c x:Int}{w:Bool}
theorem sOne_eq (y:Ins)(o:Opd)(h1:y.dst=noD)(h2:y.src=noD):kr ((y,dw o (),()),())=some (if EE y.op=true then⟨y.op,y.size,y.cond,y.frm,noD,o,y.len⟩else⟨y.op,y.size,y.cond,y.frm,o,noD,y.len⟩,()):=by
 unfold kr
 dsimp only
 simp only[sw1,af,am,Hj]
 cases hs:EE y.op with
 |true=>
  rw[aV,af,rC,aa rfl]
  obtain⟨_,_,_,_,d,e,_⟩:=y
  dsimp only at h1 h2
  subst h1 h2;rfl
 |false=>
  rw[ap,af,am,iD]
  obtain⟨_,_,_,_,d,e,_⟩:=y
  dsimp only at h1 h2
  subst h1 h2;rfl
theorem Hg {m z f frm op cd:Int}(hx:rS x)(hm0:0<=m)(hm:m<256)(b:Int)(z0 z2:Int)(z3:Bool)(hf:sk f=true)(hz:(f=5\/f=6)->ii z)(hl:(t.length:Int)<=1099511627776)(hp:(aU a c).In t):
  ∃a' c',fS ((⟨op,z,cd,frm,noD,noD,0⟩,(z0,f,z2,z3,frm,()),m,()),(t,a,x,w,c,()),())=
   some (⟨op,z,cd,frm,(su t f frm op z x b m (aU a c)).1,(su t f frm op z x b m (aU a c)).2.1,0⟩,(t,a',x,w,c',()),())/\aU a' c'=(su t f frm op z x b m (aU a c)).2.2:=by
 obtain⟨e0,e8,ez⟩:=nB (x:=x) (k:=0) (by decide)
 obtain⟨g0,g8,gz⟩:=nB (x:=x) (k:=2) (by decide)
 unfold fS
 dsimp only
 obtain⟨Z,hZ⟩:∃Z,Z=if f=17 then frm else z:=⟨_,rfl⟩
 have hm8:nn .i64 m 8=m/8:=ig hm0 (by decide) (by omega)
 have hm64:nn .i64 m 64=m/64:=ig hm0 (by decide) (by omega)
 have hr8:gC m 8=m%8:=cS hm0
 have hr88:gC (m/8) 8=m/8%8:=cS
 refine oG (Ret.bnd (Q:=fun y=>y=Sum.inl ((m,Z,()),(t,a,x,w,c,()),ew ⟨op,z,cd,frm,noD,noD,0⟩ (),(z0,f,z2,z3,frm,()),(0,0,0,0,0,0,0,0,0,0,0,0,0,0,0,0,0,0,0,()),())) ?_ ?_)
 ·by_cases h17:f=17
  ·rw[ag (bK h17)];exact Ret.some (by rw[hZ,aa h17])
  ·rw[aq (aD h17)];exact Ret.some (by rw[hZ,ae h17])
 ·rintro _ rfl
  rw[am]
  dsimp only
  rw[ext_s2 hx,af,hm8,hm64,hr8,hr88]
  dsimp only
  rw[aW,Cj (by omega) (by omega),af]
  refine Ret.bnd (Q:=fun y=>∃a1 c1,y=Sum.inl ((),(t,a1,x,w,c1,()),ew ⟨op,z,cd,frm,noD,noD,0⟩ (),(z0,f,z2,z3,frm,()),(0,0,0,0,0,0,0,0,0,0,0,0,0,0,0,0,0,0,0,()),
   dw (uj (nr x (m/8%8+lK x 2) z)) (),dw (plM t x m Z (aU a c)).1 (),())/\aU a1 c1=(plM t x m Z (aU a c)).2) ?_ ?_
  ·unfold plM
   by_cases h3:m/64=3
   ·rw[ag (bK h3),aa h3,zC hx,af]
    dsimp only
    rw[aW,Cj (by omega) (by omega),af]
    exact Ret.some ⟨a,c,rfl,rfl⟩
   ·rw[aq (aD h3),ae h3]
    obtain⟨a1,c1,e,h⟩:=EB (w:=w) (md:=m/64) (rm:=m%8) hx (by omega) hl hp
    rw[e,af]
    exact Ret.some ⟨a1,c1,rfl,h⟩
  ·rintro _ ⟨a1,c1,rfl,h⟩
   have hin:(aU a1 c1).In t:=by rw[h];exact lO hp
   rw[am]
   dsimp only[p5,p6,d5]
   unfold su
   by_cases f1:f=1
   ·rw[ag (bK f1),aa f1]
    rw[iN]at hZ
    subst hZ
    exact Ret.some ⟨a1,c1,rfl,h⟩
   rw[aq (aD f1),ae f1]
   simp only[sw2,af,am]
   by_cases f2:f=2
   ·rw[aa f2,ag (by simp[eqI,f2])]
    rw[iN]at hZ
    subst hZ
    exact Ret.some ⟨a1,c1,rfl,h⟩
   rw[ae f2]
   by_cases f17:f=17
   ·rw[aa f17,ag (by simp[eqI,f17])]
    rw[aa f17]at hZ
    subst hZ
    exact Ret.some ⟨a1,c1,rfl,h⟩
   rw[ae f17,aq (by simp[eqI,f17,f2])]
   rw[ae f17]at hZ
   subst hZ
   rw[ae (show ¬f=3 by rintro rfl;revert hf;decide)]
   by_cases f4:f=4
   ·rw[aa f4,ag (bK f4)]
    obtain⟨a2,c2,e2,h2⟩:=rU (x:=x) (w:=w) (z:=1) (.inl rfl) hl hin
    rw[e2,af,<-h]
    exact Ret.some ⟨a2,c2,rfl,h2⟩
   rw[ae f4,aq (aD f4)]
   by_cases f5:f=5
   ·rw[aa f5,ag (bK f5)]
    obtain⟨a2,c2,e2,h2⟩:=rU (x:=x) (w:=w) (z:=Z) (hz (.inl f5)) hl hin
    refine Ret.bnd (Q:=fun y=>y=_) (Ret.of_eq e2 rfl) ?_
    rintro _ rfl
    rw[<-h]
    exact Ret.some ⟨a2,c2,rfl,h2⟩
   rw[ae f5,aq (aD f5)]
   by_cases f11:f=11
   ·rw[ag (bK f11),iN,iN,iN,iN,iN,iN,aa f11]
    obtain⟨a2,c2,e2,h2⟩:=nJ (x:=x) (w:=w) hl hin
    rw[e2,af,<-h]
    exact Ret.some ⟨a2,c2,rfl,h2⟩
   rw[aq (aD f11)]
   by_cases f12:f=12
   ·rw[ag (bK f12),iN,iN,iN,iN,iN,iN,iN,aa f12]
    exact Ret.some ⟨a1,c1,rfl,h⟩
   rw[aq (aD f12)]
   by_cases f13:f=13
   ·rw[ag (bK f13),iN,iN,iN,iN,iN,iN,iN,iN,aa f13]
    exact Ret.some ⟨a1,c1,rfl,h⟩
   rw[aq (aD f13)]
   have f6:f=6:=by
    unfold sk at hf
    have:=bh hf
    omega
   rw[aa f6]
   refine Ret.bnd (Q:=fun y=>y=_) (Ret.of_eq (sOne_eq ⟨op,Z,cd,frm,noD,noD,0⟩ _ rfl rfl) rfl) ?_
   rintro _ rfl
   unfold ra
   dsimp only
   cases hs:EE op with
   |true=>
    rw[aa rfl,aa rfl]
    dsimp only
    rw[aD (show op≠10 by rintro rfl;revert hs;decide),ap]
    exact Ret.some ⟨a1,c1,rfl,h⟩
   |false=>
    rw[iD,iD]
    dsimp only
    by_cases h10:op=10
    ·rw[aa h10,bK h10,aV]
     obtain⟨a2,c2,e2,h2⟩:=rU (x:=x) (w:=w) (z:=Z) (hz (.inr f6)) hl hin
     rw[e2,af,<-h]
     exact Ret.some ⟨a2,c2,rfl,h2⟩
    ·rw[ae h10,aD h10,ap]
     exact Ret.some ⟨a1,c1,rfl,h⟩
theorem Hh {m z f frm op cd:Int}(hx:rS x){b:Int}(hb0:0<=b)(z0 z2:Int)(z3:Bool)(hf:sk f=false)(hz:(f=3\/f=8)->ii z)(hl:(t.length:Int)<=1099511627776)(hp:(aU a c).In t):
  ∃a' c',fU ((⟨op,z,cd,frm,noD,noD,0⟩,(z0,f,z2,z3,frm,()),b,()),(t,a,x,w,c,()),())=
   some (⟨op,z,cd,frm,(su t f frm op z x b m (aU a c)).1,(su t f frm op z x b m (aU a c)).2.1,0⟩,(t,a',x,w,c',()),())/\aU a' c'=(su t f frm op z x b m (aU a c)).2.2:=by
 obtain⟨e0,e8,ez⟩:=nB (x:=x) (k:=0) (by decide)
 have hM:¬(f=1\/f=2\/f=4\/f=5\/f=6\/f=11\/f=12\/f=13\/f=17):=by unfold sk at hf;exact of_decide_eq_false hf
 have hr8:gC b 8=b%8:=cS hb0
 unfold fU su
 dsimp only
 rw[ae (show ¬f=1 by omega),ae (show ¬f=2 by omega),ae (show ¬f=17 by omega)]
 by_cases f3:f=3
 ·rw[aa f3,ag (bK f3)]
  obtain⟨a2,c2,e2,h2⟩:=rU (x:=x) (w:=w) (z:=z) (hz (.inl f3)) hl hp
  rw[e2,af]
  exact⟨a2,c2,rfl,h2⟩
 rw[ae f3,aq (aD f3),ae (show ¬f=4 by omega),ae (show ¬f=5 by omega),ae (show ¬f=6 by omega)]
 by_cases f7:f=7
 ·rw[aa f7,ag (bK f7),zC hx,af,hr8]
  dsimp only
  rw[aW]
  by_cases ho:op=29
  ·rw[aa ho,bK ho];exact⟨a,c,rfl,rfl⟩
  ·rw[ae ho,aD ho];exact⟨a,c,rfl,rfl⟩
 rw[ae f7,aq (aD f7)]
 by_cases f8:f=8
 ·rw[aa f8,ag (bK f8),zC hx,af,hr8]
  dsimp only
  rw[aW,Cj (by omega) (by omega),af]
  obtain⟨s1,s8⟩:=sz18 (hz (.inr f8))
  obtain⟨a2,c2,e2,h2⟩:=ju (x:=x) (w:=w) z s1 s8 hl hp
  rw[e2,af]
  exact⟨a2,c2,rfl,h2⟩
 rw[ae f8,aq (aD f8)]
 by_cases f9:f=9
 ·rw[aa f9,ag (bK f9)]
  obtain⟨a2,c2,e2,h2⟩:=rU (x:=x) (w:=w) (z:=1) (.inl rfl) hl hp
  rw[e2,af]
  exact⟨a2,c2,rfl,h2⟩
 rw[ae f9,aq (aD f9)]
 simp only[sw2,af,am]
 by_cases f10:f=10\/f=16
 ·rw[ae (show ¬f=15 by omega),aa f10,ag (by simpa[eqI]using f10)]
  obtain⟨a2,c2,e2,h2⟩:=rU (x:=x) (w:=w) (z:=4) (.inr (.inr (.inl rfl))) hl hp
  rw[e2,af]
  exact⟨a2,c2,rfl,h2⟩
 rw[aq (by simpa[eqI]using f10)]
 by_cases f15:f=15
 ·rw[aa f15,ag (bK f15)]
  obtain⟨a2,c2,e2,h2⟩:=rU (x:=x) (w:=w) (z:=1) (.inl rfl) hl hp
  rw[e2,af]
  refine oG ?_
  by_cases ho:op=44
  ·subst ho
   rw[aa rfl]
   have hr:=fv t (aU a c) hp
   have hzz:=cc (jv 7 (by decide) (rdU t 1 (aU a c))) 1 rfl
   rw[Hu hr.1 hr.2,show((1:Nat):Int)=1 from rfl]at hzz
   refine Ret.mono (Ret.of_eq (x:=(⟨44,z,cd,frm,noD,zO (rdU t 1 (aU a c)),0⟩,(t,a2,x,w,c2,()),())) ?_ rfl) (fun y hy=>⟨a2,c2,hy.symm,h2⟩)
   show bnd (au ((sx 7 (rdU t 1 (aU a c)),1,()),())) _=_
   rw[hzz,af]
   rfl
  ·rw[ae ho]
   refine Ret.mono (Ret.of_eq (x:=(⟨op,z,cd,frm,noD,zO (rdS t 1 (aU a c)),0⟩,(t,a2,x,w,c2,()),())) ?_ rfl) (fun y hy=>⟨a2,c2,hy.symm,h2⟩)
   show br (eqI op 44) _ _=_
   rw[aD ho]
   rfl
 rw[ae f15,aq (aD f15),ae f10,ae (show ¬f=11 by omega),ae (show ¬f=12 by omega),ae (show ¬f=13 by omega)]
 exact⟨a,c,rfl,rfl⟩
end
def pkB (t:List UInt8)(p:Pos):Int:=match p with
 | .ok a=>if a<t.length then gi t a else -1
 | .error _=> -1
def wdM (t:List UInt8)(p:Pos):Bool:=decide (pkB t p=102)
def p1M (t:List UInt8)(p:Pos):Pos:=if wdM t p=true then adv t 1 p else p
def p2M (t:List UInt8)(p:Pos):Pos:=exb (p1M t p) fun a=>if pkB t (p1M t p)∈uD then .error 10 else .ok a
def hxM (t:List UInt8)(p:Pos):Bool:=decide (64<=pkB t (p2M t p)/\pkB t (p2M t p)<=79)
def xM (t:List UInt8)(p:Pos):Int:=if hxM t p=true then pkB t (p2M t p)else 0
def p3M (t:List UInt8)(p:Pos):Pos:=if hxM t p=true then adv t 1 (p2M t p)else p2M t p
def za (t:List UInt8)(p:Pos):Bool:=decide (rdU t 1 (p3M t p)=15)
def p5M (t:List UInt8)(p:Pos):Pos:=if za t p=true then adv t 1 (adv t 1 (p3M t p))else adv t 1 (p3M t p)
def bM (t:List UInt8)(p:Pos):Int:=if za t p=true then rdU t 1 (adv t 1 (p3M t p))else rdU t 1 (p3M t p)
def zM (t:List UInt8)(p:Pos):Shz:=shz (za t p) (bM t p).toNat
def p6M (t:List UInt8)(p:Pos):Pos:=exb (p5M t p) fun a=>if(zM t p).2.1=0 then .error 11 else .ok a
theorem JB (t:List UInt8)(p:Pos):rS (xM t p):=by
 unfold xM rS
 split
 ·rename_i h
  unfold hxM at h
  exact .inr (bh h)
 ·exact .inl rfl
theorem CP {t:List UInt8}{p:Pos}{q:Int->Prop}[DecidablePred q]{k:Int}(h:p.In t):Pos.In (exb p fun a=>if q a then .error k else .ok a) t:=by
 intro a ha
 cases p with
 |error c=>cases ha
 |ok b=>
  unfold exb at ha
  dsimp only at ha
  split at ha
  ·cases ha
  ·exact h a (by cases ha;rfl)
theorem Dl {t:List UInt8}{p:Pos}(h:p.In t):(p1M t p).In t:=by unfold p1M;split;exact h.adv (by decide);exact h
theorem t6 {t:List UInt8}{p:Pos}(h:p.In t):(p2M t p).In t:=CP (q:=fun _=>pkB t (p1M t p)∈uD) (Dl h)
theorem Dm {t:List UInt8}{p:Pos}(h:p.In t):(p3M t p).In t:=by unfold p3M;split;exact(t6 h).adv (by decide);exact t6 h
theorem An {t:List UInt8}{p:Pos}(h:p.In t):(adv t 1 (p3M t p)).In t:=(Dm h).adv (by decide)
theorem p5M_in {t:List UInt8}{p:Pos}(h:p.In t):(p5M t p).In t:=by unfold p5M;split;exact(An h).adv (by decide);exact An h
theorem Ao {t:List UInt8}{p:Pos}(h:p.In t):(p6M t p).In t:=CP (q:=fun _=>(zM t p).2.1=0) (p5M_in h)
theorem ny {t:List UInt8}{p:Pos}(h:p.In t):0<=bM t p/\bM t p<256:=by
 unfold bM;split
 ·exact fv t _ (An h)
 ·exact fv t _ (Dm h)
theorem Dn {t:List UInt8}{p:Pos}(hp:p.In t)(h:0<=pkB t p):rdU t 1 p=pkB t p/\∃a,p= .ok a/\a+1<=t.length/\adv t 1 p= .ok (a+1):=by
 cases p with
 |error _=>unfold pkB at h;dsimp only at h;omega
 |ok a=>
  obtain⟨h0,h1⟩:=hp a rfl
  unfold pkB at h|-
  unfold rdU adv exb
  dsimp only at h|-
  by_cases hl:a<t.length
  ·rw[aa hl,iP,iP,GB h0 hl]
   exact⟨rfl,a,rfl,by omega,rfl⟩
  ·rw[ae hl]at h;omega
section
variable {t:List UInt8}{a c:Int}
theorem xZ {lo hi:Int}(r:_)(h0:0<=lo)(hp:(aU a c).In t):cV ((lo,hi,()),(t,a,c,r),())=some (decide (lo<=pkB t (aU a c)/\pkB t (aU a c)<=hi),(t,a,c,r),()):=by
 unfold cV
 dsimp only
 by_cases hc:c=0
 ·subst hc
  obtain⟨p0,p1⟩:=hp a eR
  rw[eR,ag (bK rfl)]
  by_cases hl:a<t.length
  ·have hpk:pkB t (.ok a)=gi t a:=aa hl
   rw[ag (kN (by rw[bW];exact hl)),ag (cQ p0 (by rw[bW];exact hl)),hpk,qi (by have:=nz t a;omega) (by have:=nz t a;omega),bB,af]
  ·have hpk:pkB t (.ok a)= -1:=ae hl
   rw[aq (kJ (by rw[bW];exact hl)),hpk,dF]
 ·have hpk:pkB t (.error c)= -1:=rfl
  rw[aq (aD hc),ei hc,hpk,dF]
theorem zw (r:_)(hp:(aU a c).In t):dQ ((),(t,a,c,r),())=some (decide (pkB t (aU a c)∈uD),(t,a,c,r),()):=by
 unfold dQ
 dsimp only
 refine(iJ (fun y=>∃i:Nat,i<=11/\y=((11,(i:Int),()),(t,a,c,r),uD,())) (fun y=>11-y.1.2.1.toNat) (fun y=>some (decide (pkB t (aU a c)∈uD.drop y.1.2.1.toNat),(t,a,c,r),())) ?_ F _ ⟨0,by omega,rfl⟩ (by unfold F;dsimp only;omega)).trans rfl
 rintro _ rec ⟨i,hi,rfl⟩ hrec
 dsimp only
 by_cases h:i<11
 ·have hL:i<uD.length:=h
  rw[ag (kN),ag (cQ (by omega) (by rw[bW];omega)),le hL]
  have hnn:0<=uD[i]:=by
   have:∀y∈uD,(0:Int)<=y:=by decide
   exact this _ (fG hL)
  rw[xZ r hnn hp,af]
  dsimp only
  rw[bu,py hL]
  by_cases e:pkB t (aU a c)=uD[i]
  ·rw[ag (dT),aF (by rw[e];exact bq)]
  ·rw[aq (dF),aW,hrec ((11,(i:Int)+1,()),(t,a,c,r),uD,()) ⟨i+1,by omega,rfl⟩ (by dsimp only;omega)]
   dsimp only
   rw[show((i:Int)+1).toNat=i+1 by omega]
   have hm:∀l:List Int,(pkB t (aU a c)∈uD[i]::l)=(pkB t (aU a c)∈l):=fun l=>by rw[aN,eq_false e,false_or]
   simp only[hm]
 ·have:i=11:=by omega
  subst this
  rw[aq (kJ)]
  simp[uD]
theorem zB (r:_)(hl:(t.length:Int)<=1099511627776)(hp:(aU a c).In t):
  ∃a' c',dU ((),(t,a,c,false,0,false,r),())=some ((),(t,a',c',wdM t (aU a c),xM t (aU a c)%16,decide (xM t (aU a c)≠0),r),())/\aU a' c'=p3M t (aU a c):=by
 unfold dU
 dsimp only
 rw[xZ _ (by decide) hp,af]
 dsimp only
 refine oG (Ret.bnd (Q:=fun y=>∃a1 c1,y=Sum.inl ((),(t,a1,c1,wdM t (aU a c),0,false,r),())/\aU a1 c1=p1M t (aU a c)) ?_ ?_)
 ·unfold p1M wdM
  by_cases h:pkB t (aU a c)=102
  ·rw[aF (show 102<=pkB t (aU a c)/\pkB t (aU a c)<=102 by omega),aV,aF h,aa rfl]
   obtain⟨a1,c1,e,h1⟩:=mn 1 (true,0,false,r) (by decide) (by decide) hl hp
   rw[e,af]
   exact Ret.some ⟨a1,c1,rfl,h1⟩
  ·rw[aP (show ¬(102<=pkB t (aU a c)/\pkB t (aU a c)<=102)by omega),ap,aP h,iD]
   exact Ret.some ⟨a,c,rfl,rfl⟩
 ·rintro _ ⟨a1,c1,rfl,h1⟩
  have hin1:(aU a1 c1).In t:=by rw[h1];exact Dl hp
  rw[am]
  dsimp only[d6]
  rw[zw _ hin1,af]
  dsimp only
  rw[jT,af]
  dsimp only
  have h2:aU a1 (if decide (pkB t (aU a1 c1)∈uD)=true/\c1=0 then 10 else c1)=p2M t (aU a c):=by
   rw[HI (by decide)]
   unfold p2M
   rw[<-h1]
   simp only[aG]
  generalize (if decide (pkB t (aU a1 c1)∈uD)=true/\c1=0 then(10:Int)else c1)=c2 at h2|-
  have hin2:(aU a1 c2).In t:=by rw[h2];exact t6 hp
  rw[xZ _ (by decide) hin2,af]
  dsimp only
  rw[h2]
  unfold p3M xM hxM
  by_cases h:64<=pkB t (p2M t (aU a c))/\pkB t (p2M t (aU a c))<=79
  ·rw[aF h,aV,aa rfl,aa rfl]
   obtain⟨a3,c3,e,h3⟩:=mn 1 (wdM t (aU a c),0,true,r) (by decide) (by decide) hl hin2
   have hrd:=(Dn hin2 (by rw[h2];omega)).1
   rw[e,af,hrd,h2,aF (show pkB t (p2M t (aU a c))≠0 by omega)]
   dsimp only
   rw[(bI (show 0<=pkB t (p2M t (aU a c))by omega) (by omega)).2.2.2]
   exact Ret.some ⟨a3,c3,rfl,by rw[h3,h2]⟩
  ·rw[aP h,ap,iD,iD]
   exact Ret.some ⟨a1,c2,rfl,h2⟩
end
def Bp (z:Shz):Bool:=decide (0<z.2.2.1)
def mM (t:List UInt8)(p:Pos):Int:=if sk (zM t p).2.1=true then rdU t 1 (p6M t p)else 0
def p7M (t:List UInt8)(p:Pos):Pos:=if sk (zM t p).2.1=true then adv t 1 (p6M t p)else p6M t p
def opM (t:List UInt8)(p:Pos):Int:=if Bp (zM t p)=true then grp (zM t p).2.2.1.toNat (mM t p/8%8).toNat else(zM t p).1
def p8M (t:List UInt8)(p:Pos):Pos:=exb (p7M t p) fun a=>if Bp (zM t p)=true/\opM t p=0 then .error 11 else .ok a
def zsM (t:List UInt8)(p:Pos):Int:=szM (zM t p).2.2.2.1 (opM t p) (wdM t p) (xM t p)
def ur (w by':Bool)(frm op z m:Int):Int:=
 if(w=true/\(eh op=true\/gD op=true\/by'=true))\/(frm=4/\z≠8)\/((frm=1\/frm=2)/\z<=frm)then 10 else if op=25/\m/64=3 then 12 else 0
def p9M (t:List UInt8)(p:Pos):Pos:=exb (p8M t p) fun a=>if ur (wdM t p) (zM t p).2.2.2.1 (zM t p).2.2.2.2.1 (opM t p) (zsM t p) (mM t p)≠0 then .error (ur (wdM t p) (zM t p).2.2.2.1 (zM t p).2.2.2.2.1 (opM t p) (zsM t p) (mM t p))else .ok a
def oM (t:List UInt8)(p:Pos):Opd×Opd×Pos:=su t (zM t p).2.1 (zM t p).2.2.2.2.1 (opM t p) (zsM t p) (xM t p) (bM t p) (mM t p) (p9M t p)
def cdM (t:List UInt8)(p:Pos):Int:=if opM t p=33\/opM t p=35\/opM t p=36 then bM t p%16 else 0
def rG (t:List UInt8)(at0:Int):Ins×Int:=match(oM t (.ok at0)).2.2 with
 | .ok a=>(⟨opM t (.ok at0),zsM t (.ok at0),cdM t (.ok at0),(zM t (.ok at0)).2.2.2.2.1,(oM t (.ok at0)).1,(oM t (.ok at0)).2.1,a-at0⟩,0)
 | .error c=>(xW,c)
theorem wo {t:List UInt8}{p:Pos}(h:p.In t):shP (zM t p)=true:=JF _ (by have:=ny h;omega)
theorem pc {t:List UInt8}{p:Pos}(h:p.In t):0<=mM t p/\mM t p<256:=by
 unfold mM;split
 ·exact fv t _ (Ao h)
 ·omega
theorem Am {t:List UInt8}{p:Pos}(h:p.In t):0<=opM t p/\opM t p<=44:=by
 have hz:=bh (wo h)
 have hm:=pc h
 unfold opM;split
 ·exact FY _ (by omega) _ (by omega)
 ·exact⟨hz.1,hz.2.1⟩
section
variable {t:List UInt8}{a c:Int}
theorem pX {a c a':Int}(h:aU a c= .ok a'):a=a'/\c=0:=by
 unfold aU at h
 by_cases hc:c=0
 ·rw[aa hc]at h;cases h;exact⟨rfl,hc⟩
 ·rw[ae hc]at h;cases h
theorem pW {a c k:Int}(h:aU a c= .error k):c=k/\c≠0:=by
 unfold aU at h
 by_cases hc:c=0
 ·rw[aa hc]at h;cases h
 ·rw[ae hc]at h;cases h;exact⟨rfl,hc⟩
theorem rd_ok {p:Pos}{n:Int}(h:rdU t n p≠0):∃b,adv t n p= .ok b:=by
 unfold rdU at h
 unfold adv exb
 cases p with
 |error _=>exact ah rfl h
 |ok b=>
  dsimp only at h|-
  by_cases hl:b+n<=t.length
  ·rw[aa hl];exact⟨_,rfl⟩
  ·rw[ae hl]at h;exact ah rfl h
theorem xY (q:Pos)(nw:Bool)(rx:Int)(hr:Bool)(r:_)(hl:(t.length:Int)<=1099511627776)(hq:q.In t)(hp:aU a c=p3M t q):
  Ret (dI ((),(t,a,c,nw,rx,hr,0,0,0,0,false,0,0,0,0,0,r),())) fun y=>
   aU y.2.1.2.1 y.2.1.2.2.1=p6M t q/\∀e,p6M t q= .ok e->y=((),(t,e,0,nw,rx,hr,bM t q,(zM t q).1,(zM t q).2.1,(zM t q).2.2.1,(zM t q).2.2.2.1,(zM t q).2.2.2.2.1,0,0,0,(zM t q).1,r),()):=by
 have hin:(aU a c).In t:=by rw[hp];exact Dm hq
 unfold dI
 dsimp only[p5,p6,d7]
 obtain⟨a1,c1,e1,h1⟩:=mn 1 (nw,rx,hr,0,0,0,0,false,0,0,0,0,0,r) (by decide) (by decide) hl hin
 rw[e1,af]
 dsimp only
 rw[hp]at h1|-
 have hin1:(aU a1 c1).In t:=by rw[h1];exact An hq
 have hx3:(br (eqI (rdU t 1 (p3M t q)) 15) (some (eqI c1 0)) (some false))=some (za t q):=by
  unfold za
  by_cases h:rdU t 1 (p3M t q)=15
  ·obtain⟨b,hb⟩:=rd_ok (t:=t) (p:=p3M t q) (n:=1) (by omega)
   have hc:c1=0:=(pX (h1.trans hb)).2
   rw[ag (bK h),bK hc,aF h]
  ·rw[aq (aD h),aP h]
 rw[hx3,af]
 refine Ret.bnd (Q:=fun y=>∃a2 c2,y=Sum.inl ((za t q,()),(t,a2,c2,nw,rx,hr,bM t q,0,0,0,false,0,0,0,0,0,r),())/\aU a2 c2=p5M t q) ?_ ?_
 ·unfold p5M bM
  cases hs:za t q with
  |true=>
   obtain⟨a2,c2,e2,h2⟩:=mn 1 (nw,rx,hr,rdU t 1 (p3M t q),0,0,0,false,0,0,0,0,0,r) (by decide) (by decide) hl hin1
   rw[aV,e2,af,aa rfl,aa rfl,h1]
   exact Ret.some ⟨a2,c2,rfl,by rw[h2,h1]⟩
  |false=>
   rw[ap,iD,iD]
   exact Ret.some ⟨a1,c1,rfl,h1⟩
 ·rintro _ ⟨a2,c2,rfl,h2⟩
  rw[am]
  dsimp only[p6,p5,p12,p13,p14,d16]
  by_cases hc:c2=0
  ·subst hc
   have hbr:=ny hq
   have hS:=DM (za t q) (show(bM t q).toNat<256 by omega)
   rw[kz hbr.1]at hS
   rw[show bm (eqI 0 0)=false from rfl,ap,hS,af]
   dsimp only[shR]
   rw[jT,af]
   have h6:p6M t q=if(zM t q).2.1=0 then .error 11 else .ok a2:=by
    unfold p6M;rw[<-h2];rfl
   show Ret (some _) _
   refine Ret.some ?_
   dsimp only
   change aU a2 (if bm (eqI (if(zM t q).2.1=0 then 11 else 0) 0)=true/\(0:Int)=0 then(if(zM t q).2.1=0 then 11 else 0)else 0)=p6M t q/\_
   rw[h6]
   by_cases hz:(zM t q).2.1=0
   ·simp only[aa hz]
    exact⟨rfl,fun e he=>by cases he⟩
   ·simp only[ae hz]
    refine⟨rfl,fun e he=>?_⟩
    cases he
    have hz':¬(shz (za t q) (bM t q).toNat).2.1=0:=hz
    simp only[ae hz']
    rfl
  ·rw[aD hc,eF,aV]
   refine Ret.some ?_
   dsimp only
   have h6:p6M t q= .error c2:=by unfold p6M;rw[<-h2,ei hc];rfl
   rw[h6,ei hc]
   exact⟨rfl,fun e he=>by cases he⟩
end
end Go.Den.G
