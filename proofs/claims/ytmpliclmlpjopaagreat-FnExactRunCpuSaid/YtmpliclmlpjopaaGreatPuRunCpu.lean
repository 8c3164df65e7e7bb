/- Theory for the proofs of this claim: see its last text. -/
import Derived.Test.YtmpliclmlpjopaaGreatFnRunCpu
import Derived.Test.YtmpliclmlpjopaaGreatDenF
import Derived.KernelRfl
import Derived.Laws.MathBits
import Derived.Test.YtmpliclmlpjopaaGreatPbRunCpu
namespace Go.Den.G
open Go.Den
set_option maxRecDepth 100000
set_option linter.unusedSectionVars false
noncomputable section
theorem upper_r (z:Nat):fx (((z:Int),()),())=some (upZ z,()):=by
 unfold fx upZ
 dsimp only
 by_cases h:z=1
 ·rw[bc (by omega),aH,if_pos h]
 ·rw[aq (by omega),aj,if_neg h]
theorem reg0 (z:Nat):qF 0 z:=by unfold qF;omega
theorem Bk (x:Ins):wC (dA x ())=x:=rfl
section
variable {g:List Int}{m:List Page}{c:Int}{l:List Acc}{k:Nat}(hs:(MS.mk g m c l).ok k)(hk:k+4≤1000){x:Ins}{n z:Nat}{rip fl nx:Int}
include hs hk
theorem plain_9 (hx:ExV x 9)(hz:x.size=z):eZ g m c l x rip fl nx ((MS.mk g m c l).move fl nx x 9 z,nx,fl):=by
 have hop:=hx.op
 have hz':b8 (z:Int)=true:=by rw[←hz];exact hx.szs.1 (by omega)
 have hdv:=hx.dv
 have hsv:=hx.sv
 rw[hz]at hdv
 rw[show sSz x 9=x.size from by unfold sSz;rw[if_neg (by decide),hx.fr.2 (by decide),if_neg (by decide)],hz]at hsv
 obtain⟨v1,c1,l1,e1,r1,ok1,I1⟩:=gtq hs (by omega) hz' hsv nx
 obtain⟨g',m',c',l',e2,r2,ok2⟩:=ptq ok1 (by omega) hz' hdv (hx.kd.1 (by omega)) nx I1
 unfold cL at r1 r2
 have hre:(MS.mk g m c l).move fl nx x 9 z=⟨g',m',c',l'⟩:=by
  unfold MS.move
  rw[if_pos rfl,e1]
  exact e2
 rw[hre]
 unfold eZ aR
 dsimp only
 rw[hop,AC,aa,ag,decide_eq_false (by omega)]
 dsimp only
 rw[aj,show(dA x ()).1=((9:Nat):Int)from hop,Di,aa,ag,decide_eq_false (by omega)]
 dsimp only
 rw[aj,show(dA x ()).1=((9:Nat):Int)from hop,di,cN,aa,decide_eq_false (by omega)]
 dsimp only
 rw[aj,aq (by omega),aj,bc (by omega),aH]
 dsimp only[dA,cL,cp7,d5,d11]
 rw[hz,r1,aa]
 dsimp only
 rw[r2,aa]
 exact⟨⟨g',m',c',l'⟩,fl,nx,rfl,.same rfl⟩
theorem Fa (hx:ExV x 28)(hz:x.size=z):eZ g m c l x rip fl nx ((MS.mk g m c l).move fl nx x 28 z,nx,fl):=by
 have hop:=hx.op
 have hz':b8 (z:Int)=true:=by rw[←hz];exact hx.szs.1 (by omega)
 have hdv:=hx.dv
 have hsv:=hx.sv
 rw[hz]at hdv
 rw[show sSz x 28=x.size from by unfold sSz;rw[if_neg (by decide),hx.fr.2 (by decide),if_neg (by decide)],hz]at hsv
 have hsk:=hx.kd.2.1 rfl
 obtain⟨v1,c1,l1,e1,r1,ok1,I1⟩:=gtq hs (by omega) hz' hdv nx
 obtain⟨v2,c2,l2,e2,r2,ok2,I2⟩:=gtq ok1 (by omega) hz' hsv nx
 obtain⟨g3,m3,c3,l3,e3,r3,ok3⟩:=ptq ok2 (by omega) hz' hdv (hx.kd.1 (by omega)) nx I2
 obtain⟨g4,m4,c4,l4,e4,r4,ok4⟩:=ptq ok3 (by omega) hz' hsv (.inl hsk) nx I1
 unfold cL at r1 r2 r3 r4
 have hre:(MS.mk g m c l).move fl nx x 28 z=⟨g4,m4,c4,l4⟩:=by
  unfold MS.move
  dsimp only
  rw[if_neg (by decide),if_pos rfl,e1]
  dsimp only
  rw[e2]
  dsimp only
  rw[e3]
  exact e4
 rw[hre]
 unfold eZ aR
 dsimp only
 rw[hop,AC,aa,ag,decide_eq_false (by omega)]
 dsimp only
 rw[aj,show(dA x ()).1=((28:Nat):Int)from hop,Di,aa,ag,decide_eq_false (by omega)]
 dsimp only
 rw[aj,show(dA x ()).1=((28:Nat):Int)from hop,di,cN,aa,decide_eq_false (by omega)]
 dsimp only
 rw[aj,aq (by omega),aj,aq (by omega),aj,bc (by omega),aH]
 dsimp only[dA,cL,cp7,d5,d11]
 rw[hz,r1,aa]
 dsimp only
 rw[r2,aa]
 dsimp only
 rw[r3,aa]
 dsimp only
 rw[r4,aa]
 exact⟨⟨g4,m4,c4,l4⟩,fl,nx,rfl,.same rfl⟩
theorem E3 (hx:ExV x 25)(hz:x.size=z):eZ g m c l x rip fl nx ((MS.mk g m c l).move fl nx x 25 z,nx,fl):=by
 have hop:=hx.op
 have hz':b8 (z:Int)=true:=by rw[←hz];exact hx.szs.1 (by omega)
 have hdv:=hx.dv
 have hsv:=hx.sv
 rw[hz]at hdv
 have hk2:=hx.kd.2.2.1 rfl
 have hA:=kI (g:=g) (nx:=nx) hsv
 obtain⟨g',m',c',l',e2,r2,ok2⟩:=ptq hs (by omega) hz' hdv (hx.kd.1 (by omega)) nx hA
 have hadr:=kR (g:=g) (rip:=rip) (fl:=fl) (nx:=nx) (hsv.b hk2.2)
 unfold cL at r2 hadr
 have hre:(MS.mk g m c l).move fl nx x 25 z=⟨g',m',c',l'⟩:=by
  unfold MS.move
  rw[if_neg (by decide),if_neg (by decide),if_pos rfl]
  exact e2
 rw[hre]
 unfold eZ aR
 dsimp only
 rw[hop,AC,aa,ag,decide_eq_false (by omega)]
 dsimp only
 rw[aj,show(dA x ()).1=((25:Nat):Int)from hop,Di,aa,ag,decide_eq_false (by omega)]
 dsimp only
 rw[aj,show(dA x ()).1=((25:Nat):Int)from hop,di,cN,aa,decide_eq_false (by omega)]
 dsimp only
 rw[aj,aq (by omega),aj,aq (by omega),aj,aq (by omega),aj,bc (by omega),aH]
 dsimp only[dA,cL,cp7,d5,d11]
 rw[hz,hadr,aa]
 rw[r2,aa]
 exact⟨⟨g',m',c',l'⟩,fl,nx,rfl,.same rfl⟩
theorem E5 (hx:ExV x 26)(hz:x.size=z):eZ g m c l x rip fl nx ((MS.mk g m c l).move fl nx x 26 z,nx,fl):=by
 have hop:=hx.op
 have hz':b8 (z:Int)=true:=by rw[←hz];exact hx.szs.1 (by omega)
 have hdv:=hx.dv
 have hsv:=hx.sv
 rw[hz]at hdv
 have hfz:=hx.fr.1 (by omega)
 obtain⟨f,hf,hf2⟩:=ph hfz
 rw[show sSz x 26=x.frm from by unfold sSz;rw[if_neg (by decide),if_pos (by have:=dq hf2;omega)],hf]at hsv
 obtain⟨v1,c1,l1,e1,r1,ok1,I1⟩:=gtq hs (by omega) hf2 hsv nx
 have hft:x.frm.toNat=f:=by omega
 obtain⟨g',m',c',l',e2,r2,ok2⟩:=ptq ok1 (by omega) hz' hdv (hx.kd.1 (by omega)) nx I1
 unfold cL at r1 r2
 have hre:(MS.mk g m c l).move fl nx x 26 z=⟨g',m',c',l'⟩:=by
  unfold MS.move
  rw[if_neg (by decide),if_neg (by decide),if_neg (by decide),if_pos rfl,hft,e1]
  exact e2
 rw[hre]
 unfold eZ aR
 dsimp only
 rw[hop,AC,aa,ag,decide_eq_false (by omega)]
 dsimp only
 rw[aj,show(dA x ()).1=((26:Nat):Int)from hop,Di,aa,ag,decide_eq_false (by omega)]
 dsimp only
 rw[aj,show(dA x ()).1=((26:Nat):Int)from hop,di,cN,aa,decide_eq_false (by omega)]
 dsimp only
 rw[aj,aq (by omega),aj,aq (by omega),aj,aq (by omega),aj,aq (by omega),aj,bc (by omega),aH]
 dsimp only[dA,cL,cp7,d5,d11]
 rw[hz,hf,r1,aa]
 dsimp only
 rw[r2,aa]
 exact⟨⟨g',m',c',l'⟩,fl,nx,rfl,.same rfl⟩
theorem E8 (hx:ExV x 27)(hz:x.size=z):eZ g m c l x rip fl nx ((MS.mk g m c l).move fl nx x 27 z,nx,fl):=by
 have hop:=hx.op
 have hz':b8 (z:Int)=true:=by rw[←hz];exact hx.szs.1 (by omega)
 have hdv:=hx.dv
 have hsv:=hx.sv
 rw[hz]at hdv
 have hfz:=hx.fr.1 (by omega)
 obtain⟨f,hf,hf2⟩:=ph hfz
 rw[show sSz x 27=x.frm from by unfold sSz;rw[if_neg (by decide),if_pos (by have:=dq hf2;omega)],hf]at hsv
 obtain⟨v1,c1,l1,e1,r1,ok1,I1⟩:=gtq hs (by omega) hf2 hsv nx
 have hft:x.frm.toNat=f:=by omega
 have hf18:=dq hf2
 have hsg:=jk v1 (f:Int) (by omega) (by omega)
 rw[show(8*(f:Int)-1).toNat=8*f-1 by omega]at hsg
 have hsI:I64 (sx (8*f-1) v1):=gy _ (by omega) v1
 obtain⟨g',m',c',l',e2,r2,ok2⟩:=ptq ok1 (by omega) hz' hdv (hx.kd.1 (by omega)) nx hsI
 unfold cL at r1 r2
 have hre:(MS.mk g m c l).move fl nx x 27 z=⟨g',m',c',l'⟩:=by
  unfold MS.move
  rw[if_neg (by decide),if_neg (by decide),if_neg (by decide),if_neg (by decide),if_pos rfl,hft,e1]
  exact e2
 rw[hre]
 unfold eZ aR
 dsimp only
 rw[hop,AC,aa,ag,decide_eq_false (by omega)]
 dsimp only
 rw[aj,show(dA x ()).1=((27:Nat):Int)from hop,Di,aa,ag,decide_eq_false (by omega)]
 dsimp only
 rw[aj,show(dA x ()).1=((27:Nat):Int)from hop,di,cN,aa,decide_eq_false (by omega)]
 dsimp only
 rw[aj,aq (by omega),aj,aq (by omega),aj,aq (by omega),aj,aq (by omega),aj,aq (by omega),aj,bc (by omega),aH]
 dsimp only[dA,cL,cp7,d5,d11]
 rw[hz,hf,r1,aa]
 dsimp only
 rw[hsg,aa]
 rw[r2,aa]
 exact⟨⟨g',m',c',l'⟩,fl,nx,rfl,.same rfl⟩
theorem wide_r (hx:ExV x n)(hz:x.size=z)(hI:I64 fl)(hf:bN fl=true)(hn:13≤n∧n≤16):
  ∃g' c' l' fl',dI ((x,()),((g,rip,fl,m,nx,c,()),l,()))=some ((),((g',rip,fl',m,nx,c',()),l',()))∧RelR ⟨g',m,c',l'⟩ nx fl' (((MS.mk g m c l).wide fl nx x n z).1,nx,((MS.mk g m c l).wide fl nx x n z).2):=by
 have hop:=hx.op
 have hz':b8 (z:Int)=true:=by rw[←hz];exact hx.szs.1 (by omega)
 have hsv:=hx.sv
 rw[show sSz x n=x.size from by unfold sSz;rw[if_neg (by omega),hx.fr.2 (by omega),if_neg (by decide)],hz]at hsv
 obtain⟨v1,c1,l1,e1,r1,ok1,I1⟩:=gtq hs (by omega) hz' hsv nx
 have hgI:∀r,I64 (jQ g r z):=fun r=>sL (g:=g) hs.g hz'
 unfold dI MS.wide RelR
 dsimp only
 rw[e1,hop,hz,r1,aa]
 dsimp only[d5]
 by_cases hc1:c1=0
 rotate_left
 ·rw[aq hc1,cP,aH]
  refine⟨g,c1,l1,fl,rfl,?_⟩
  by_cases hm:n=13∨n=14
  ·rw[if_pos hm]
   exact⟨rfl,rfl,fun h=>absurd h hc1⟩
  ·rw[if_neg hm]
   dsimp only
   rw[if_neg (fun h=>hc1 h.2)]
   exact⟨rfl,rfl,fun h=>absurd h hc1⟩
 subst hc1
 have hg0:=qe (g:=g) (rip:=rip) (fl:=fl) hs.g hz' (reg0 z)
 have hgu:=qe (g:=g) (rip:=rip) (fl:=fl) hs.g hz' (oA z)
 rw[bc rfl,ce,aj,hg0,aa,upper_r,aa]
 have hb:br (eqI (n:Int) 13) (some true) (some (eqI (n:Int) 14))=some (decide (n=13∨n=14)):=by
  by_cases a:n=13
  ·rw[bc (by omega),aH,decide_eq_true (by omega)]
  ·rw[aq (by omega),aj]
   by_cases b:n=14
   ·rw[bc (by omega),decide_eq_true (by omega)]
   ·rw[aq (by omega),decide_eq_false (by omega)]
 rw[hb,aa]
 by_cases hm:n=13∨n=14
 ·rw[decide_eq_true hm,aH,if_pos hm]
  have hA:=mw (op:=(n:Int)) (a:=jQ g 0 z) (b:=v1) (f:=fl) hz' (hgI 0) I1
  obtain⟨o1,o2,o3,o4⟩:=s9 (op:=n) (n:=z) (a:=jQ g 0 z) (b:=v1) hI hf
  generalize qm (n:Int) z (jQ g 0 z) v1 fl=A at hA o1 o2 o3 o4⊢
  obtain⟨lo,hi,f'⟩:=A
  dsimp only at hA o1 o2 o3 o4⊢
  have s1:=jy (g:=g) (rip:=rip) (fl:=f') hs.g o1 hz' (reg0 z)
  have s2:=jy (g:=qM g 0 z lo) (rip:=rip) (fl:=f') (kX hs.g o1 hz') o2 hz' (oA z)
  rw[hA,aa,aa,ag]
  dsimp only[dA]
  rw[hz,s1,aa]
  dsimp only
  rw[s2,aa]
  exact⟨_,0,l1,f',rfl,rfl,rfl,fun _=>⟨rfl,rfl,rfl⟩⟩
 ·rw[decide_eq_false hm,aj,if_neg hm]
  obtain⟨o1,o2⟩:=xV (op:=n) (n:=z) (hi:=jQ g (upZ z) z) (lo:=jQ g 0 z) (d:=v1)
  obtain⟨q,r,hd,hqr⟩:=uF (op:=(n:Int)) (n:=z) (hi:=jQ g (upZ z) z) (lo:=jQ g 0 z) (d:=v1) hz' (hgI _) (hgI _) I1
  generalize su (n:Int) z (jQ g (upZ z) z) (jQ g 0 z) v1=A at hd hqr o1 o2⊢
  obtain⟨q',r',ok⟩:=A
  dsimp only at hd hqr o1 o2⊢
  rw[hgu,aa]
  dsimp only
  rw[hd,aa]
  dsimp only
  cases ok with
  |false=>
   rw[cP,aH,aa,oQ]
   exact⟨g,16,l1,fl,rfl,rfl,rfl,fun h=>absurd h (by rw[if_pos ⟨rfl,rfl⟩];decide)⟩
  |true=>
   obtain⟨rfl,rfl⟩:=hqr rfl
   have s1:=jy (g:=g) (rip:=rip) (fl:=fl) hs.g o1 hz' (reg0 z)
   have s2:=jy (g:=qM g 0 z q) (rip:=rip) (fl:=fl) (kX hs.g o1 hz') o2 hz' (oA z)
   rw[ce,aj,aa,ag]
   dsimp only[dA]
   rw[hz,s1,aa]
   dsimp only
   rw[s2,aa]
   exact⟨_,0,l1,fl,rfl,rfl,rfl,fun _=>⟨rfl,rfl,rfl⟩⟩
theorem zJ (hx:ExV x n)(hz:x.size=z)(hI:I64 fl)(hf:bN fl=true)(hn:13≤n∧n≤16):eZ g m c l x rip fl nx (((MS.mk g m c l).wide fl nx x n z).1,nx,((MS.mk g m c l).wide fl nx x n z).2):=by
 have hop:=hx.op
 obtain⟨g',c',l',fl',hr,hR⟩:=wide_r hs hk hx hz hI hf hn (rip:=rip) (nx:=nx)
 generalize (((MS.mk g m c l).wide fl nx x n z).1,nx,((MS.mk g m c l).wide fl nx x n z).2)=e at hR⊢
 unfold eZ aR
 dsimp only
 rw[hop,AC,aa,ag,decide_eq_false (by omega)]
 dsimp only
 rw[aj,show(dA x ()).1=(n:Int)from hop,Di,aa,ag,decide_eq_false (by omega)]
 dsimp only
 rw[aj,show(dA x ()).1=(n:Int)from hop,di,cN,aa,decide_eq_false (by omega)]
 dsimp only
 rw[aj,aq (by omega),aj,aq (by omega),aj,aq (by omega),aj,aq (by omega),aj,aq (by omega),aj,aq (by omega),aj,cN,aa]
 dsimp only
 rw[Bk,decide_eq_true (by omega),aH,hr,aa]
 exact⟨⟨g',m,c',l'⟩,fl',nx,rfl,hR⟩
theorem zI (hx:ExV x n)(hn:29≤n){e:MS×Int×Int}{S:MS}{fl' nx':Int}(hr:aD ((x,()),((g,rip,fl,m,nx,c,()),l,()))=some ((),S.r rip fl' nx'))(hR:RelR S nx' fl' e):eZ g m c l x rip fl nx e:=by
 have hop:=hx.op
 unfold eZ aR
 dsimp only
 rw[hop,AC,aa,ag,decide_eq_false (by omega)]
 dsimp only
 rw[aj,show(dA x ()).1=(n:Int)from hop,Di,aa,ag,decide_eq_false (by omega)]
 dsimp only
 rw[aj,show(dA x ()).1=(n:Int)from hop,di,cN,aa,decide_eq_false (by omega)]
 dsimp only
 rw[aj,aq (by omega),aj,aq (by omega),aj,aq (by omega),aj,aq (by omega),aj,aq (by omega),aj,aq (by omega),aj,cN,aa]
 dsimp only
 rw[Bk,decide_eq_false (by omega),aj,hr,aa]
 exact⟨S,fl',nx',rfl,hR⟩
end
end
set_option maxRecDepth 100000
set_option linter.unusedSectionVars false
noncomputable section
theorem Cy (g:List Int)(v w:Int):setA (setA g 7 v) 6 w=setA (setA g 6 w) 7 v:=by
 have hp:∀i a,dP 16 (aB .i) (Go.Den.G.setA g i a)=Go.Den.G.setA g i a:=fun i a=>by
  unfold Go.Den.G.setA cr
  unfold dP
  rw[List.length_set,List.length_append,List.length_replicate,show 16-(g.length+(16-g.length))=0 by omega]
  simp
 have h1:setA (setA g 7 v) 6 w=cr (setA g 7 v) 6 w:=by rw[Go.Den.G.setA,hp]
 have h2:setA (setA g 6 w) 7 v=cr (setA g 6 w) 7 v:=by rw[Go.Den.G.setA,hp]
 rw[h1,h2]
 unfold Go.Den.G.setA cr
 exact(List.set_comm w v (by decide)).symm
theorem vq (g:List Int)(v:Int):rg (setA g 6 v) 7=rg g 7∧rg (setA g 7 v) 6=rg g 6:=by
 have hp:∀j:Nat,(dP 16 (aB .i) g).getD j (aB .i)=g.getD j (aB .i):=fun j=>by
  unfold dP
  rw[List.getD_eq_getElem?_getD,List.getD_eq_getElem?_getD,List.getElem?_append]
  split
  ·rfl
  ·rw[List.getElem?_replicate,List.getElem?_eq_none (by omega)]
   split<;>rfl
 unfold rg aQ Go.Den.G.setA cr
 constructor
 ·rw[List.getD_eq_getElem?_getD,List.getElem?_set_ne (by decide),←List.getD_eq_getElem?_getD,hp]
 ·rw[List.getD_eq_getElem?_getD,List.getElem?_set_ne (by decide),←List.getD_eq_getElem?_getD,hp]
section
variable {g:List Int}{m:List Page}{c:Int}{l:List Acc}{k:Nat}(hs:(MS.mk g m c l).ok k)(hk:k+4≤1000){x:Ins}{z:Nat}{rip fl nx:Int}
include hs hk
def lV (g:List Int)(m:List Page)(c:Int)(l:List Acc)(x:Ins)(rip fl nx:Int)(e:MS×Int×Int):Prop:=
 ∃S fl' nx',aD ((x,()),((g,rip,fl,m,nx,c,()),l,()))=some ((),S.r rip fl' nx')∧RelR S nx' fl' e
theorem EM (hx:ExV x 35):lV g m c l x rip fl nx ((MS.mk g m c l).move fl nx x 35 z,nx,fl):=by
 have hop:=hx.op
 have hdv:=hx.dv
 rw[hx.szs.2.2.2.1 rfl]at hdv
 obtain⟨g',m',c',l',e2,r2,ok2⟩:=ptq hs (by omega) (n:=1) rfl hdv (hx.kd.1 (by omega)) nx (show I64 (if il x.cond fl=true then 1 else 0)by split<;>(unfold I64;decide))
 have r2':∀rip fl',aJ ((cL x.dst (),(1,((if il x.cond fl=true then 1 else 0),()))),((g,rip,fl',m,nx,c,()),l,()))=_:=r2
 have hre:(MS.mk g m c l).move fl nx x 35 z=⟨g',m',c',l'⟩:=by
  unfold MS.move
  rw[if_neg (by decide),if_neg (by decide),if_neg (by decide),if_neg (by decide),if_neg (by decide),if_pos rfl]
  exact e2
 rw[hre]
 unfold lV
 unfold aD
 dsimp only
 rw[hop,bc (by omega),aH]
 rw[mK hx.c0 hx.c1,aa,uE,aa,r2',aa]
 exact⟨⟨g',m',c',l'⟩,fl,nx,rfl,.same rfl⟩
theorem EN (hx:ExV x 36)(hz:x.size=z):lV g m c l x rip fl nx ((MS.mk g m c l).move fl nx x 36 z,nx,fl):=by
 have hop:=hx.op
 have hz':b8 (z:Int)=true:=by rw[←hz];exact hx.szs.1 (by omega)
 have hdv:=hx.dv
 have hsv:=hx.sv
 rw[hz]at hdv
 rw[show sSz x 36=x.size from by unfold sSz;rw[if_neg (by decide),hx.fr.2 (by decide),if_neg (by decide)],hz]at hsv
 obtain⟨v1,c1,l1,e1,r1,ok1,I1⟩:=gtq hs (by omega) hz' hsv nx
 obtain⟨v2,c2,l2,e2,r2,ok2,I2⟩:=gtq ok1 (by omega) hz' hdv nx
 unfold lV
 unfold aD
 dsimp only
 rw[hop,aq (by omega),aj,bc (by omega),aH]
 rw[hz,r1,aa,mK hx.c0 hx.c1,aa]
 dsimp only[d5]
 by_cases hh:il x.cond fl=true
 ·obtain⟨g',m',c',l',e3,r3,ok3⟩:=ptq ok1 (by omega) hz' hdv (hx.kd.1 (by omega)) nx I1
  unfold cL at r3
  have hre:(MS.mk g m c l).move fl nx x 36 z=⟨g',m',c',l'⟩:=by
   unfold MS.move
   dsimp only
   rw[if_neg (by decide),if_neg (by decide),if_neg (by decide),if_neg (by decide),if_neg (by decide),if_neg (by decide),if_pos rfl,e1,if_pos hh]
   exact e3
  rw[hre,hh,ce,aj,aa,ag]
  dsimp only[dA,cL,cp7,d5]
  rw[hz,r3,aa]
  exact⟨⟨g',m',c',l'⟩,fl,nx,rfl,.same rfl⟩
 ·obtain⟨g',m',c',l',e3,r3,ok3⟩:=ptq ok2 (by omega) hz' hdv (hx.kd.1 (by omega)) nx I2
  unfold cL at r3
  have hre:(MS.mk g m c l).move fl nx x 36 z=⟨g',m',c',l'⟩:=by
   unfold MS.move
   dsimp only
   rw[if_neg (by decide),if_neg (by decide),if_neg (by decide),if_neg (by decide),if_neg (by decide),if_neg (by decide),if_pos rfl,e1,if_neg hh]
   dsimp only
   rw[e2]
   exact e3
  rw[hre,Bool.eq_false_iff.2 hh,cP,aH,r2,aa,aa,ag]
  dsimp only[dA,cL,cp7,d5]
  rw[hz,r3,aa]
  exact⟨⟨g',m',c',l'⟩,fl,nx,rfl,.same rfl⟩
theorem EQ (hx:ExV x 39)(hz:x.size=z):lV g m c l x rip fl nx ((MS.mk g m c l).move fl nx x 39 z,nx,fl):=by
 have hop:=hx.op
 have h39:=hx.szs.2.1 rfl
 rw[hz]at h39
 have hz':b8 (z:Int)=true:=by rcases h39 with h|h|h<;>rw[h]<;>rfl
 have hz2:b8 ((z/2:Nat):Int)=true:=by rcases h39 with h|h|h<;>rw[show z/2=_ from by rw[show z=_ from Int.ofNat_inj.1 h]]<;>rfl
 have h18:=dq hz2
 have hq:jJ .i64 (z:Int) 2=((z/2:Nat):Int):=by rw[gw (by omega) (by decide) (by omega)];omega
 have hsg:=jk (rg g 0) ((z/2:Nat):Int) (by omega) (by omega)
 rw[show(8*((z/2:Nat):Int)-1).toNat=8*(z/2)-1 by omega]at hsg
 have hI:I64 (sx (8*(z/2)-1) (rg g 0)):=gy _ (by omega) _
 have hst:=jy (g:=g) (rip:=rip) (fl:=fl) hs.g hI hz' (reg0 z)
 have hre:(MS.mk g m c l).move fl nx x 39 z=⟨qM g 0 z (sx (8*(z/2)-1) (rg g 0)),m,c,l⟩:=by
  unfold MS.move
  rw[if_neg (by decide),if_neg (by decide),if_neg (by decide),if_neg (by decide),if_neg (by decide),if_neg (by decide),if_neg (by decide),if_pos rfl,show jQ (MS.mk g m c l).g 0 (z/2)=bO (rg g 0) (z/2)from if_neg (by decide),CX hz2]
 rw[hre]
 unfold lV
 unfold aD
 dsimp only
 rw[hop,aq (by omega),aj,aq (by omega),aj,bc (by omega),aH]
 rw[hz,hq]
 have hsg':aT (((aQ g 0 (aB .i)),(((z/2:Nat):Int),())),())=_:=hsg
 rw[hsg',aa,hst,aa]
 exact⟨_,fl,nx,rfl,.same rfl⟩
theorem ES (hx:ExV x 40)(hz:x.size=z):lV g m c l x rip fl nx ((MS.mk g m c l).move fl nx x 40 z,nx,fl):=by
 have hop:=hx.op
 have hz':b8 (z:Int)=true:=by rw[←hz];exact hx.szs.1 (by omega)
 have h18:=dq hz'
 have hsg:=jk (rg g 0) (z:Int) (by omega) (by omega)
 rw[show(8*(z:Int)-1).toNat=8*z-1 by omega]at hsg
 have hI0:I64 (sx (8*z-1) (rg g 0)):=gy _ (by omega) _
 have hI:I64 (cf .i64 (sx (8*z-1) (rg g 0)) 63):=by
  rw[CE hI0]
  split<;>(unfold I64;decide)
 have hst:=jy (g:=g) (r:=2) (rip:=rip) (fl:=fl) hs.g hI hz' (by unfold qF;omega)
 have hre:(MS.mk g m c l).move fl nx x 40 z=⟨qM g 2 z (cf .i64 (sx (8*z-1) (rg g 0)) 63),m,c,l⟩:=by
  unfold MS.move
  rw[if_neg (by decide),if_neg (by decide),if_neg (by decide),if_neg (by decide),if_neg (by decide),if_neg (by decide),if_neg (by decide),if_neg (by decide),if_pos rfl,show jQ (MS.mk g m c l).g 0 z=bO (rg g 0) z from if_neg (by decide),CX hz']
 rw[hre]
 unfold lV
 unfold aD
 dsimp only
 rw[hop,aq (by omega),aj,aq (by omega),aj,aq (by omega),aj,bc (by omega),aH]
 rw[hz]
 have hsg':aT (((aQ g 0 (aB .i)),((z:Int),())),())=_:=hsg
 rw[hsg',aa,hst,aa]
 exact⟨_,fl,nx,rfl,.same rfl⟩
theorem ET (hx:ExV x 41):lV g m c l x rip fl nx (((MS.mk g m c l).flow nx fl nx x 41).1,((MS.mk g m c l).flow nx fl nx x 41).2,fl):=by
 have hop:=hx.op
 obtain⟨m',c',l',e1,r1,ok1⟩:=stq hs (by omega) (hs.g 7) (n:=1) rfl (hs.g 0)
 have r1':ba ((aQ g 7 (aB .i),(1,(aQ g 0 (aB .i),()))),((g,rip,fl,m,nx,c,()),l,()))=_:=r1 rip fl nx
 have hre:(MS.mk g m c l).flow nx fl nx x 41=(⟨setA g 7 (aG .i64 (rg g 7) 1),m',c',l'⟩,nx):=by
  unfold MS.flow
  rw[if_neg (by decide),if_neg (by decide),if_neg (by decide),if_neg (by decide),if_neg (by decide),if_neg (by decide),if_pos rfl]
  dsimp only
  rw[e1]
 rw[hre]
 unfold lV
 unfold aD
 dsimp only
 rw[hop,aq (by omega),aj,aq (by omega),aj,aq (by omega),aj,aq (by omega),aj,bc (by omega),aH]
 rw[r1',aa,ej,aa]
 exact⟨_,fl,nx,rfl,.same rfl⟩
theorem EU (hx:ExV x 42):lV g m c l x rip fl nx (((MS.mk g m c l).flow nx fl nx x 42).1,((MS.mk g m c l).flow nx fl nx x 42).2,fl):=by
 have hop:=hx.op
 obtain⟨v1,c1,l1,e1,r1,ok1,I1⟩:=ldq hs (by omega) (hs.g 6) (n:=1) rfl
 obtain⟨m',c',l',e2,r2,ok2⟩:=stq ok1 (by omega) (hs.g 7) (n:=1) rfl I1
 have r1':bp ((aQ g 6 (aB .i),(1,())),((g,rip,fl,m,nx,c,()),l,()))=_:=r1 rip fl nx
 have r2':ba ((aQ g 7 (aB .i),(1,(v1,()))),((g,rip,fl,m,nx,c1,()),l1,()))=_:=r2 rip fl nx
 have hre:(MS.mk g m c l).flow nx fl nx x 42=(⟨setA (setA g 7 (aG .i64 (rg g 7) 1)) 6 (aG .i64 (rg g 6) 1),m',c',l'⟩,nx):=by
  unfold MS.flow
  rw[if_neg (by decide),if_neg (by decide),if_neg (by decide),if_neg (by decide),if_neg (by decide),if_neg (by decide),if_neg (by decide),if_pos rfl]
  dsimp only
  rw[e1]
  dsimp only
  rw[e2]
  dsimp only
  rw[(vq g _).1,Cy]
 rw[hre]
 unfold lV
 unfold aD
 dsimp only
 rw[hop,aq (by omega),aj,aq (by omega),aj,aq (by omega),aj,aq (by omega),aj,aq (by omega),aj,bc (by omega),aH]
 rw[r1',aa]
 dsimp only[d5]
 rw[r2',aa,ej,aa]
 dsimp only
 have h6:aY (((aQ (cr (dP 16 (aB .i) g) 7 (aG .i64 (aQ g 7 (aB .i)) 1)) 6 (aB .i)),(1,())),())=some (aG .i64 (rg g 6) 1,()):=by
  rw[ej]
  have:=(vq g (aG .i64 (aQ g 7 (aB .i)) 1)).2
  unfold rg Go.Den.G.setA at this
  rw[this]
 rw[h6,aa]
 exact⟨_,fl,nx,rfl,.same rfl⟩
theorem EG (hx:ExV x 29):lV g m c l x rip fl nx (((MS.mk g m c l).flow nx fl nx x 29).1,((MS.mk g m c l).flow nx fl nx x 29).2,fl):=by
 have hop:=hx.op
 have hsv:=hx.sv
 rw[show sSz x 29=x.size from by unfold sSz;rw[if_neg (by decide),hx.fr.2 (by decide),if_neg (by decide)],hx.szs.2.2.1 (by decide)]at hsv
 obtain⟨v1,c1,l1,e1,r1,ok1,I1⟩:=gtq hs (by omega) (n:=8) rfl hsv nx
 obtain⟨g',m',c',l',e2,r2,ok2⟩:=puq ok1 (by omega) I1
 have r1':az ((cL x.src (),(8,())),((g,rip,fl,m,nx,c,()),l,()))=_:=r1 rip fl
 have hre:(MS.mk g m c l).flow nx fl nx x 29=(⟨g',m',c',l'⟩,nx):=by
  unfold MS.flow
  rw[if_pos rfl,e1]
  dsimp only
  rw[e2]
 rw[hre]
 unfold lV
 unfold aD
 dsimp only
 rw[hop,aq (by omega),aj,aq (by omega),aj,aq (by omega),aj,aq (by omega),aj,aq (by omega),aj,aq (by omega),aj,bc (by omega),aH]
 rw[r1',aa]
 dsimp only[d5]
 rw[r2,aa]
 exact⟨⟨g',m',c',l'⟩,fl,nx,rfl,.same rfl⟩
theorem EH (hx:ExV x 30):lV g m c l x rip fl nx (((MS.mk g m c l).flow nx fl nx x 30).1,((MS.mk g m c l).flow nx fl nx x 30).2,fl):=by
 have hop:=hx.op
 have hdv:=hx.dv
 rw[hx.szs.2.2.1 (by decide)]at hdv
 obtain⟨v1,g1,c1,l1,e1,r1,ok1,I1⟩:=poq hs (by omega)
 obtain⟨g',m',c',l',e2,r2,ok2⟩:=ptq ok1 (by omega) (n:=8) rfl hdv (hx.kd.1 (by decide)) nx I1
 have r2':aJ ((cL x.dst (),(8,(v1,()))),((g1,rip,fl,m,nx,c1,()),l1,()))=_:=r2 rip fl
 have hre:(MS.mk g m c l).flow nx fl nx x 30=(⟨g',m',c',l'⟩,nx):=by
  unfold MS.flow
  rw[if_neg (by decide),if_pos rfl,e1]
  dsimp only
  rw[e2]
 rw[hre]
 unfold lV
 unfold aD
 dsimp only
 rw[hop,aq (by omega),aj,aq (by omega),aj,aq (by omega),aj,aq (by omega),aj,aq (by omega),aj,aq (by omega),aj,aq (by omega),aj,bc (by omega),aH]
 rw[r1,aa]
 dsimp only[d5]
 rw[r2',aa]
 exact⟨⟨g',m',c',l'⟩,fl,nx,rfl,.same rfl⟩
theorem EP (hx:ExV x 38):lV g m c l x rip fl nx (((MS.mk g m c l).flow nx fl nx x 38).1,((MS.mk g m c l).flow nx fl nx x 38).2,fl):=by
 have hop:=hx.op
 have hre:(MS.mk g m c l).flow nx fl nx x 38=(⟨g,m,17,l⟩,nx):=by
  unfold MS.flow
  rw[if_neg (by decide),if_neg (by decide),if_neg (by decide),if_neg (by decide),if_neg (by decide),if_neg (by decide),if_neg (by decide),if_neg (by decide),if_pos rfl]
 rw[hre]
 unfold lV
 unfold aD
 dsimp only
 rw[hop,aq (by omega),aj,aq (by omega),aj,aq (by omega),aj,aq (by omega),aj,aq (by omega),aj,aq (by omega),aj,aq (by omega),aj,aq (by omega),aj,bc (by omega),aH]
 exact⟨⟨g,m,17,l⟩,fl,nx,rfl,.same rfl⟩
theorem EV (hx:ExV x 43):lV g m c l x rip fl nx (((MS.mk g m c l).flow nx fl nx x 43).1,((MS.mk g m c l).flow nx fl nx x 43).2,fl):=by
 have hop:=hx.op
 have hre:(MS.mk g m c l).flow nx fl nx x 43=(⟨g,m,18,l⟩,nx):=by
  unfold MS.flow
  rw[if_neg (by decide),if_neg (by decide),if_neg (by decide),if_neg (by decide),if_neg (by decide),if_neg (by decide),if_neg (by decide),if_neg (by decide),if_neg (by decide),if_pos (by decide)]
 rw[hre]
 unfold lV
 unfold aD
 dsimp only
 rw[hop,aq (by omega),aj,aq (by omega),aj,aq (by omega),aj,aq (by omega),aj,aq (by omega),aj,aq (by omega),aj,aq (by omega),aj,aq (by omega),aj,aq (by omega),aj]
 rw[show eqI ((43:Nat):Int) 43=true from rfl,aH,aa,ag]
 dsimp only
 rw[aH]
 exact⟨⟨g,m,18,l⟩,fl,nx,rfl,.same rfl⟩
theorem EW (hx:ExV x 44):lV g m c l x rip fl nx (((MS.mk g m c l).flow nx fl nx x 44).1,((MS.mk g m c l).flow nx fl nx x 44).2,fl):=by
 have hop:=hx.op
 have hre:(MS.mk g m c l).flow nx fl nx x 44=(⟨g,m,18,l⟩,nx):=by
  unfold MS.flow
  rw[if_neg (by decide),if_neg (by decide),if_neg (by decide),if_neg (by decide),if_neg (by decide),if_neg (by decide),if_neg (by decide),if_neg (by decide),if_neg (by decide),if_pos (by decide)]
 rw[hre]
 unfold lV
 unfold aD
 dsimp only
 rw[hop,aq (by omega),aj,aq (by omega),aj,aq (by omega),aj,aq (by omega),aj,aq (by omega),aj,aq (by omega),aj,aq (by omega),aj,aq (by omega),aj,aq (by omega),aj]
 rw[show eqI ((44:Nat):Int) 43=false from rfl,aj,aa,ag]
 dsimp only
 rw[show eqI ((44:Nat):Int) 44=true from rfl,aH]
 exact⟨⟨g,m,18,l⟩,fl,nx,rfl,.same rfl⟩
theorem EI (hx:ExV x 31)(hnx:I64 nx):lV g m c l x rip fl nx (((MS.mk g m c l).flow nx fl nx x 31).1,((MS.mk g m c l).flow nx fl nx x 31).2,fl):=by
 have hop:=hx.op
 have hsv:=hx.sv
 rw[show sSz x 31=x.size from by unfold sSz;rw[if_neg (by decide),hx.fr.2 (by decide),if_neg (by decide)],hx.szs.2.2.1 (by decide)]at hsv
 obtain⟨v1,c1,l1,e1,r1,ok1,I1⟩:=goq hs (by omega) hsv nx
 obtain⟨g',m',c',l',e2,r2,ok2⟩:=puq ok1 (by omega) hnx
 have hre:(MS.mk g m c l).flow nx fl nx x 31=(⟨g',m',c',l'⟩,v1):=by
  unfold MS.flow
  rw[if_neg (by decide),if_neg (by decide),if_pos rfl,e1]
  dsimp only
  rw[e2]
 rw[hre]
 unfold lV
 unfold aD
 dsimp only
 rw[hop,aq (by omega),aj,aq (by omega),aj,aq (by omega),aj,aq (by omega),aj,aq (by omega),aj,aq (by omega),aj,aq (by omega),aj,aq (by omega),aj,aq (by omega),aj]
 rw[show eqI ((31:Nat):Int) 43=false from rfl,aj,aa,ag]
 dsimp only
 rw[show eqI ((31:Nat):Int) 44=false from rfl,aj,Bk]
 unfold ca
 dsimp only
 rw[hop,bc (by omega),aH]
 rw[r1,aa]
 dsimp only[d5]
 rw[r2,aa]
 exact⟨⟨g',m',c',l'⟩,fl,v1,rfl,.same rfl⟩
theorem EJ (hx:ExV x 32):lV g m c l x rip fl nx (((MS.mk g m c l).flow nx fl nx x 32).1,((MS.mk g m c l).flow nx fl nx x 32).2,fl):=by
 have hop:=hx.op
 have hsv:=hx.sv
 rw[show sSz x 32=x.size from by unfold sSz;rw[if_neg (by decide),hx.fr.2 (by decide),if_neg (by decide)],hx.szs.2.2.1 (by decide)]at hsv
 obtain⟨v1,c1,l1,e1,r1,ok1,I1⟩:=goq hs (by omega) hsv nx
 have hre:(MS.mk g m c l).flow nx fl nx x 32=(⟨g,m,c1,l1⟩,v1):=by
  unfold MS.flow
  rw[if_neg (by decide),if_neg (by decide),if_neg (by decide),if_neg (by decide),if_pos rfl,e1]
 rw[hre]
 unfold lV
 unfold aD
 dsimp only
 rw[hop,aq (by omega),aj,aq (by omega),aj,aq (by omega),aj,aq (by omega),aj,aq (by omega),aj,aq (by omega),aj,aq (by omega),aj,aq (by omega),aj,aq (by omega),aj]
 rw[show eqI ((32:Nat):Int) 43=false from rfl,aj,aa,ag]
 dsimp only
 rw[show eqI ((32:Nat):Int) 44=false from rfl,aj,Bk]
 unfold ca
 dsimp only
 rw[hop,aq (by omega),aj,bc (by omega),aH]
 rw[r1,aa]
 exact⟨⟨g,m,c1,l1⟩,fl,v1,rfl,.same rfl⟩
theorem EK (hx:ExV x 33):lV g m c l x rip fl nx (((MS.mk g m c l).flow nx fl nx x 33).1,((MS.mk g m c l).flow nx fl nx x 33).2,fl):=by
 have hop:=hx.op
 have hk3:=hx.kd.2.2.2.2.2.2.2.1 rfl
 have hgo:∀s:MS,s.go nx x=(aG .i64 nx x.src.imm,s):=fun s=>if_pos hk3
 have hg2:bC ((x,()),((g,rip,fl,m,nx,c,()),l,()))=some (aG .i64 nx x.src.imm,((g,rip,fl,m,nx,c,()),l,())):=by
  unfold bC
  dsimp only
  rw[bc hk3,aH,ej,aa]
 have hre:(MS.mk g m c l).flow nx fl nx x 33=(⟨g,m,c,l⟩,if il x.cond fl=true then aG .i64 nx x.src.imm else nx):=by
  unfold MS.flow
  rw[if_neg (by decide),if_neg (by decide),if_neg (by decide),if_neg (by decide),if_neg (by decide),if_pos rfl,hgo]
  split<;>rfl
 rw[hre]
 unfold lV
 unfold aD
 dsimp only
 rw[hop,aq (by omega),aj,aq (by omega),aj,aq (by omega),aj,aq (by omega),aj,aq (by omega),aj,aq (by omega),aj,aq (by omega),aj,aq (by omega),aj,aq (by omega),aj]
 rw[show eqI ((33:Nat):Int) 43=false from rfl,aj,aa,ag]
 dsimp only
 rw[show eqI ((33:Nat):Int) 44=false from rfl,aj,Bk]
 unfold ca
 dsimp only
 rw[hop,aq (by omega),aj,aq (by omega),aj,bc (by omega),aH]
 rw[mK hx.c0 hx.c1,aa]
 dsimp only
 by_cases hh:il x.cond fl=true
 ·rw[hh,aH,hg2,aa,if_pos rfl]
  exact⟨⟨g,m,c,l⟩,fl,_,rfl,.same rfl⟩
 ·rw[Bool.eq_false_iff.2 hh,aj,if_neg (by decide)]
  exact⟨⟨g,m,c,l⟩,fl,_,rfl,.same rfl⟩
theorem EL (hx:ExV x 34):lV g m c l x rip fl nx (((MS.mk g m c l).flow nx fl nx x 34).1,((MS.mk g m c l).flow nx fl nx x 34).2,fl):=by
 have hop:=hx.op
 obtain⟨v1,g1,c1,l1,e1,r1,ok1,I1⟩:=poq hs (by omega)
 have hre:(MS.mk g m c l).flow nx fl nx x 34=(⟨g1,m,c1,l1⟩,v1):=by
  unfold MS.flow
  rw[if_neg (by decide),if_neg (by decide),if_neg (by decide),if_pos rfl,e1]
 rw[hre]
 unfold lV
 unfold aD
 dsimp only
 rw[hop,aq (by omega),aj,aq (by omega),aj,aq (by omega),aj,aq (by omega),aj,aq (by omega),aj,aq (by omega),aj,aq (by omega),aj,aq (by omega),aj,aq (by omega),aj]
 rw[show eqI ((34:Nat):Int) 43=false from rfl,aj,aa,ag]
 dsimp only
 rw[show eqI ((34:Nat):Int) 44=false from rfl,aj,Bk]
 unfold ca
 dsimp only
 rw[hop,aq (by omega),aj,aq (by omega),aj,aq (by omega),aj,bc (by omega),aH]
 rw[r1,aa]
 exact⟨⟨g1,m,c1,l1⟩,fl,v1,rfl,.same rfl⟩
theorem EO (hx:ExV x 37):lV g m c l x rip fl nx (((MS.mk g m c l).flow nx fl nx x 37).1,((MS.mk g m c l).flow nx fl nx x 37).2,fl):=by
 have hop:=hx.op
 have hre:(MS.mk g m c l).flow nx fl nx x 37=(⟨g,m,c,l⟩,nx):=by
  unfold MS.flow
  rw[if_neg (by decide),if_neg (by decide),if_neg (by decide),if_neg (by decide),if_neg (by decide),if_neg (by decide),if_neg (by decide),if_neg (by decide),if_neg (by decide),if_neg (by decide)]
 rw[hre]
 unfold lV
 unfold aD
 dsimp only
 rw[hop,aq (by omega),aj,aq (by omega),aj,aq (by omega),aj,aq (by omega),aj,aq (by omega),aj,aq (by omega),aj,aq (by omega),aj,aq (by omega),aj,aq (by omega),aj]
 rw[show eqI ((37:Nat):Int) 43=false from rfl,aj,aa,ag]
 dsimp only
 rw[show eqI ((37:Nat):Int) 44=false from rfl,aj,Bk]
 unfold ca
 dsimp only
 rw[hop,aq (by omega),aj,aq (by omega),aj,aq (by omega),aj,aq (by omega),aj]
 exact⟨⟨g,m,c,l⟩,fl,nx,rfl,.same rfl⟩
end
end
noncomputable section
theorem szN_all:∀n,n<45→1≤n→∀z∈szL (szK n),(0:Int)≤z:=by decide +kernel
theorem lV.plain {g:List Int}{m:List Page}{c:Int}{l:List Acc}{k:Nat}(hs:(MS.mk g m c l).ok k)(hk:k+4≤1000){x:Ins}{n:Nat}{rip fl nx:Int}{e:MS×Int×Int}(hx:ExV x n)(hn:29≤n)(h:lV g m c l x rip fl nx e):eZ g m c l x rip fl nx e:=by
 obtain⟨S,fl',nx',hr,hR⟩:=h
 exact zI hs hk hx hn hr hR
theorem plain_r {g:List Int}{rip fl:Int}{m:List Page}{x:Ins}{n z:Nat}(hm:MemT m)(hg:iW g)(hI:I64 fl)(hf:bN fl=true)(hx:ExV x n)(hz:x.size=z):
  eZ g m 0 [] x rip fl (aG .i64 rip x.len) (exM g rip fl m x n z):=by
 have hs:(MS.mk g m 0 []).ok 0:=⟨hm,Nat.le_refl 0,hg⟩
 have hk:0+4≤1000:=by decide
 have h1:=hx.n1
 have h2:=hx.n2
 have hnx:I64 (aG .i64 rip x.len):=ar _
 unfold exM
 dsimp only
 by_cases hmv:mvB n=true
 ·rw[if_pos hmv]
  have hn:=of_decide_eq_true hmv
  rcases hn with rfl|rfl|rfl|rfl|rfl|rfl|rfl|rfl|rfl
  ·exact plain_9 hs hk hx hz
  ·exact Fa hs hk hx hz
  ·exact E3 hs hk hx hz
  ·exact E5 hs hk hx hz
  ·exact E8 hs hk hx hz
  ·exact(EM hs hk hx).plain hs hk hx (by decide)
  ·exact(EN hs hk hx hz).plain hs hk hx (by decide)
  ·exact(EQ hs hk hx hz).plain hs hk hx (by decide)
  ·exact(ES hs hk hx hz).plain hs hk hx (by decide)
 ·rw[if_neg hmv]
  by_cases hwd:wdB n=true
  ·rw[if_pos hwd]
   have hn:=of_decide_eq_true hwd
   exact zJ hs hk hx hz hI hf (by omega)
  ·rw[if_neg hwd]
   by_cases hfw:fwB n=true
   ·rw[if_pos hfw]
    have hn:=of_decide_eq_true hfw
    rcases hn with rfl|rfl|rfl|rfl|rfl|rfl|rfl|rfl|rfl|rfl|rfl|rfl
    ·exact(EG hs hk hx).plain hs hk hx (by decide)
    ·exact(EH hs hk hx).plain hs hk hx (by decide)
    ·exact(EI hs hk hx hnx).plain hs hk hx (by decide)
    ·exact(EL hs hk hx).plain hs hk hx (by decide)
    ·exact(EJ hs hk hx).plain hs hk hx (by decide)
    ·exact(EK hs hk hx).plain hs hk hx (by decide)
    ·exact(ET hs hk hx).plain hs hk hx (by decide)
    ·exact(EU hs hk hx).plain hs hk hx (by decide)
    ·exact(EP hs hk hx).plain hs hk hx (by decide)
    ·exact(EV hs hk hx).plain hs hk hx (by decide)
    ·exact(EW hs hk hx).plain hs hk hx (by decide)
    ·exact(EO hs hk hx).plain hs hk hx (by decide)
   ·rw[if_neg hfw]
    have n1:=of_decide_eq_false (Bool.eq_false_iff.2 hmv)
    have n2:=of_decide_eq_false (Bool.eq_false_iff.2 hwd)
    have n3:=of_decide_eq_false (Bool.eq_false_iff.2 hfw)
    by_cases ha:n≤8∨n=10
    ·exact Ck hs hk hx hz ha
    by_cases hb:n=11∨n=12∨n=18∨n=19
    ·exact Cl hs hk hx hz hI hf hb
    by_cases hc:20≤n∧n≤24
    ·exact xb hs hk hx hz hI hf hc
    have:n=17:=by omega
    subst this
    exact zH hs hk hx hz hI hf
def exS (g:List Int)(rip fl:Int)(m:List Page)(r:MS×Int×Int):((List Int×Int×Int×Unit)×(List Page×Unit)×List Acc×Int×Unit)×Unit:=
 if r.1.code≠0 then(((g,rip,fl,()),(m,()),r.1.l,r.1.code,()),())else(((r.1.g,r.2.1,r.2.2,()),(r.1.m,()),r.1.l,0,()),())
theorem exec_r {g:List Int}{rip fl:Int}{m:List Page}{x:Ins}{n z:Nat}(hm:MemT m)(hg:iW g)(hI:I64 fl)(hf:bN fl=true)(hx:ExV x n)(hz:x.size=z):
  gg (((g,(rip,(fl,()))),((m,()),(x,()))),())=some (exS g rip fl m (exM g rip fl m x n z)):=by
 obtain⟨S,fl',nx',hr,h1,h2,h3⟩:=plain_r (rip:=rip) hm hg hI hf hx hz
 generalize exM g rip fl m x n z=e at h1 h2 h3
 unfold gg
 dsimp only
 rw[ej,aa]
 dsimp only
 rw[hr,aa]
 unfold MS.r exS
 dsimp only[p5,d5]
 rw[h1,h2]
 by_cases hc:e.1.code=0
 ·obtain⟨hS,rfl,rfl⟩:=h3 hc
  rw[hc,bc rfl,ce,aj,if_neg (by decide),hS]
 ·rw[aq hc,cP,aH,if_pos hc]
end
abbrev Shz:=Int×Int×Int×Bool×Int×Unit
def shz (sec:Bool)(n:Nat):Shz:=match cB ((sec,((n:Int),())),())with
 |some x=>x.1
 |none=>(0,0,0,false,0,())
theorem CB:∀n:Nat,n<256→(cB ((false,((n:Int),())),())).isSome=true∧(cB ((true,((n:Int),())),())).isSome=true:=by decide +kernel
theorem wI (sec:Bool){n:Nat}(h:n<256):cB ((sec,((n:Int),())),())=some (shz sec n,()):=by
 have h2:(cB ((sec,((n:Int),())),())).isSome=true:=by cases sec;exact(CB n h).1;exact(CB n h).2
 unfold shz
 cases hx:cB ((sec,((n:Int),())),())with
 |none=>rw[hx]at h2;cases h2
 |some x=>rfl
def shR (z:Shz):(Shz×Int×Unit)×Unit:=((if z.2.1=0 then(0,0,0,false,0,())else z,(if z.2.1=0 then 11 else 0,())),())
instance decShz:DecidableEq (Int×Int×Int×Bool×Int×Unit):=inferInstance
instance decShz2:DecidableEq ((Int×Int×Int×Bool×Int×Unit)×Int×Unit):=inferInstance
def okSh (sec:Bool)(n:Nat):Bool:=decide (fR ((sec,((n:Int),())),())=some (shR (shz sec n)))
theorem Fl:∀n:Nat,n<256→okSh false n=true:=by decide +kernel
theorem Fm:∀n:Nat,n<256→okSh true n=true:=by decide +kernel
theorem y5 (sec:Bool){n:Nat}(h:n<256):fR ((sec,((n:Int),())),())=some (shR (shz sec n)):=by
 cases sec
 ·exact of_decide_eq_true (Fl n h)
 ·exact of_decide_eq_true (Fm n h)
def nj (f:Int):Bool:=decide (f=1∨f=2∨f=4∨f=5∨f=6∨f=11∨f=12∨f=13∨f=17)
theorem Bh:∀n:Nat,n<18→fd (((n:Int),()),())=some (nj n,()):=by decide +kernel
theorem Bi:∀n:Nat,n<18→cY (((n:Int),()),())=some (nj n,()):=by decide +kernel
def shP (z:Shz):Bool:=decide (0≤z.1∧z.1≤44∧0≤z.2.1∧z.2.1<18∧0≤z.2.2.1∧z.2.2.1≤7∧(z.2.2.2.2.1=0∨z.2.1=17∧(z.2.2.2.2.1=1∨z.2.2.2.2.1=2∨z.2.2.2.2.1=4))∧(z.2.1=17→z.2.2.2.2.1≠0)∧(0<z.2.2.1→nj z.2.1=true∧z.2.1≠17∧z.1=0)∧(z.1=25→z.2.1=2)∧(z.2.1≠0→z.2.2.1=0→1≤z.1))
theorem Fh:∀n:Nat,n<256→shP (shz false n)=true:=by decide +kernel
theorem Fi:∀n:Nat,n<256→shP (shz true n)=true:=by decide +kernel
theorem Fj (sec:Bool){n:Nat}(h:n<256):shP (shz sec n)=true:=by
 cases sec
 ·exact Fh n h
 ·exact Fi n h
def grp (g d:Nat):Int:=match fu (((g:Int),((d:Int),())),())with
 |some x=>x.1
 |none=>0
theorem wH:∀g:Nat,g<8→1≤g→∀d:Nat,d<8→fu (((g:Int),((d:Int),())),())=some (grp g d,()):=by decide +kernel
def gpR (o:Int):(Int×Int×Unit)×Unit:=((o,(if o=0 then 11 else 0,())),())
def okGp (g d:Nat):Bool:=decide (fQ (((g:Int),((d:Int),())),())=some (gpR (grp g d)))
theorem gp_impl:∀g:Nat,g<8→1≤g→∀d:Nat,d<8→okGp g d=true:=by decide +kernel
theorem yZ {g d:Nat}(h:g<8)(h1:1≤g)(k:d<8):fQ (((g:Int),((d:Int),())),())=some (gpR (grp g d)):=of_decide_eq_true (gp_impl g h h1 d k)
theorem Be:∀g:Nat,g<8→∀d:Nat,d<8→0≤grp g d∧grp g d≤44:=by decide +kernel
def cE (op:Int):Bool:=decide (op=29∨op=30∨op=31∨op=32)
def dW (op:Int):Bool:=decide (op=33∨op=34∨op=37∨op=38∨op=43∨op=44)
theorem zk:∀n:Nat,n<45→eL (((n:Int),()),())=some ((if cE n=true then(8,(true,()))else if dW n=true then(0,(true,()))else(0,(false,()))),()):=by decide +kernel
def szM (by':Bool)(op:Int)(w:Bool)(x:Int):Int:=if cE op=true then 8 else if dW op=true then 0 else if by'=true then 1 else if x/8%2=1 then 8 else if w=true then 2 else 4
def pm:List Int:=[38,46,54,62,100,101,102,103,240,242,243]
theorem E0:∀n:Nat,n<256→eU (((n:Int),()),())=some (decide ((n:Int)∈pm∧n≠102),()):=by decide +kernel
section
variable {t:List UInt8}{a c:Int}
theorem AE {x:Int}(nw hr:Bool)(r:_):aN ((0,()),((t,(a,(c,(nw,(x%16,(hr,r)))))),()))=some (iI x 0,((t,(a,(c,(nw,(x%16,(hr,r)))))),())):=so 0 (by decide) nw hr r
theorem dbit1 {x:Int}(nw hr:Bool)(r:_):aN ((1,()),((t,(a,(c,(nw,(x%16,(hr,r)))))),()))=some (iI x 1,((t,(a,(c,(nw,(x%16,(hr,r)))))),())):=so 1 (by decide) nw hr r
theorem dbit2 {x:Int}(nw hr:Bool)(r:_):aN ((2,()),((t,(a,(c,(nw,(x%16,(hr,r)))))),()))=some (iI x 2,((t,(a,(c,(nw,(x%16,(hr,r)))))),())):=so 2 (by decide) nw hr r
theorem dbit3 {x:Int}(nw hr:Bool)(r:_):aN ((3,()),((t,(a,(c,(nw,(x%16,(hr,r)))))),()))=some (iI x 3,((t,(a,(c,(nw,(x%16,(hr,r)))))),())):=so 3 (by decide) nw hr r
theorem jP {x:Int}{k:Nat}(hk:k<4):0≤iI x k∧iI x k≤8∧(x=0→iI x k=0):=by
 rcases pJ (x:=x) hk with h|h<;>omega
theorem vD {b:Int}(h0:0≤b)(h1:b<256):dg .i64 1 (b/64)=2^(b/64).toNat:=by
 have:b/64=0∨b/64=1∨b/64=2∨b/64=3:=by omega
 rcases this with h|h|h|h<;>rw[h]<;>decide
theorem kr {α:Type}{o:Option α}{f:Int→Int→α}{p:Int→Int→Prop}(h:Ret o fun y=>∃a c,y=f a c∧p a c):∃a c,o=some (f a c)∧p a c:=by
 obtain⟨y,e,a,c,rfl,h⟩:=h
 exact⟨a,c,e,h⟩
theorem gY {x m z:Int}(hm0:0≤m)(hm:m<256)(nw:Bool)(op z0 z1 z2:Int)(z3:Bool)(z4 rg:Int)(r:_)
  (hl:(t.length:Int)≤1099511627776) (hp:(aE a c).In t):
  ∃a' c',aS ((z,()),(t,a,c,nw,x%16,decide (x≠0),op,z0,z1,z2,z3,z4,m/64,rg,m%8,r),())=
   some (cL (plM t x m z (aE a c)).1 (),(t,a',c',nw,x%16,decide (x≠0),op,z0,z1,z2,z3,z4,m/64,rg,m%8,r),())∧aE a' c'=(plM t x m z (aE a c)).2:=by
 have hmd:0≤m/64∧m/64≤3:=by omega
 have hrm:0≤m%8∧m%8≤7:=by omega
 unfold aS plM
 dsimp only[p12,p14]
 generalize m/64=md at hmd⊢
 generalize m%8=rm at hrm⊢
 obtain⟨e0,e8,ez⟩:=jP (x:=x) (k:=0) (by decide)
 have⟨f0,f8,_⟩:=jP (x:=x) (k:=1) (by decide)
 by_cases h3:md=3
 ·rw[af (bc h3),if_pos h3,AE,aa]
  dsimp only
  rw[bu (by omega) (by omega),wg (by omega) (by omega) (by omega),aa]
  exact⟨a,c,rfl,rfl⟩
 ·rw[am (aq h3),if_neg h3,AE,aa]
  dsimp only
  unfold Ag
  by_cases h4:rm=4
  ·rw[af (bc h4),if_pos h4]
   obtain⟨a1,c1,hn,hq⟩:=jb 1 (nw,x%16,decide (x≠0),op,z0,z1,z2,z3,z4,md,rg,rm,r) (by decide) (by decide) hl hp
   rw[hn,aa]
   dsimp only
   rw[AE,aa,dbit1,aa]
   dsimp only
   rw[←hq]
   have hb:=dp t (aE a c) hp
   generalize rdU t 1 (aE a c)=b at hb⊢
   obtain⟨b6,b3,b0,_⟩:=bI hb.1 hb.2
   rw[b6,b3,b0,bu (by omega) (by omega),bu (by omega) (by omega),vD hb.1 hb.2]
   refine kr (Ret.bnd (Q:=fun y=>y=Sum.inl ((decide (md=2∨md=0∧b%8=5),()),(t,a1,c1,nw,x%16,decide (x≠0),op,z0,z1,z2,z3,z4,md,rg,rm,r),(0,0,0,0,0,0,0,()),
    (2,0,(if md=0∧b%8=5 then -1 else b%8+iI x 0),(if b/8%8+iI x 1=4 then -1 else b/8%8+iI x 1),(if b/8%8+iI x 1=4 then 1 else 2^(b/64).toNat),0,0,()),())) ?_ ?_)
   ·have hle:leI 0 (b/64)=true:=eY (by omega)
    by_cases hA:b/8%8+iI x 1=4<;>by_cases hB:md=0<;>by_cases hC:b%8=5<;>
     simp[b0,hle,hA,hB,hC,eqI,aX,br,bnd,aW,Ret]
   ·rintro _ rfl
    rw[ag]
    dsimp only[p12,d6]
    have hin:(aE a1 c1).In t:=by rw[hq];exact hp.adv (by decide)
    by_cases hW:md=2∨md=0∧b%8=5
    ·rw[af (decide_eq_true hW)]
     obtain⟨a2,c2,hn2,hq2⟩:=eW 4 (nw,x%16,decide (x≠0),op,z0,z1,z2,z3,z4,md,rg,rm,r) (by decide) (by decide) hl hin
     have hd:kb md rm b=4:=by unfold kb;repeat' split
                              all_goals omega
     rw[hn2,aa,hd]
     exact Ret.some ⟨a2,c2,rfl,hq2⟩
    ·rw[am (decide_eq_false hW)]
     by_cases h1:md=1
     ·rw[af (bc h1)]
      obtain⟨a2,c2,hn2,hq2⟩:=eW 1 (nw,x%16,decide (x≠0),op,z0,z1,z2,z3,z4,md,rg,rm,r) (by decide) (by decide) hl hin
      have hd:kb md rm b=1:=by unfold kb;repeat' split
                               all_goals omega
      rw[hn2,aa,hd]
      exact Ret.some ⟨a2,c2,rfl,hq2⟩
     ·rw[am (aq h1)]
      have hd:kb md rm b=0:=by unfold kb;repeat' split
                               all_goals omega
      rw[hd]
      exact Ret.some ⟨a1,c1,rfl,rfl⟩
  ·rw[am (aq h4),if_neg h4]
   refine kr (Ret.bnd (Q:=fun y=>y=Sum.inl ((decide (md=2∨md=0∧rm=5),()),(t,a,c,nw,x%16,decide (x≠0),op,z0,z1,z2,z3,z4,md,rg,rm,r),(0,0,0,0,0,0,0,()),
    (2,0,(if md=0∧rm=5 then 16 else rm+iI x 0),-1,1,0,0,()),())) ?_ ?_)
   ·rw[bu (by omega) (by omega)]
    by_cases hB:md=0<;>by_cases hC:rm=5<;>
     simp[hB,hC,eqI,br,bnd,aW,Ret]
   ·rintro _ rfl
    rw[ag]
    dsimp only[p12,d6]
    by_cases hR:rm=5∧md=0
    ·rw[af (decide_eq_true (.inr ⟨hR.2,hR.1⟩)),if_pos ⟨hR.2,hR.1⟩,if_pos hR]
     obtain⟨a2,c2,hn2,hq2⟩:=eW 4 (nw,x%16,decide (x≠0),op,z0,z1,z2,z3,z4,md,rg,rm,r) (by decide) (by decide) hl hp
     rw[hn2,aa]
     exact Ret.some ⟨a2,c2,rfl,hq2⟩
    ·rw[if_neg (fun g=>hR ⟨g.2,g.1⟩),if_neg hR]
     by_cases hW:md=2
     ·rw[af (decide_eq_true (.inl hW))]
      obtain⟨a2,c2,hn2,hq2⟩:=eW 4 (nw,x%16,decide (x≠0),op,z0,z1,z2,z3,z4,md,rg,rm,r) (by decide) (by decide) hl hp
      have hd:kb md rm 0=4:=by unfold kb;rw[if_pos hW]
      rw[hn2,aa,hd]
      exact Ret.some ⟨a2,c2,rfl,hq2⟩
     ·rw[am (decide_eq_false (fun g=>g.elim hW fun g=>hR ⟨g.2,g.1⟩))]
      by_cases h1:md=1
      ·rw[af (bc h1)]
       obtain⟨a2,c2,hn2,hq2⟩:=eW 1 (nw,x%16,decide (x≠0),op,z0,z1,z2,z3,z4,md,rg,rm,r) (by decide) (by decide) hl hp
       have hd:kb md rm 0=1:=by unfold kb;rw[if_neg hW,if_pos h1]
       rw[hn2,aa,hd]
       exact Ret.some ⟨a2,c2,rfl,hq2⟩
      ·rw[am (aq h1)]
       have hd:kb md rm 0=0:=by unfold kb;repeat' split
                                all_goals omega
       rw[hd]
       exact Ret.some ⟨a,c,rfl,rfl⟩
end
def noD:Opd:=⟨0,0,0,0,0,0,0⟩
def zW (op:Int):Bool:=decide (op=13∨op=14∨op=15∨op=16∨op=31∨op=32∨op=29)
def mm (t:List UInt8)(op z:Int)(q:Opd×Pos):Opd×Opd×Pos:=
 if zW op=true then(noD,q.1,q.2)else if op=10 then(q.1,uv (rdS t (im 4 z) q.2),adv t (im 4 z) q.2)else(q.1,noD,q.2)
def ny (t:List UInt8)(f frm op z x b m:Int)(p:Pos):Opd×Opd×Pos:=
 if f=1 then((plM t x m z p).1,oX (jK x (m/8%8+iI x 2) z),(plM t x m z p).2)
 else if f=2 then(oX (jK x (m/8%8+iI x 2) z),(plM t x m z p).1,(plM t x m z p).2)
 else if f=17 then(oX (jK x (m/8%8+iI x 2) z),(plM t x m frm p).1,(plM t x m frm p).2)
 else if f=3 then(oX 0,uv (rdS t (im 4 z) p),adv t (im 4 z) p)
 else if f=4 then((plM t x m z p).1,uv (rdS t 1 (plM t x m z p).2),adv t 1 (plM t x m z p).2)
 else if f=5 then((plM t x m z p).1,uv (rdS t (im 4 z) (plM t x m z p).2),adv t (im 4 z) (plM t x m z p).2)
 else if f=6 then mm t op z (plM t x m z p)
 else if f=7 then(if op=29 then(noD,oX (b%8+iI x 0),p)else(oX (b%8+iI x 0),noD,p))
 else if f=8 then(oX (jK x (b%8+iI x 0) z),uv (rdS t z p),adv t z p)
 else if f=9 then(noD,uv (rdS t 1 p),adv t 1 p)
 else if f=15 then(noD,uv (if op=44 then rdU t 1 p else rdS t 1 p),adv t 1 p)
 else if f=10∨f=16 then(noD,uv (rdS t 4 p),adv t 4 p)
 else if f=11 then((plM t x m z p).1,uv (rdU t 1 (plM t x m z p).2),adv t 1 (plM t x m z p).2)
 else if f=12 then((plM t x m z p).1,uv 1,(plM t x m z p).2)
 else if f=13 then((plM t x m z p).1,oX 1,(plM t x m z p).2)
 else(noD,noD,p)
section
variable {t:List UInt8}{a c:Int}
theorem wi {w:Int}{p:Pos}(h:p.In t)(hw:0≤w):(AM t w p).In t:=by
 unfold AM;split
 ·exact h
 ·exact h.adv hw
theorem xW (mod rm b:Int):0≤kb mod rm b:=by unfold kb;(repeat' split)<;>decide
theorem iM {x m z:Int}{p:Pos}(h:p.In t):(plM t x m z p).2.In t:=by
 unfold plM Ag
 split
 ·exact h
 ·split
  ·exact wi (h.adv (by decide)) (xW ..)
  ·split
   ·exact wi h (show(0:Int)≤4 by decide)
   ·exact wi h (xW ..)
theorem mI {z:Int}(h:eJ z):1≤im 4 z∧im 4 z≤8:=by
 unfold eJ at h
 rcases h with rfl|rfl|rfl|rfl<;>decide
theorem we {nw:Bool}{rx:Int}{hr:Bool}{q6 q7 q8 q9:Int}{q10:Bool}{q11 q12 q13 q14 q15:Int}{z:Int}(r:_)(hz:eJ z)(hl:(t.length:Int)≤1099511627776)(hp:(aE a c).In t):
  ∃a' c',bq ((),(t,a,c,nw,rx,hr,q6,q7,q8,q9,q10,q11,q12,q13,q14,q15,z,r),())=
   some (cL (uv (rdS t (im 4 z) (aE a c))) (),(t,a',c',nw,rx,hr,q6,q7,q8,q9,q10,q11,q12,q13,q14,q15,z,r),())∧aE a' c'=adv t (im 4 z) (aE a c):=by
 obtain⟨a',c',e,h⟩:=eW (im 4 z) (nw,rx,hr,q6,q7,q8,q9,q10,q11,q12,q13,q14,q15,z,r) (mI hz).1 (mI hz).2 hl hp
 unfold bq cI
 dsimp only[p16]
 rw[e,aa,aa]
 exact⟨a',c',rfl,h⟩
theorem sw1 {α β:Type}{a b:Bool}{r:α}:br a (some (Sum.inl ((a,()),r):Sum ((Bool×Unit)×α) β)) (some (Sum.inl ((b,()),r)))=some (Sum.inl ((a||b,()),r)):=by cases a<;>rfl
theorem sw2 {α β γ:Type}{a b:Bool}{r:α}{y:γ}:br a (some (Sum.inl ((y,a,()),r):Sum ((γ×Bool×Unit)×α) β)) (some (Sum.inl ((y,b,()),r)))=some (Sum.inl ((y,a||b,()),r)):=by cases a<;>rfl
theorem CK (op:Int):(eqI op 13||(eqI op 14||(eqI op 15||(eqI op 16||(eqI op 31||(eqI op 32||eqI op 29))))))=zW op:=by
 rw[Bool.eq_iff_iff];simp[zW,eqI]
theorem done_eq {x m z:Int}(hm0:0≤m)(hm:m<256)(nw:Bool)(q6 q7 q8 q9:Int)(q10:Bool)(q11 q13 op:Int)(hz:eJ z)(hl:(t.length:Int)≤1099511627776)(hp:(aE a c).In t):
  ∃a' c',cw ((),(t,a,c,nw,x%16,decide (x≠0),q6,q7,q8,q9,q10,q11,m/64,q13,m%8,op,z,0,0,0,0,0,0,0,0,0,0,0,0,0,0,0,0,0,()),())=
   some ((),(t,a',c',nw,x%16,decide (x≠0),q6,q7,q8,q9,q10,q11,m/64,q13,m%8,op,z,0,0,cL (mm t op z (plM t x m z (aE a c))).1 (cL (mm t op z (plM t x m z (aE a c))).2.1 (0,()))),())∧
   aE a' c'=(mm t op z (plM t x m z (aE a c))).2.2:=by
 obtain⟨a1,c1,e,h⟩:=gY (x:=x) (z:=z) hm0 hm nw q6 q7 q8 q9 q10 q11 q13 (op,z,0,0,0,0,0,0,0,0,0,0,0,0,0,0,0,0,0,()) hl hp
 have hin:(aE a1 c1).In t:=by rw[h];exact iM hp
 unfold cw
 dsimp only[p16,p15]
 rw[e,aa]
 dsimp only
 simp only[sw1,aa,ag,CK]
 unfold mm
 cases hs:zW op with
 |true=>
  rw[aH,aa,oQ,if_pos rfl]
  exact⟨a1,c1,rfl,h⟩
 |false=>
  rw[aj,aa,ag,if_neg (by decide)]
  by_cases h10:op=10
  ·rw[af (bc h10),if_pos h10]
   obtain⟨a2,c2,e2,h2⟩:=we (nw:=nw) (rx:=x%16) (hr:=decide (x≠0)) (q6:=q6) (q7:=q7) (q8:=q8) (q9:=q9) (q10:=q10) (q11:=q11) (q12:=m/64) (q13:=q13) (q14:=m%8) (q15:=op) (0,0,cL (plM t x m z (aE a c)).1 (0,0,0,0,0,0,0,0,())) hz hl hin
   refine kr (Ret.bnd (Q:=fun y=>y=_) (Ret.of_eq e2 rfl) ?_)
   rintro _ rfl
   rw[←h]
   exact Ret.some ⟨a2,c2,rfl,h2⟩
  ·rw[am (aq h10),if_neg h10]
   exact⟨a1,c1,rfl,h⟩
end
section
variable {t:List UInt8}{a c:Int}
theorem bI7 (b:Int)(h0:0≤b)(h1:b<256):ct .i64 b 7=b%8:=(bI h0 h1).2.2.1
theorem sz18 {z:Int}(h:eJ z):1≤z∧z≤8:=by unfold eJ at h;omega
theorem ud {x m z f frm b op:Int}(hm0:0≤m)(hm:m<256)(hb0:0≤b)(hb:b<256)(nw:Bool)(z0 z2:Int)(z3:Bool)(hz:(f=3∨f=5∨f=6∨f=8)→eJ z)(hl:(t.length:Int)≤1099511627776)(hp:(aE a c).In t):
  ∃a' c',cx ((),(t,a,c,nw,x%16,decide (x≠0),b,z0,f,z2,z3,frm,m/64,m/8%8,m%8,op,z,0,0,0,0,0,0,0,0,0,0,0,0,0,0,0,0,0,()),())=
   some ((),(t,a',c',nw,x%16,decide (x≠0),b,z0,f,z2,z3,frm,m/64,m/8%8,m%8,op,z,0,(if f=17 then frm else 0),cL (ny t f frm op z x b m (aE a c)).1 (cL (ny t f frm op z x b m (aE a c)).2.1 (0,()))),())∧
   aE a' c'=(ny t f frm op z x b m (aE a c)).2.2:=by
 obtain⟨e0,e8,ez⟩:=jP (x:=x) (k:=0) (by decide)
 obtain⟨g0,g8,gz⟩:=jP (x:=x) (k:=2) (by decide)
 unfold cx ny
 dsimp only[p13,p16,p8,p15,p11,p6]
 rw[dbit2,aa]
 dsimp only
 rw[bu (by omega) (by omega),wg (by omega) (by omega) (by omega),aa]
 dsimp only
 by_cases f1:f=1
 ·rw[af (bc f1),if_pos f1,if_neg (by omega)]
  obtain⟨a1,c1,e,h⟩:=gY (x:=x) (z:=z) hm0 hm nw b z0 f z2 z3 frm (m/8%8) (op,z,0,0,0,0,0,0,0,0,0,0,0,0,0,0,0,0,0,()) hl hp
  rw[e,aa]
  exact⟨a1,c1,rfl,h⟩
 rw[am (aq f1),if_neg f1]
 by_cases f2:f=2
 ·rw[af (bc f2),if_pos f2,if_neg (by omega)]
  obtain⟨a1,c1,e,h⟩:=gY (x:=x) (z:=z) hm0 hm nw b z0 f z2 z3 frm (m/8%8) (op,z,0,0,0,0,0,0,0,0,0,0,0,0,0,0,0,0,0,()) hl hp
  rw[e,aa]
  exact⟨a1,c1,rfl,h⟩
 rw[am (aq f2),if_neg f2]
 by_cases f17:f=17
 ·rw[af (bc f17),if_pos f17,if_pos f17]
  obtain⟨a1,c1,e,h⟩:=gY (x:=x) (z:=frm) hm0 hm nw b z0 f z2 z3 frm (m/8%8) (op,z,0,frm,0,0,0,0,0,0,0,0,0,0,0,0,0,0,0,()) hl hp
  rw[e,aa]
  exact⟨a1,c1,rfl,h⟩
 rw[am (aq f17),if_neg f17,if_neg f17]
 by_cases f3:f=3
 ·rw[af (bc f3),if_pos f3]
  obtain⟨a2,c2,e2,h2⟩:=we (nw:=nw) (rx:=x%16) (hr:=decide (x≠0)) (q6:=b) (q7:=z0) (q8:=f) (q9:=z2) (q10:=z3) (q11:=frm) (q12:=m/64) (q13:=m/8%8) (q14:=m%8) (q15:=op) (0,0,cL (oX 0) (0,0,0,0,0,0,0,0,())) (hz (by omega)) hl hp
  refine kr (Ret.bnd (Q:=fun y=>y=(cL (oX 0) (),())) (Ret.some rfl) ?_)
  rintro _ rfl
  refine Ret.bnd (Q:=fun y=>y=_) (Ret.of_eq e2 rfl) ?_
  rintro _ rfl
  exact Ret.some ⟨a2,c2,rfl,h2⟩
 rw[am (aq f3),if_neg f3]
 by_cases f4:f=4
 ·rw[af (bc f4),if_pos f4]
  obtain⟨a1,c1,e,h⟩:=gY (x:=x) (z:=z) hm0 hm nw b z0 f z2 z3 frm (m/8%8) (op,z,0,0,0,0,0,0,0,0,0,0,0,0,0,0,0,0,0,()) hl hp
  have hin:(aE a1 c1).In t:=by rw[h];exact iM hp
  obtain⟨a2,c2,e2,h2⟩:=eW 1 (nw,x%16,decide (x≠0),b,z0,f,z2,z3,frm,m/64,m/8%8,m%8,op,z,0,0,cL (plM t x m z (aE a c)).1 (0,0,0,0,0,0,0,0,())) (by decide) (by decide) hl hin
  rw[e,aa]
  refine kr (Ret.bnd (Q:=fun y=>y=_) (Ret.of_eq e2 rfl) ?_)
  rintro _ rfl
  rw[←h]
  exact Ret.some ⟨a2,c2,rfl,h2⟩
 rw[am (aq f4),if_neg f4]
 by_cases f5:f=5
 ·rw[af (bc f5),if_pos f5]
  obtain⟨a1,c1,e,h⟩:=gY (x:=x) (z:=z) hm0 hm nw b z0 f z2 z3 frm (m/8%8) (op,z,0,0,0,0,0,0,0,0,0,0,0,0,0,0,0,0,0,()) hl hp
  have hin:(aE a1 c1).In t:=by rw[h];exact iM hp
  obtain⟨a2,c2,e2,h2⟩:=we (nw:=nw) (rx:=x%16) (hr:=decide (x≠0)) (q6:=b) (q7:=z0) (q8:=f) (q9:=z2) (q10:=z3) (q11:=frm) (q12:=m/64) (q13:=m/8%8) (q14:=m%8) (q15:=op) (0,0,cL (plM t x m z (aE a c)).1 (0,0,0,0,0,0,0,0,())) (hz (by omega)) hl hin
  rw[e,aa]
  refine kr (Ret.bnd (Q:=fun y=>y=_) (Ret.of_eq e2 rfl) ?_)
  rintro _ rfl
  rw[←h]
  exact Ret.some ⟨a2,c2,rfl,h2⟩
 rw[am (aq f5),if_neg f5]
 by_cases f6:f=6
 ·rw[af (bc f6),if_pos f6]
  obtain⟨a1,c1,e,h⟩:=done_eq (x:=x) (z:=z) hm0 hm nw b z0 f z2 z3 frm (m/8%8) op (hz (by omega)) hl hp
  rw[e,aa]
  exact⟨a1,c1,rfl,h⟩
 rw[am (aq f6),if_neg f6]
 by_cases f7:f=7
 ·rw[af (bc f7),if_pos f7,AE,aa,bI7 b hb0 hb]
  dsimp only
  rw[bu (by omega) (by omega)]
  by_cases ho:op=29
  ·rw[if_pos ho,bc ho]
   exact⟨a,c,rfl,rfl⟩
  ·rw[if_neg ho,aq ho]
   exact⟨a,c,rfl,rfl⟩
 rw[am (aq f7),if_neg f7]
 by_cases f8:f=8
 ·rw[af (bc f8),if_pos f8,AE,aa,bI7 b hb0 hb]
  dsimp only
  rw[bu (by omega) (by omega),wg (by omega) (by omega) (by omega),aa]
  obtain⟨s1,s8⟩:=sz18 (hz (by omega))
  obtain⟨a2,c2,e2,h2⟩:=eW z (nw,x%16,decide (x≠0),b,z0,f,z2,z3,frm,m/64,m/8%8,m%8,op,z,0,0,cL (oX (jK x (b%8+iI x 0) z)) (0,0,0,0,0,0,0,0,())) s1 s8 hl hp
  refine kr (Ret.bnd (Q:=fun y=>y=_) (Ret.of_eq e2 rfl) ?_)
  rintro _ rfl
  exact Ret.some ⟨a2,c2,rfl,h2⟩
 rw[am (aq f8),if_neg f8]
 by_cases f9:f=9
 ·rw[af (bc f9),if_pos f9]
  obtain⟨a2,c2,e2,h2⟩:=eW 1 (nw,x%16,decide (x≠0),b,z0,f,z2,z3,frm,m/64,m/8%8,m%8,op,z,0,0,0,0,0,0,0,0,0,0,0,0,0,0,0,0,0,()) (by decide) (by decide) hl hp
  rw[e2,aa]
  exact⟨a2,c2,rfl,h2⟩
 rw[am (aq f9),if_neg f9]
 by_cases f15:f=15
 ·rw[af (bc f15),if_pos f15]
  obtain⟨a2,c2,e2,h2⟩:=jb 1 (nw,x%16,decide (x≠0),b,z0,f,z2,z3,frm,m/64,m/8%8,m%8,op,z,0,0,0,0,0,0,0,0,0,0,0,0,0,0,0,0,0,()) (by decide) (by decide) hl hp
  rw[e2,aa]
  dsimp only
  by_cases ho:op=44
  ·rw[if_pos ho,bc ho,ce,aj,aa,ag]
   exact⟨a2,c2,rfl,h2⟩
  ·rw[if_neg ho,aq ho,cP,aH,lL _ _ (by decide) (by decide),aa,aa,ag]
   exact⟨a2,c2,rfl,h2⟩
 rw[am (aq f15),if_neg f15]
 simp only[sw2,aa,ag]
 by_cases f10:f=10∨f=16
 ·rw[af (by simpa[eqI]using f10),if_pos f10]
  obtain⟨a2,c2,e2,h2⟩:=eW 4 (nw,x%16,decide (x≠0),b,z0,f,z2,z3,frm,m/64,m/8%8,m%8,op,z,0,0,0,0,0,0,0,0,0,0,0,0,0,0,0,0,0,()) (by decide) (by decide) hl hp
  rw[e2,aa]
  exact⟨a2,c2,rfl,h2⟩
 rw[am (by simpa[eqI]using f10),if_neg f10]
 by_cases f11:f=11
 ·rw[af (bc f11),if_pos f11]
  obtain⟨a1,c1,e,h⟩:=gY (x:=x) (z:=z) hm0 hm nw b z0 f z2 z3 frm (m/8%8) (op,z,0,0,0,0,0,0,0,0,0,0,0,0,0,0,0,0,0,()) hl hp
  have hin:(aE a1 c1).In t:=by rw[h];exact iM hp
  obtain⟨a2,c2,e2,h2⟩:=jb 1 (nw,x%16,decide (x≠0),b,z0,f,z2,z3,frm,m/64,m/8%8,m%8,op,z,0,0,cL (plM t x m z (aE a c)).1 (0,0,0,0,0,0,0,0,())) (by decide) (by decide) hl hin
  rw[e,aa]
  refine kr (Ret.bnd (Q:=fun y=>y=_) (Ret.of_eq e2 rfl) ?_)
  rintro _ rfl
  rw[←h]
  exact Ret.some ⟨a2,c2,rfl,h2⟩
 rw[am (aq f11),if_neg f11]
 by_cases f12:f=12
 ·rw[af (bc f12),if_pos f12]
  obtain⟨a1,c1,e,h⟩:=gY (x:=x) (z:=z) hm0 hm nw b z0 f z2 z3 frm (m/8%8) (op,z,0,0,0,0,0,0,0,0,0,0,0,0,0,0,0,0,0,()) hl hp
  rw[e,aa]
  exact⟨a1,c1,rfl,h⟩
 rw[am (aq f12),if_neg f12]
 by_cases f13:f=13
 ·rw[af (bc f13),if_pos f13]
  obtain⟨a1,c1,e,h⟩:=gY (x:=x) (z:=z) hm0 hm nw b z0 f z2 z3 frm (m/8%8) (op,z,0,0,0,0,0,0,0,0,0,0,0,0,0,0,0,0,0,()) hl hp
  rw[e,aa]
  exact⟨a1,c1,rfl,h⟩
 rw[am (aq f13),if_neg f13]
 exact⟨a,c,rfl,rfl⟩
end
section
variable {t:List UInt8}{a c x:Int}{w:Bool}
theorem ug (hx:mR x):be ((0,()),((t,(a,(x,(w,(c,()))))),()))=some (iI x 0,((t,(a,(x,(w,(c,()))))),())):=xj hx 0 (by decide)
theorem ext_s1 (hx:mR x):be ((1,()),((t,(a,(x,(w,(c,()))))),()))=some (iI x 1,((t,(a,(x,(w,(c,()))))),())):=xj hx 1 (by decide)
theorem ext_s2 (hx:mR x):be ((2,()),((t,(a,(x,(w,(c,()))))),()))=some (iI x 2,((t,(a,(x,(w,(c,()))))),())):=xj hx 2 (by decide)
theorem mV {z:Int}(hz:eJ z)(hl:(t.length:Int)≤1099511627776)(hp:(aE a c).In t):
  ∃a' c',bB ((z,()),((t,(a,(x,(w,(c,()))))),()))=some (cL (uv (rdS t (im 4 z) (aE a c))) (),((t,(a',(x,(w,(c',()))))),()))∧aE a' c'=adv t (im 4 z) (aE a c):=by
 have e4:im z 4=im 4 z:=by unfold eJ at hz;rcases hz with rfl|rfl|rfl|rfl<;>decide
 obtain⟨a',c',e,h⟩:=fJ (x:=x) (w:=w) (im 4 z) (mI hz).1 (mI hz).2 hl hp
 unfold bB
 dsimp only
 rw[e4,e,aa]
 exact⟨a',c',rfl,h⟩
theorem zQ {b:Int}(h0:0≤b)(h1:b<256):ah .u64 (b/64)=b/64:=co (by omega) (by omega)
theorem zU {md rm:Int}(hx:mR x)(hrm:0≤rm∧rm≤7)(hl:(t.length:Int)≤1099511627776)(hp:(aE a c).In t):
  ∃a' c',dx ((md,(rm,())),((t,(a,(x,(w,(c,()))))),()))=some (cL (Ag t x md rm (aE a c)).1 (),((t,(a',(x,(w,(c',()))))),()))∧aE a' c'=(Ag t x md rm (aE a c)).2:=by
 obtain⟨e0,e8,ez⟩:=jP (x:=x) (k:=0) (by decide)
 obtain⟨f0,f8,_⟩:=jP (x:=x) (k:=1) (by decide)
 unfold dx Ag
 rw[ug hx,aa]
 dsimp only[d6]
 by_cases h4:rm=4
 ·rw[af (bc h4),if_pos h4]
  obtain⟨a1,c1,hn,hq⟩:=jX (x:=x) (w:=w) hl hp
  have hin:(aE a1 c1).In t:=by rw[hq];exact hp.adv (by decide)
  rw[hn,aa]
  dsimp only
  rw[ug hx,aa,ext_s1 hx,aa]
  dsimp only
  rw[←hq]
  have hb:=dp t (aE a c) hp
  generalize rdU t 1 (aE a c)=b at hb⊢
  rw[dL hb.1,gw hb.1 (by decide) (by omega),gw hb.1 (by decide) (by omega),dL (by omega),bu (by omega) (by omega),bu (by omega) (by omega),zQ hb.1 hb.2,vD hb.1 hb.2]
  have hle:leI 0 (b/64)=true:=eY (by omega)
  refine kr (Ret.bnd (Q:=fun y=>∃a2 c2,y=Sum.inl ((md,()),(t,a2,x,w,c2,()),(0,0,0,0,0,0,0,()),
    (2,0,(if md=0∧b%8=5 then -1 else b%8+iI x 0),(if b/8%8+iI x 1=4 then -1 else b/8%8+iI x 1),(if b/8%8+iI x 1=4 then 1 else 2^(b/64).toNat),(if md=0∧b%8=5 then rdS t 4 (aE a1 c1)else 0),0,()),())∧
    aE a2 c2=if md=0∧b%8=5 then adv t 4 (aE a1 c1)else aE a1 c1) ?_ ?_)
  ·refine Ret.bnd (Q:=fun y=>y=Sum.inl ((md,b,()),(t,a1,x,w,c1,()),(0,0,0,0,0,0,0,()),
    (2,0,b%8+iI x 0,(if b/8%8+iI x 1=4 then -1 else b/8%8+iI x 1),(if b/8%8+iI x 1=4 then 1 else 2^(b/64).toNat),0,0,()),())) ?_ ?_
   ·by_cases hA:b/8%8+iI x 1=4<;>simp[hle,hA,eqI,aX,br,Ret]
   ·rintro _ rfl
    rw[ag]
    dsimp only
    rw[dL hb.1]
    by_cases hC:b%8=5
    ·rw[af (bc hC),aa]
     by_cases hB:md=0
     ·rw[af (bc hB)]
      simp only[if_pos (show md=0∧b%8=5 from⟨hB,hC⟩)]
      obtain⟨a2,c2,hn2,hq2⟩:=fJ (x:=x) (w:=w) 4 (by decide) (by decide) hl hin
      rw[hn2,aa,aa,ag]
      exact Ret.some ⟨a2,c2,rfl,hq2⟩
     ·rw[am (aq hB),aa,ag]
      simp only[if_neg (show ¬(md=0∧b%8=5)from fun g=>hB g.1)]
      exact Ret.some ⟨a1,c1,rfl,rfl⟩
    ·rw[am (aq hC),aa,aj,aa,ag]
     simp only[if_neg (show ¬(md=0∧b%8=5)from fun g=>hC g.2)]
     exact Ret.some ⟨a1,c1,rfl,rfl⟩
  ·rintro _ ⟨a2,c2,rfl,h2⟩
   rw[ag]
   dsimp only
   by_cases hBC:md=0∧b%8=5
   ·have hd:kb md rm b=4:=by unfold kb;rw[if_neg (by omega),if_neg (by omega),if_pos (by omega)]
    rw[if_pos hBC]at h2
    rw[if_pos hBC,if_pos hBC,aq (show md≠1 by omega),aj,aa,ag]
    dsimp only
    rw[aq (show md≠2 by omega),aj,hd]
    exact Ret.some ⟨a2,c2,rfl,h2⟩
   ·rw[if_neg hBC]at h2
    rw[if_neg hBC,if_neg hBC]
    have hin2:(aE a2 c2).In t:=by rw[h2];exact hin
    by_cases m1:md=1
    ·have hd:kb md rm b=1:=by unfold kb;rw[if_neg (by omega),if_pos m1]
     obtain⟨a3,c3,hn3,hq3⟩:=fJ (x:=x) (w:=w) 1 (by decide) (by decide) hl hin2
     rw[bc m1,aH,hn3,aa,aa,ag]
     dsimp only
     rw[aq (show md≠2 by omega),aj,hd,←h2]
     exact Ret.some ⟨a3,c3,rfl,hq3⟩
    ·rw[aq m1,aj,aa,ag]
     dsimp only
     by_cases m2:md=2
     ·have hd:kb md rm b=4:=by unfold kb;rw[if_pos m2]
      obtain⟨a3,c3,hn3,hq3⟩:=fJ (x:=x) (w:=w) 4 (by decide) (by decide) hl hin2
      rw[bc m2,aH,hn3,aa,hd,←h2]
      exact Ret.some ⟨a3,c3,rfl,hq3⟩
     ·have hd:kb md rm b=0:=by unfold kb;rw[if_neg m2,if_neg m1,if_neg (by omega)]
      rw[aq m2,aj,hd]
      exact Ret.some ⟨a2,c2,rfl,h2⟩
 ·rw[am (aq h4),if_neg h4]
  refine kr (Ret.bnd (Q:=fun y=>∃a2 c2,y=Sum.inl ((md,()),(t,a2,x,w,c2,()),(0,0,0,0,0,0,0,()),
    (2,0,(if rm=5∧md=0 then 16 else rm+iI x 0),-1,1,(if rm=5∧md=0 then rdS t 4 (aE a c)else 0),0,()),())∧
    aE a2 c2=if rm=5∧md=0 then adv t 4 (aE a c)else aE a c) ?_ ?_)
  ·by_cases hR:rm=5∧md=0
   ·rw[af (bc hR.1),aa,bc hR.2,aH,if_pos hR,if_pos hR,if_pos hR]
    obtain⟨a2,c2,hn2,hq2⟩:=fJ (x:=x) (w:=w) 4 (by decide) (by decide) hl hp
    rw[hn2,aa,aa,ag]
    exact Ret.some ⟨a2,c2,rfl,hq2⟩
   ·rw[if_neg hR,if_neg hR,if_neg hR]
    refine Ret.bnd (Q:=fun y=>y=false) ?_ ?_
    ·by_cases h5:rm=5
     ·rw[af (bc h5)]
      exact Ret.some (aq (fun g=>hR ⟨h5,g⟩))
     ·rw[am (aq h5)]
      exact Ret.some rfl
    ·rintro _ rfl
     rw[aj,aa,ag,bu (by omega) (by omega)]
     exact Ret.some ⟨a,c,rfl,rfl⟩
  ·rintro _ ⟨a2,c2,rfl,h2⟩
   rw[ag]
   dsimp only
   by_cases hR:rm=5∧md=0
   ·rw[if_pos hR]at h2
    rw[if_pos hR,if_pos hR,if_pos hR,aq (show md≠1 by omega),aj,aa,ag]
    dsimp only
    rw[aq (show md≠2 by omega),aj]
    exact Ret.some ⟨a2,c2,rfl,h2⟩
   ·rw[if_neg hR]at h2
    rw[if_neg hR,if_neg hR,if_neg hR]
    have hin2:(aE a2 c2).In t:=by rw[h2];exact hp
    by_cases m1:md=1
    ·have hd:kb md rm 0=1:=by unfold kb;rw[if_neg (by omega),if_pos m1]
     obtain⟨a3,c3,hn3,hq3⟩:=fJ (x:=x) (w:=w) 1 (by decide) (by decide) hl hin2
     rw[bc m1,aH,hn3,aa,aa,ag]
     dsimp only
     rw[aq (show md≠2 by omega),aj,hd,←h2]
     exact Ret.some ⟨a3,c3,rfl,hq3⟩
    ·rw[aq m1,aj,aa,ag]
     dsimp only
     by_cases m2:md=2
     ·have hd:kb md rm 0=4:=by unfold kb;rw[if_pos m2]
      obtain⟨a3,c3,hn3,hq3⟩:=fJ (x:=x) (w:=w) 4 (by decide) (by decide) hl hin2
      rw[bc m2,aH,hn3,aa,hd,←h2]
      exact Ret.some ⟨a3,c3,rfl,hq3⟩
     ·have hd:kb md rm 0=0:=by unfold kb;rw[if_neg m2,if_neg m1,if_neg (by omega)]
      rw[aq m2,aj,hd]
      exact Ret.some ⟨a2,c2,rfl,h2⟩
end
section
variable {t:List UInt8}{a c x:Int}{w:Bool}
theorem sOne_eq (y:Ins)(o:Opd)(h1:y.dst=noD)(h2:y.src=noD):gQ ((y,cL o (),()),())=some (if zW y.op=true then⟨y.op,y.size,y.cond,y.frm,noD,o,y.len⟩else⟨y.op,y.size,y.cond,y.frm,o,noD,y.len⟩,()):=by
 unfold gQ
 dsimp only
 simp only[sw1,aa,ag,CK]
 cases hs:zW y.op with
 |true=>
  rw[aH,aa,oQ,if_pos rfl]
  obtain⟨_,_,_,_,d,e,_⟩:=y
  dsimp only at h1 h2
  subst h1 h2;rfl
 |false=>
  rw[aj,aa,ag,if_neg (by decide)]
  obtain⟨_,_,_,_,d,e,_⟩:=y
  dsimp only at h1 h2
  subst h1 h2;rfl
theorem CH {m z f frm op cd:Int}(hx:mR x)(hm0:0≤m)(hm:m<256)(b:Int)(z0 z2:Int)(z3:Bool)(hf:nj f=true)(hz:(f=5∨f=6)→eJ z)(hl:(t.length:Int)≤1099511627776)(hp:(aE a c).In t):
  ∃a' c',dF ((⟨op,z,cd,frm,noD,noD,0⟩,(z0,f,z2,z3,frm,()),m,()),(t,a,x,w,c,()),())=
   some (⟨op,z,cd,frm,(ny t f frm op z x b m (aE a c)).1,(ny t f frm op z x b m (aE a c)).2.1,0⟩,(t,a',x,w,c',()),())∧aE a' c'=(ny t f frm op z x b m (aE a c)).2.2:=by
 obtain⟨e0,e8,ez⟩:=jP (x:=x) (k:=0) (by decide)
 obtain⟨g0,g8,gz⟩:=jP (x:=x) (k:=2) (by decide)
 unfold dF
 dsimp only
 obtain⟨Z,hZ⟩:∃Z,Z=if f=17 then frm else z:=⟨_,rfl⟩
 have hm8:jJ .i64 m 8=m/8:=gw hm0 (by decide) (by omega)
 have hm64:jJ .i64 m 64=m/64:=gw hm0 (by decide) (by omega)
 have hr8:fc m 8=m%8:=dL hm0
 have hr88:fc (m/8) 8=m/8%8:=dL (by omega)
 refine kr (Ret.bnd (Q:=fun y=>y=Sum.inl ((m,Z,()),(t,a,x,w,c,()),dA ⟨op,z,cd,frm,noD,noD,0⟩ (),(z0,f,z2,z3,frm,()),(0,0,0,0,0,0,0,0,0,0,0,0,0,0,0,0,0,0,0,()),())) ?_ ?_)
 ·by_cases h17:f=17
  ·rw[af (bc h17)];exact Ret.some (by rw[hZ,if_pos h17])
  ·rw[am (aq h17)];exact Ret.some (by rw[hZ,if_neg h17])
 ·rintro _ rfl
  rw[ag]
  dsimp only
  rw[ext_s2 hx,aa,hm8,hm64,hr8,hr88]
  dsimp only
  rw[bu (by omega) (by omega),xo (by omega) (by omega),aa]
  refine Ret.bnd (Q:=fun y=>∃a1 c1,y=Sum.inl ((),(t,a1,x,w,c1,()),dA ⟨op,z,cd,frm,noD,noD,0⟩ (),(z0,f,z2,z3,frm,()),(0,0,0,0,0,0,0,0,0,0,0,0,0,0,0,0,0,0,0,()),
   cL (oX (jK x (m/8%8+iI x 2) z)) (),cL (plM t x m Z (aE a c)).1 (),())∧aE a1 c1=(plM t x m Z (aE a c)).2) ?_ ?_
  ·unfold plM
   by_cases h3:m/64=3
   ·rw[af (bc h3),if_pos h3,ug hx,aa]
    dsimp only
    rw[bu (by omega) (by omega),xo (by omega) (by omega),aa]
    exact Ret.some ⟨a,c,rfl,rfl⟩
   ·rw[am (aq h3),if_neg h3]
    obtain⟨a1,c1,e,h⟩:=zU (w:=w) (md:=m/64) (rm:=m%8) hx (by omega) hl hp
    rw[e,aa]
    exact Ret.some ⟨a1,c1,rfl,h⟩
  ·rintro _ ⟨a1,c1,rfl,h⟩
   have hin:(aE a1 c1).In t:=by rw[h];exact iM hp
   rw[ag]
   dsimp only[p5,p6,d5]
   unfold ny
   by_cases f1:f=1
   ·rw[af (bc f1),if_pos f1]
    rw[if_neg (by omega)]at hZ
    subst hZ
    exact Ret.some ⟨a1,c1,rfl,h⟩
   rw[am (aq f1),if_neg f1]
   simp only[sw2,aa,ag]
   by_cases f2:f=2
   ·rw[if_pos f2,af (by simp[eqI,f2])]
    rw[if_neg (by omega)]at hZ
    subst hZ
    exact Ret.some ⟨a1,c1,rfl,h⟩
   rw[if_neg f2]
   by_cases f17:f=17
   ·rw[if_pos f17,af (by simp[eqI,f17])]
    rw[if_pos f17]at hZ
    subst hZ
    exact Ret.some ⟨a1,c1,rfl,h⟩
   rw[if_neg f17,am (by simp[eqI,f17,f2])]
   rw[if_neg f17]at hZ
   subst hZ
   rw[if_neg (show ¬f=3 by rintro rfl;revert hf;decide)]
   by_cases f4:f=4
   ·rw[if_pos f4,af (bc f4)]
    obtain⟨a2,c2,e2,h2⟩:=mV (x:=x) (w:=w) (z:=1) (.inl rfl) hl hin
    rw[e2,aa,←h]
    exact Ret.some ⟨a2,c2,rfl,h2⟩
   rw[if_neg f4,am (aq f4)]
   by_cases f5:f=5
   ·rw[if_pos f5,af (bc f5)]
    obtain⟨a2,c2,e2,h2⟩:=mV (x:=x) (w:=w) (z:=Z) (hz (.inl f5)) hl hin
    refine Ret.bnd (Q:=fun y=>y=_) (Ret.of_eq e2 rfl) ?_
    rintro _ rfl
    rw[←h]
    exact Ret.some ⟨a2,c2,rfl,h2⟩
   rw[if_neg f5,am (aq f5)]
   by_cases f11:f=11
   ·rw[af (bc f11),if_neg (by omega),if_neg (by omega),if_neg (by omega),if_neg (by omega),if_neg (by omega),if_neg (by omega),if_pos f11]
    obtain⟨a2,c2,e2,h2⟩:=jX (x:=x) (w:=w) hl hin
    rw[e2,aa,←h]
    exact Ret.some ⟨a2,c2,rfl,h2⟩
   rw[am (aq f11)]
   by_cases f12:f=12
   ·rw[af (bc f12),if_neg (by omega),if_neg (by omega),if_neg (by omega),if_neg (by omega),if_neg (by omega),if_neg (by omega),if_neg (by omega),if_pos f12]
    exact Ret.some ⟨a1,c1,rfl,h⟩
   rw[am (aq f12)]
   by_cases f13:f=13
   ·rw[af (bc f13),if_neg (by omega),if_neg (by omega),if_neg (by omega),if_neg (by omega),if_neg (by omega),if_neg (by omega),if_neg (by omega),if_neg (by omega),if_pos f13]
    exact Ret.some ⟨a1,c1,rfl,h⟩
   rw[am (aq f13)]
   have f6:f=6:=by
    unfold nj at hf
    have:=of_decide_eq_true hf
    omega
   rw[if_pos f6]
   refine Ret.bnd (Q:=fun y=>y=_) (Ret.of_eq (sOne_eq ⟨op,Z,cd,frm,noD,noD,0⟩ _ rfl rfl) rfl) ?_
   rintro _ rfl
   unfold mm
   dsimp only
   cases hs:zW op with
   |true=>
    rw[if_pos rfl,if_pos rfl]
    dsimp only
    rw[aq (show op≠10 by rintro rfl;revert hs;decide),aj]
    exact Ret.some ⟨a1,c1,rfl,h⟩
   |false=>
    rw[if_neg (by decide),if_neg (by decide)]
    dsimp only
    by_cases h10:op=10
    ·rw[if_pos h10,bc h10,aH]
     obtain⟨a2,c2,e2,h2⟩:=mV (x:=x) (w:=w) (z:=Z) (hz (.inr f6)) hl hin
     rw[e2,aa,←h]
     exact Ret.some ⟨a2,c2,rfl,h2⟩
    ·rw[if_neg h10,aq h10,aj]
     exact Ret.some ⟨a1,c1,rfl,h⟩
theorem CI {m z f frm op cd:Int}(hx:mR x){b:Int}(hb0:0≤b)(z0 z2:Int)(z3:Bool)(hf:nj f=false)(hz:(f=3∨f=8)→eJ z)(hl:(t.length:Int)≤1099511627776)(hp:(aE a c).In t):
  ∃a' c',dG ((⟨op,z,cd,frm,noD,noD,0⟩,(z0,f,z2,z3,frm,()),b,()),(t,a,x,w,c,()),())=
   some (⟨op,z,cd,frm,(ny t f frm op z x b m (aE a c)).1,(ny t f frm op z x b m (aE a c)).2.1,0⟩,(t,a',x,w,c',()),())∧aE a' c'=(ny t f frm op z x b m (aE a c)).2.2:=by
 obtain⟨e0,e8,ez⟩:=jP (x:=x) (k:=0) (by decide)
 have hM:¬(f=1∨f=2∨f=4∨f=5∨f=6∨f=11∨f=12∨f=13∨f=17):=by unfold nj at hf;exact of_decide_eq_false hf
 have hr8:fc b 8=b%8:=dL hb0
 unfold dG ny
 dsimp only
 rw[if_neg (show ¬f=1 by omega),if_neg (show ¬f=2 by omega),if_neg (show ¬f=17 by omega)]
 by_cases f3:f=3
 ·rw[if_pos f3,af (bc f3)]
  obtain⟨a2,c2,e2,h2⟩:=mV (x:=x) (w:=w) (z:=z) (hz (.inl f3)) hl hp
  rw[e2,aa]
  exact⟨a2,c2,rfl,h2⟩
 rw[if_neg f3,am (aq f3),if_neg (show ¬f=4 by omega),if_neg (show ¬f=5 by omega),if_neg (show ¬f=6 by omega)]
 by_cases f7:f=7
 ·rw[if_pos f7,af (bc f7),ug hx,aa,hr8]
  dsimp only
  rw[bu (by omega) (by omega)]
  by_cases ho:op=29
  ·rw[if_pos ho,bc ho];exact⟨a,c,rfl,rfl⟩
  ·rw[if_neg ho,aq ho];exact⟨a,c,rfl,rfl⟩
 rw[if_neg f7,am (aq f7)]
 by_cases f8:f=8
 ·rw[if_pos f8,af (bc f8),ug hx,aa,hr8]
  dsimp only
  rw[bu (by omega) (by omega),xo (by omega) (by omega),aa]
  obtain⟨s1,s8⟩:=sz18 (hz (.inr f8))
  obtain⟨a2,c2,e2,h2⟩:=fJ (x:=x) (w:=w) z s1 s8 hl hp
  rw[e2,aa]
  exact⟨a2,c2,rfl,h2⟩
 rw[if_neg f8,am (aq f8)]
 by_cases f9:f=9
 ·rw[if_pos f9,af (bc f9)]
  obtain⟨a2,c2,e2,h2⟩:=mV (x:=x) (w:=w) (z:=1) (.inl rfl) hl hp
  rw[e2,aa]
  exact⟨a2,c2,rfl,h2⟩
 rw[if_neg f9,am (aq f9)]
 simp only[sw2,aa,ag]
 by_cases f10:f=10∨f=16
 ·rw[if_neg (show ¬f=15 by omega),if_pos f10,af (by simpa[eqI]using f10)]
  obtain⟨a2,c2,e2,h2⟩:=mV (x:=x) (w:=w) (z:=4) (.inr (.inr (.inl rfl))) hl hp
  rw[e2,aa]
  exact⟨a2,c2,rfl,h2⟩
 rw[am (by simpa[eqI]using f10)]
 by_cases f15:f=15
 ·rw[if_pos f15,af (bc f15)]
  obtain⟨a2,c2,e2,h2⟩:=mV (x:=x) (w:=w) (z:=1) (.inl rfl) hl hp
  rw[e2,aa]
  refine kr ?_
  by_cases ho:op=44
  ·subst ho
   rw[if_pos rfl]
   have hr:=dp t (aE a c) hp
   have hzz:=bn (gy 7 (by decide) (rdU t 1 (aE a c))) 1 rfl
   rw[CW hr.1 hr.2,show((1:Nat):Int)=1 from rfl]at hzz
   refine Ret.mono (Ret.of_eq (x:=(⟨44,z,cd,frm,noD,uv (rdU t 1 (aE a c)),0⟩,(t,a2,x,w,c2,()),())) ?_ rfl) (fun y hy=>⟨a2,c2,hy.symm,h2⟩)
   show bnd (ak ((sx 7 (rdU t 1 (aE a c)),1,()),())) _=_
   rw[hzz,aa]
   rfl
  ·rw[if_neg ho]
   refine Ret.mono (Ret.of_eq (x:=(⟨op,z,cd,frm,noD,uv (rdS t 1 (aE a c)),0⟩,(t,a2,x,w,c2,()),())) ?_ rfl) (fun y hy=>⟨a2,c2,hy.symm,h2⟩)
   show br (eqI op 44) _ _=_
   rw[aq ho]
   rfl
 rw[if_neg f15,am (aq f15),if_neg f10,if_neg (show ¬f=11 by omega),if_neg (show ¬f=12 by omega),if_neg (show ¬f=13 by omega)]
 exact⟨a,c,rfl,rfl⟩
end
def pkB (t:List UInt8)(p:Pos):Int:=match p with
 | .ok a=>if a<t.length then dT t a else -1
 | .error _=> -1
def wdM (t:List UInt8)(p:Pos):Bool:=decide (pkB t p=102)
def p1M (t:List UInt8)(p:Pos):Pos:=if wdM t p=true then adv t 1 p else p
def p2M (t:List UInt8)(p:Pos):Pos:=exb (p1M t p) fun a=>if pkB t (p1M t p)∈pm then .error 10 else .ok a
def hxM (t:List UInt8)(p:Pos):Bool:=decide (64≤pkB t (p2M t p)∧pkB t (p2M t p)≤79)
def xM (t:List UInt8)(p:Pos):Int:=if hxM t p=true then pkB t (p2M t p)else 0
def p3M (t:List UInt8)(p:Pos):Pos:=if hxM t p=true then adv t 1 (p2M t p)else p2M t p
def tP (t:List UInt8)(p:Pos):Bool:=decide (rdU t 1 (p3M t p)=15)
def p5M (t:List UInt8)(p:Pos):Pos:=if tP t p=true then adv t 1 (adv t 1 (p3M t p))else adv t 1 (p3M t p)
def bM (t:List UInt8)(p:Pos):Int:=if tP t p=true then rdU t 1 (adv t 1 (p3M t p))else rdU t 1 (p3M t p)
def zM (t:List UInt8)(p:Pos):Shz:=shz (tP t p) (bM t p).toNat
def p6M (t:List UInt8)(p:Pos):Pos:=exb (p5M t p) fun a=>if(zM t p).2.1=0 then .error 11 else .ok a
theorem Fd (t:List UInt8)(p:Pos):mR (xM t p):=by
 unfold xM mR
 split
 ·rename_i h
  unfold hxM at h
  exact .inr (of_decide_eq_true h)
 ·exact .inl rfl
theorem yb {t:List UInt8}{p:Pos}{q:Int→Prop}[DecidablePred q]{k:Int}(h:p.In t):Pos.In (exb p fun a=>if q a then .error k else .ok a) t:=by
 intro a ha
 cases p with
 |error c=>cases ha
 |ok b=>
  unfold exb at ha
  dsimp only at ha
  split at ha
  ·cases ha
  ·exact h a (by cases ha;rfl)
theorem yE {t:List UInt8}{p:Pos}(h:p.In t):(p1M t p).In t:=by unfold p1M;split;exact h.adv (by decide);exact h
theorem oP {t:List UInt8}{p:Pos}(h:p.In t):(p2M t p).In t:=yb (q:=fun _=>pkB t (p1M t p)∈pm) (yE h)
theorem yF {t:List UInt8}{p:Pos}(h:p.In t):(p3M t p).In t:=by unfold p3M;split;exact(oP h).adv (by decide);exact oP h
theorem uY {t:List UInt8}{p:Pos}(h:p.In t):(adv t 1 (p3M t p)).In t:=(yF h).adv (by decide)
theorem p5M_in {t:List UInt8}{p:Pos}(h:p.In t):(p5M t p).In t:=by unfold p5M;split;exact(uY h).adv (by decide);exact uY h
theorem uZ {t:List UInt8}{p:Pos}(h:p.In t):(p6M t p).In t:=yb (q:=fun _=>(zM t p).2.1=0) (p5M_in h)
theorem jN {t:List UInt8}{p:Pos}(h:p.In t):0≤bM t p∧bM t p<256:=by
 unfold bM;split
 ·exact dp t _ (uY h)
 ·exact dp t _ (yF h)
theorem yH {t:List UInt8}{p:Pos}(hp:p.In t)(h:0≤pkB t p):rdU t 1 p=pkB t p∧∃a,p= .ok a∧a+1≤t.length∧adv t 1 p= .ok (a+1):=by
 cases p with
 |error _=>unfold pkB at h;dsimp only at h;omega
 |ok a=>
  obtain⟨h0,h1⟩:=hp a rfl
  unfold pkB at h⊢
  unfold rdU adv exb
  dsimp only at h⊢
  by_cases hl:a<t.length
  ·rw[if_pos hl,if_pos (by omega),if_pos (by omega),BQ h0 hl]
   exact⟨rfl,a,rfl,by omega,rfl⟩
  ·rw[if_neg hl]at h;omega
section
variable {t:List UInt8}{a c:Int}
theorem sy {lo hi:Int}(r:_)(h0:0≤lo)(hp:(aE a c).In t):bR ((lo,hi,()),(t,a,c,r),())=some (decide (lo≤pkB t (aE a c)∧pkB t (aE a c)≤hi),(t,a,c,r),()):=by
 unfold bR
 dsimp only
 by_cases hc:c=0
 ·subst hc
  obtain⟨p0,p1⟩:=hp a cZ
  rw[cZ,af (bc rfl)]
  by_cases hl:a<t.length
  ·have hpk:pkB t (.ok a)=dT t a:=if_pos hl
   rw[af (ii (by rw[bz];exact hl)),af (cH p0 (by rw[bz];exact hl)),hpk,vP (by have:=jO t a;omega) (by have:=jO t a;omega),cN,aa]
  ·have hpk:pkB t (.ok a)= -1:=if_neg hl
   rw[am (gF (by rw[bz];exact hl)),hpk,decide_eq_false (by omega)]
 ·have hpk:pkB t (.error c)= -1:=rfl
  rw[am (aq hc),cF hc,hpk,decide_eq_false (by omega)]
theorem t8 (r:_)(hp:(aE a c).In t):cu ((),(t,a,c,r),())=some (decide (pkB t (aE a c)∈pm),(t,a,c,r),()):=by
 unfold cu
 dsimp only
 refine(eI (fun y=>∃i:Nat,i≤11∧y=((11,(i:Int),()),(t,a,c,r),pm,())) (fun y=>11-y.1.2.1.toNat) (fun y=>some (decide (pkB t (aE a c)∈pm.drop y.1.2.1.toNat),(t,a,c,r),())) ?_ F _ ⟨0,by omega,rfl⟩ (by unfold F;dsimp only;omega)).trans rfl
 rintro _ rec ⟨i,hi,rfl⟩ hrec
 dsimp only
 by_cases h:i<11
 ·have hL:i<pm.length:=h
  rw[af (ii (by omega)),af (cH (by omega) (by rw[bz];omega)),iy hL]
  have hnn:0≤pm[i]:=by
   have:∀y∈pm,(0:Int)≤y:=by decide
   exact this _ (List.getElem_mem hL)
  rw[sy r hnn hp,aa]
  dsimp only
  rw[Int.toNat_natCast,List.drop_eq_getElem_cons hL]
  by_cases e:pkB t (aE a c)=pm[i]
  ·rw[af (decide_eq_true (by omega)),decide_eq_true (by rw[e];exact List.mem_cons_self)]
  ·rw[am (decide_eq_false (by omega)),bu (by omega) (by omega),hrec ((11,(i:Int)+1,()),(t,a,c,r),pm,()) ⟨i+1,by omega,rfl⟩ (by dsimp only;omega)]
   dsimp only
   rw[show((i:Int)+1).toNat=i+1 by omega]
   have hm:∀l:List Int,(pkB t (aE a c)∈pm[i]::l)=(pkB t (aE a c)∈l):=fun l=>by rw[List.mem_cons,eq_false e,false_or]
   simp only[hm]
 ·have:i=11:=by omega
  subst this
  rw[am (gF (by omega))]
  simp[pm]
theorem ue (r:_)(hl:(t.length:Int)≤1099511627776)(hp:(aE a c).In t):
  ∃a' c',cy ((),(t,a,c,false,0,false,r),())=some ((),(t,a',c',wdM t (aE a c),xM t (aE a c)%16,decide (xM t (aE a c)≠0),r),())∧aE a' c'=p3M t (aE a c):=by
 unfold cy
 dsimp only
 rw[sy _ (by decide) hp,aa]
 dsimp only
 refine kr (Ret.bnd (Q:=fun y=>∃a1 c1,y=Sum.inl ((),(t,a1,c1,wdM t (aE a c),0,false,r),())∧aE a1 c1=p1M t (aE a c)) ?_ ?_)
 ·unfold p1M wdM
  by_cases h:pkB t (aE a c)=102
  ·rw[decide_eq_true (show 102≤pkB t (aE a c)∧pkB t (aE a c)≤102 by omega),aH,decide_eq_true h,if_pos rfl]
   obtain⟨a1,c1,e,h1⟩:=jb 1 (true,0,false,r) (by decide) (by decide) hl hp
   rw[e,aa]
   exact Ret.some ⟨a1,c1,rfl,h1⟩
  ·rw[decide_eq_false (show ¬(102≤pkB t (aE a c)∧pkB t (aE a c)≤102)by omega),aj,decide_eq_false h,if_neg (by decide)]
   exact Ret.some ⟨a,c,rfl,rfl⟩
 ·rintro _ ⟨a1,c1,rfl,h1⟩
  have hin1:(aE a1 c1).In t:=by rw[h1];exact yE hp
  rw[ag]
  dsimp only[d6]
  rw[t8 _ hin1,aa]
  dsimp only
  rw[gi,aa]
  dsimp only
  have h2:aE a1 (if decide (pkB t (aE a1 c1)∈pm)=true∧c1=0 then 10 else c1)=p2M t (aE a c):=by
   rw[De (by decide)]
   unfold p2M
   rw[←h1]
   simp only[decide_eq_true_eq]
  generalize (if decide (pkB t (aE a1 c1)∈pm)=true∧c1=0 then(10:Int)else c1)=c2 at h2⊢
  have hin2:(aE a1 c2).In t:=by rw[h2];exact oP hp
  rw[sy _ (by decide) hin2,aa]
  dsimp only
  rw[h2]
  unfold p3M xM hxM
  by_cases h:64≤pkB t (p2M t (aE a c))∧pkB t (p2M t (aE a c))≤79
  ·rw[decide_eq_true h,aH,if_pos rfl,if_pos rfl]
   obtain⟨a3,c3,e,h3⟩:=jb 1 (wdM t (aE a c),0,true,r) (by decide) (by decide) hl hin2
   have hrd:=(yH hin2 (by rw[h2];omega)).1
   rw[e,aa,hrd,h2,decide_eq_true (show pkB t (p2M t (aE a c))≠0 by omega)]
   dsimp only
   rw[(bI (show 0≤pkB t (p2M t (aE a c))by omega) (by omega)).2.2.2]
   exact Ret.some ⟨a3,c3,rfl,by rw[h3,h2]⟩
  ·rw[decide_eq_false h,aj,if_neg (by decide),if_neg (by decide)]
   exact Ret.some ⟨a1,c2,rfl,h2⟩
end
def ww (z:Shz):Bool:=decide (0<z.2.2.1)
def mM (t:List UInt8)(p:Pos):Int:=if nj (zM t p).2.1=true then rdU t 1 (p6M t p)else 0
def p7M (t:List UInt8)(p:Pos):Pos:=if nj (zM t p).2.1=true then adv t 1 (p6M t p)else p6M t p
def opM (t:List UInt8)(p:Pos):Int:=if ww (zM t p)=true then grp (zM t p).2.2.1.toNat (mM t p/8%8).toNat else(zM t p).1
def p8M (t:List UInt8)(p:Pos):Pos:=exb (p7M t p) fun a=>if ww (zM t p)=true∧opM t p=0 then .error 11 else .ok a
def zsM (t:List UInt8)(p:Pos):Int:=szM (zM t p).2.2.2.1 (opM t p) (wdM t p) (xM t p)
def pb (w by':Bool)(frm op z m:Int):Int:=
 if(w=true∧(cE op=true∨dW op=true∨by'=true))∨(frm=4∧z≠8)∨((frm=1∨frm=2)∧z≤frm)then 10 else if op=25∧m/64=3 then 12 else 0
def p9M (t:List UInt8)(p:Pos):Pos:=exb (p8M t p) fun a=>if pb (wdM t p) (zM t p).2.2.2.1 (zM t p).2.2.2.2.1 (opM t p) (zsM t p) (mM t p)≠0 then .error (pb (wdM t p) (zM t p).2.2.2.1 (zM t p).2.2.2.2.1 (opM t p) (zsM t p) (mM t p))else .ok a
def oM (t:List UInt8)(p:Pos):Opd×Opd×Pos:=ny t (zM t p).2.1 (zM t p).2.2.2.2.1 (opM t p) (zsM t p) (xM t p) (bM t p) (mM t p) (p9M t p)
def cdM (t:List UInt8)(p:Pos):Int:=if opM t p=33∨opM t p=35∨opM t p=36 then bM t p%16 else 0
def mF (t:List UInt8)(at0:Int):Ins×Int:=match(oM t (.ok at0)).2.2 with
 | .ok a=>(⟨opM t (.ok at0),zsM t (.ok at0),cdM t (.ok at0),(zM t (.ok at0)).2.2.2.2.1,(oM t (.ok at0)).1,(oM t (.ok at0)).2.1,a-at0⟩,0)
 | .error c=>(ss,c)
theorem qW {t:List UInt8}{p:Pos}(h:p.In t):shP (zM t p)=true:=Fj _ (by have:=jN h;omega)
theorem kT {t:List UInt8}{p:Pos}(h:p.In t):0≤mM t p∧mM t p<256:=by
 unfold mM;split
 ·exact dp t _ (uZ h)
 ·omega
theorem uX {t:List UInt8}{p:Pos}(h:p.In t):0≤opM t p∧opM t p≤44:=by
 have hz:=of_decide_eq_true (qW h)
 have hm:=kT h
 unfold opM;split
 ·exact Be _ (by omega) _ (by omega)
 ·exact⟨hz.1,hz.2.1⟩
section
variable {t:List UInt8}{a c:Int}
theorem lJ {a c a':Int}(h:aE a c= .ok a'):a=a'∧c=0:=by
 unfold aE at h
 by_cases hc:c=0
 ·rw[if_pos hc]at h;cases h;exact⟨rfl,hc⟩
 ·rw[if_neg hc]at h;cases h
theorem lH {a c k:Int}(h:aE a c= .error k):c=k∧c≠0:=by
 unfold aE at h
 by_cases hc:c=0
 ·rw[if_pos hc]at h;cases h
 ·rw[if_neg hc]at h;cases h;exact⟨rfl,hc⟩
theorem rd_ok {p:Pos}{n:Int}(h:rdU t n p≠0):∃b,adv t n p= .ok b:=by
 unfold rdU at h
 unfold adv exb
 cases p with
 |error _=>exact absurd rfl h
 |ok b=>
  dsimp only at h⊢
  by_cases hl:b+n≤t.length
  ·rw[if_pos hl];exact⟨_,rfl⟩
  ·rw[if_neg hl]at h;exact absurd rfl h
theorem sw (q:Pos)(nw:Bool)(rx:Int)(hr:Bool)(r:_)(hl:(t.length:Int)≤1099511627776)(hq:q.In t)(hp:aE a c=p3M t q):
  Ret (cl ((),(t,a,c,nw,rx,hr,0,0,0,0,false,0,0,0,0,0,r),())) fun y=>
   aE y.2.1.2.1 y.2.1.2.2.1=p6M t q∧∀e,p6M t q= .ok e→y=((),(t,e,0,nw,rx,hr,bM t q,(zM t q).1,(zM t q).2.1,(zM t q).2.2.1,(zM t q).2.2.2.1,(zM t q).2.2.2.2.1,0,0,0,(zM t q).1,r),()):=by
 have hin:(aE a c).In t:=by rw[hp];exact yF hq
 unfold cl
 dsimp only[p5,p6,d7]
 obtain⟨a1,c1,e1,h1⟩:=jb 1 (nw,rx,hr,0,0,0,0,false,0,0,0,0,0,r) (by decide) (by decide) hl hin
 rw[e1,aa]
 dsimp only
 rw[hp]at h1⊢
 have hin1:(aE a1 c1).In t:=by rw[h1];exact uY hq
 have hx3:(br (eqI (rdU t 1 (p3M t q)) 15) (some (eqI c1 0)) (some false))=some (tP t q):=by
  unfold tP
  by_cases h:rdU t 1 (p3M t q)=15
  ·obtain⟨b,hb⟩:=rd_ok (t:=t) (p:=p3M t q) (n:=1) (by omega)
   have hc:c1=0:=(lJ (h1.trans hb)).2
   rw[af (bc h),bc hc,decide_eq_true h]
  ·rw[am (aq h),decide_eq_false h]
 rw[hx3,aa]
 refine Ret.bnd (Q:=fun y=>∃a2 c2,y=Sum.inl ((tP t q,()),(t,a2,c2,nw,rx,hr,bM t q,0,0,0,false,0,0,0,0,0,r),())∧aE a2 c2=p5M t q) ?_ ?_
 ·unfold p5M bM
  cases hs:tP t q with
  |true=>
   obtain⟨a2,c2,e2,h2⟩:=jb 1 (nw,rx,hr,rdU t 1 (p3M t q),0,0,0,false,0,0,0,0,0,r) (by decide) (by decide) hl hin1
   rw[aH,e2,aa,if_pos rfl,if_pos rfl,h1]
   exact Ret.some ⟨a2,c2,rfl,by rw[h2,h1]⟩
  |false=>
   rw[aj,if_neg (by decide),if_neg (by decide)]
   exact Ret.some ⟨a1,c1,rfl,h1⟩
 ·rintro _ ⟨a2,c2,rfl,h2⟩
  rw[ag]
  dsimp only[p6,p5,p12,p13,p14,d16]
  by_cases hc:c2=0
  ·subst hc
   have hbr:=jN hq
   have hS:=y5 (tP t q) (show(bM t q).toNat<256 by omega)
   rw[Int.toNat_of_nonneg hbr.1]at hS
   rw[show aX (eqI 0 0)=false from rfl,aj,hS,aa]
   dsimp only[shR]
   rw[gi,aa]
   have h6:p6M t q=if(zM t q).2.1=0 then .error 11 else .ok a2:=by
    unfold p6M;rw[←h2];rfl
   show Ret (some _) _
   refine Ret.some ?_
   dsimp only
   change aE a2 (if aX (eqI (if(zM t q).2.1=0 then 11 else 0) 0)=true∧(0:Int)=0 then(if(zM t q).2.1=0 then 11 else 0)else 0)=p6M t q∧_
   rw[h6]
   by_cases hz:(zM t q).2.1=0
   ·simp only[if_pos hz]
    exact⟨rfl,fun e he=>by cases he⟩
   ·simp only[if_neg hz]
    refine⟨rfl,fun e he=>?_⟩
    cases he
    have hz':¬(shz (tP t q) (bM t q).toNat).2.1=0:=hz
    simp only[if_neg hz']
    rfl
  ·rw[aq hc,cP,aH]
   refine Ret.some ?_
   dsimp only
   have h6:p6M t q= .error c2:=by unfold p6M;rw[←h2,cF hc];rfl
   rw[h6,cF hc]
   exact⟨rfl,fun e he=>by cases he⟩
end
section
variable {t:List UInt8}{a c:Int}
theorem uj {op:Int}(h:0≤op∧op≤44):eL ((op,()),())=some ((if cE op=true then(8,(true,()))else if dW op=true then(0,(true,()))else(0,(false,()))),()):=by
 obtain⟨n,rfl⟩:=Int.eq_ofNat_of_zero_le h.1
 exact zk n (by omega)
theorem wx {f:Int}(h:0≤f∧f<18):fd ((f,()),())=some (nj f,()):=by
 obtain⟨n,rfl⟩:=Int.eq_ofNat_of_zero_le h.1
 exact Bh n (by omega)
theorem AL (q:Pos)(e:Int)(nw:Bool)(rx:Int)(hr:Bool)(r:_)(hl:(t.length:Int)≤1099511627776)(hq:q.In t)(hp:p6M t q= .ok e):
  Ret (c9 ((),(t,e,0,nw,rx,hr,bM t q,(zM t q).1,(zM t q).2.1,(zM t q).2.2.1,(zM t q).2.2.2.1,(zM t q).2.2.2.2.1,0,0,0,(zM t q).1,r),())) fun y=>
   aE y.2.1.2.1 y.2.1.2.2.1=p8M t q∧∀e,p8M t q= .ok e→y=((),(t,e,0,nw,rx,hr,bM t q,(zM t q).1,(zM t q).2.1,(zM t q).2.2.1,(zM t q).2.2.2.1,(zM t q).2.2.2.2.1,mM t q/64,mM t q/8%8,mM t q%8,opM t q,r),()):=by
 have hin:(aE e 0).In t:=by rw[cZ,←hp];exact uZ hq
 have hz:=of_decide_eq_true (qW hq)
 have hm:=kT hq
 unfold c9
 dsimp only[p8,p9,d15,d16]
 rw[wx ⟨hz.2.2.1,hz.2.2.2.1⟩]
 rw[show aX (eqI 0 0)=false from rfl,aj,aa,aa]
 cases hM:nj (zM t q).2.1 with
 |false=>
  rw[cP,aH]
  have hg:ww (zM t q)=false:=decide_eq_false fun g=>by
   have:=(hz.2.2.2.2.2.2.2.2.1 g).1
   rw[hM]at this;cases this
  have e1:mM t q=0:=by unfold mM;rw[hM,if_neg (by decide)]
  have e2:opM t q=(zM t q).1:=by unfold opM;rw[hg,if_neg (by decide)]
  have e3:p8M t q= .ok e:=by unfold p8M p7M;rw[hM,hg,if_neg (by decide),hp];simp[exb]
  refine Ret.some ⟨?_,fun e' he=>?_⟩
  ·rw[e3];rfl
  ·rw[e3]at he;cases he
   rw[e1,e2]
   rfl
 |true=>
  obtain⟨a1,c1,ee,h1⟩:=jb 1 (nw,rx,hr,bM t q,(zM t q).1,(zM t q).2.1,(zM t q).2.2.1,(zM t q).2.2.2.1,(zM t q).2.2.2.2.1,0,0,0,(zM t q).1,r) (by decide) (by decide) hl hin
  have e1:mM t q=rdU t 1 (aE e 0):=by unfold mM;rw[hM,if_pos rfl,hp];rfl
  have e7:p7M t q=aE a1 c1:=by unfold p7M;rw[hM,if_pos rfl,hp,h1];rfl
  rw[ce,aj,ee,←e1,aa]
  dsimp only
  obtain⟨b6,b3,b0,_⟩:=bI hm.1 hm.2
  rw[b6,b3,b0]
  by_cases hg:0<(zM t q).2.2.1
  ·have hgB:ww (zM t q)=true:=decide_eq_true hg
   rw[af (ii hg),aa]
   have e8:p8M t q=exb (aE a1 c1) fun a=>if opM t q=0 then .error 11 else .ok a:=by
    unfold p8M;rw[e7,hgB];simp only[true_and]
   by_cases hc:c1=0
   ·subst hc
    have hgo:=yZ (g:=(zM t q).2.2.1.toNat) (d:=(mM t q/8%8).toNat) (by omega) (by omega) (by omega)
    rw[Int.toNat_of_nonneg (by omega),Int.toNat_of_nonneg (by omega)]at hgo
    have eo:grp (zM t q).2.2.1.toNat (mM t q/8%8).toNat=opM t q:=by unfold opM;rw[hgB,if_pos rfl]
    rw[eo]at hgo
    rw[bc rfl,aH,hgo,aa]
    dsimp only[gpR]
    rw[gi,aa]
    refine Ret.some ?_
    rw[cZ]at e8
    unfold exb at e8
    dsimp only at e8⊢
    rw[e8]
    by_cases ho:opM t q=0
    ·simp only[if_pos ho]
     exact⟨rfl,fun e he=>by cases he⟩
    ·simp only[if_neg ho]
     refine⟨rfl,fun e he=>?_⟩
     cases he
     rfl
   ·rw[aq hc,aj]
    refine Ret.some ?_
    rw[cF hc]at e8
    unfold exb at e8
    dsimp only at e8⊢
    rw[e8,cF hc]
    exact⟨rfl,fun e he=>by cases he⟩
  ·have hgB:ww (zM t q)=false:=decide_eq_false hg
   have e2:opM t q=(zM t q).1:=by unfold opM;rw[hgB,if_neg (by decide)]
   have e8:p8M t q=aE a1 c1:=by
    unfold p8M;rw[e7,hgB]
    cases aE a1 c1<;>simp[exb]
   rw[am (gF hg),aa,aj]
   refine Ret.some ?_
   dsimp only
   rw[e8]
   refine⟨rfl,fun e he=>?_⟩
   obtain⟨rfl,rfl⟩:=lJ he
   rw[e2]
theorem ext3 (x:Int):aX (eqI (iI x 3) 0)=decide (x/8%2=1):=by
 rw[Bool.eq_iff_iff,Ez,eq_nf,decide_eq_true_eq]
 unfold iI
 rw[show(2:Int)^3=8 from rfl]
 omega
theorem DM {x m z1 f g frm op b:Int}{nw by':Bool}{zz rg rm:Int}{e:Int}(r:_)(ho:0≤op∧op≤44)(hsz:zz=szM by' op nw x):
  ∃c',du ((),(t,e,0,nw,x%16,decide (x≠0),b,z1,f,g,by',frm,m/64,rg,rm,op,0,r),())=
   some ((),(t,e,c',nw,x%16,decide (x≠0),b,z1,f,g,by',frm,m/64,rg,rm,op,zz,r),())∧c'=pb nw by' frm op zz m:=by
 unfold du
 dsimp only[p15,p10,d17,rv]
 rw[uj ho,aa]
 have fin:∀o:Option _,Ret o (fun y=>∃c',y=((),(t,e,c',nw,x%16,decide (x≠0),b,z1,f,g,by',frm,m/64,rg,rm,op,zz,r),())∧c'=pb nw by' frm op zz m)→∃c',o=some ((),(t,e,c',nw,x%16,decide (x≠0),b,z1,f,g,by',frm,m/64,rg,rm,op,zz,r),())∧c'=pb nw by' frm op zz m:=by
  rintro o ⟨y,e,c',rfl,h⟩
  exact⟨c',e,h⟩
 refine fin _ (Ret.bnd (Q:=fun y=>y=Sum.inl ((cE op||dW op,()),(t,e,0,nw,x%16,decide (x≠0),b,z1,f,g,by',frm,m/64,rg,rm,op,zz,r),())) ?_ ?_)
 ·unfold szM at hsz
  cases h8:cE op with
  |true=>
   rw[h8,if_pos rfl]at hsz
   rw[if_pos rfl,hsz]
   exact Ret.some rfl
  |false=>
   rw[h8,if_neg (by decide)]at hsz
   rw[if_neg (by decide)]
   cases h0:dW op with
   |true=>
    rw[h0,if_pos rfl]at hsz
    rw[if_pos rfl,hsz]
    exact Ret.some rfl
   |false=>
    rw[h0,if_neg (by decide)]at hsz
    rw[if_neg (by decide)]
    dsimp only
    rw[aj]
    cases hb:by' with
    |true=>
     rw[hb,if_pos rfl]at hsz
     rw[aH,aa,ag,hsz]
     exact Ret.some rfl
    |false=>
     rw[hb,if_neg (by decide)]at hsz
     rw[aj,dbit3,aa]
     dsimp only
     rw[ext3]
     by_cases h3:x/8%2=1
     ·rw[if_pos h3]at hsz
      rw[decide_eq_true h3,aH,aa,ag,aa,ag,hsz]
      exact Ret.some rfl
     ·rw[if_neg h3]at hsz
      rw[decide_eq_false h3,aj]
      cases hw:nw with
      |true=>
       rw[hw,if_pos rfl]at hsz
       rw[aH,aa,ag,aa,ag,aa,ag,hsz]
       exact Ret.some rfl
      |false=>
       rw[hw,if_neg (by decide)]at hsz
       rw[aj,aa,ag,aa,ag,aa,ag,hsz]
       exact Ret.some rfl
 ·rintro _ rfl
  rw[ag]
  dsimp only[p10,p11,p16,p15,p12]
  have h13:(br nw (bnd (br (cE op||dW op) (some true) (some by')) fun x12=>some x12) (some false))=some (nw&&(cE op||dW op||by')):=by
   cases nw<;>cases cE op<;>cases dW op<;>cases by'<;>rfl
  rw[h13,aa,gi,aa]
  dsimp only
  have h15:(br (eqI frm 4) (some (aX (eqI zz 8))) (some false))=some (eqI frm 4&&aX (eqI zz 8)):=by cases eqI frm 4<;>rfl
  rw[h15,aa,gi,aa]
  dsimp only
  rw[cN,aa]
  dsimp only
  have h19:(br (eqI op 25) (some (eqI (m/64) 3)) (some false))=some (eqI op 25&&eqI (m/64) 3):=by cases eqI op 25<;>rfl
  refine Ret.mono (Q:=fun y=>y=((),(t,e,pb nw by' frm op zz m,nw,x%16,decide (x≠0),b,z1,f,g,by',frm,m/64,rg,rm,op,zz,r),())) ?_ (fun y hy=>⟨_,hy,rfl⟩)
  have step:∀u:Bool,(u=true↔(frm=1∨frm=2)∧zz≤frm)→
    (if(eqI op 25&&eqI (m/64) 3)=true∧(if u=true∧(if(eqI frm 4&&aX (eqI zz 8))=true∧(if(nw&&(cE op||dW op||by'))=true∧(0:Int)=0 then(10:Int)else 0)=0 then(10:Int)else(if(nw&&(cE op||dW op||by'))=true∧(0:Int)=0 then(10:Int)else 0))=0 then(10:Int)else(if(eqI frm 4&&aX (eqI zz 8))=true∧(if(nw&&(cE op||dW op||by'))=true∧(0:Int)=0 then(10:Int)else 0)=0 then(10:Int)else(if(nw&&(cE op||dW op||by'))=true∧(0:Int)=0 then(10:Int)else 0)))=0 then(12:Int)else
     (if u=true∧(if(eqI frm 4&&aX (eqI zz 8))=true∧(if(nw&&(cE op||dW op||by'))=true∧(0:Int)=0 then(10:Int)else 0)=0 then(10:Int)else(if(nw&&(cE op||dW op||by'))=true∧(0:Int)=0 then(10:Int)else 0))=0 then(10:Int)else(if(eqI frm 4&&aX (eqI zz 8))=true∧(if(nw&&(cE op||dW op||by'))=true∧(0:Int)=0 then(10:Int)else 0)=0 then(10:Int)else(if(nw&&(cE op||dW op||by'))=true∧(0:Int)=0 then(10:Int)else 0))))=pb nw by' frm op zz m:=fun u hu=>by
   have e1:(eqI op 25&&eqI (m/64) 3)=true↔op=25∧m/64=3:=by simp[eqI]
   have e2:(eqI frm 4&&aX (eqI zz 8))=true↔frm=4∧zz≠8:=by simp[eqI,aX]
   have e3:(nw&&(cE op||dW op||by'))=true↔(nw=true∧(cE op=true∨dW op=true∨by'=true)):=by simp[or_assoc]
   unfold pb
   simp only[hu,e1,e2,e3,and_true]
   by_cases p:(nw=true∧(cE op=true∨dW op=true∨by'=true))
   ·simp[p]
   ·simp only[p,if_false,and_true,false_or]
    by_cases p2:frm=4∧zz≠8
    ·simp[p2]
    ·simp only[p2,if_false,and_true,false_or]
     by_cases p3:(frm=1∨frm=2)∧zz≤frm
     ·simp[p3]
     ·simp only[p3,if_false,and_true]
  by_cases hfr:frm=1∨frm=2
  ·have hd:decide (1≤frm∧frm≤2)=true:=decide_eq_true (by omega)
   rw[hd,aH,gi,aa]
   dsimp only
   rw[h19,aa,gi,aa]
   dsimp only
   have hs:=step (leI zz frm) (by rw[le_iff];exact⟨fun h=>⟨hfr,h⟩,fun h=>h.2⟩)
   exact Ret.some (by rw[hs])
  ·have hd:decide (1≤frm∧frm≤2)=false:=decide_eq_false (by omega)
   rw[hd,aj,gi,aa]
   dsimp only
   rw[h19,aa,gi,aa]
   dsimp only
   have hs:=step false ⟨fun h=>(by cases h),fun h=>absurd h.1 hfr⟩
   exact Ret.some (by rw[hs])
end
section
variable {t:List UInt8}
theorem p7M_in {q:Pos}(h:q.In t):(p7M t q).In t:=by unfold p7M;split;exact(uZ h).adv (by decide);exact uZ h
theorem p8M_in {q:Pos}(h:q.In t):(p8M t q).In t:=yb (q:=fun _=>ww (zM t q)=true∧opM t q=0) (p7M_in h)
theorem rY {q:Pos}(h:q.In t):(p9M t q).In t:=yb (q:=fun _=>pb (wdM t q) (zM t q).2.2.2.1 (zM t q).2.2.2.2.1 (opM t q) (zsM t q) (mM t q)≠0) (p8M_in h)
theorem CY (by' w:Bool)(op x:Int):(dW op=false→eJ (szM by' op w x))∧(dW op=true→szM by' op w x=0):=by
 unfold szM eJ
 cases h8:cE op<;>cases h0:dW op<;>cases by'<;>cases w<;>by_cases h3:x/8%2=1<;>simp[h3]
 all_goals
  unfold cE at h8
  unfold dW at h0
  have:=of_decide_eq_true h8
  have:=of_decide_eq_true h0
  omega
def needF (sec:Bool)(n:Nat):Bool:=decide (((shz sec n).2.1=3∨(shz sec n).2.1=5∨(shz sec n).2.1=6∨(shz sec n).2.1=8)→((shz sec n).2.2.1=0→dW (shz sec n).1=false)∧∀d:Nat,d<8→dW (grp (shz sec n).2.2.1.toNat d)=false)
theorem needF_F:∀n:Nat,n<256→needF false n=true:=by decide +kernel
theorem needF_T:∀n:Nat,n<256→needF true n=true:=by decide +kernel
theorem BW (sec:Bool){n:Nat}(h:n<256):needF sec n=true:=by
 cases sec
 ·exact needF_F n h
 ·exact needF_T n h
theorem mY {q:Pos}(h:q.In t)(hf:(zM t q).2.1=3∨(zM t q).2.1=5∨(zM t q).2.1=6∨(zM t q).2.1=8):eJ (zsM t q):=by
 have hb:=jN h
 have hm:=kT h
 have hn:=of_decide_eq_true (BW (tP t q) (show(bM t q).toNat<256 by omega)) hf
 refine(CY _ _ _ _).1 ?_
 unfold opM
 cases hg:ww (zM t q)with
 |true=>rw[if_pos rfl];exact hn.2 _ (by omega)
 |false=>
  rw[if_neg (by decide)]
  have hz:=of_decide_eq_true (qW h)
  have:¬0<(zM t q).2.2.1:=of_decide_eq_false hg
  exact hn.1 (show(zM t q).2.2.1=0 by omega)
theorem frm_17 {q:Pos}(h:q.In t):(if(zM t q).2.1=17 then(zM t q).2.2.2.2.1 else 0)=(zM t q).2.2.2.2.1:=by
 have hz:=of_decide_eq_true (qW h)
 split
 ·rfl
 ·omega
theorem gV {n c:Int}{p:Pos}(h:p= .error c):adv t n p= .error c:=by rw[h];rfl
theorem exb_err {f:Int→Except Int Int}{c:Int}{p:Pos}(h:p= .error c):exb p f= .error c:=by rw[h];rfl
theorem Gf {q:Pos}{c:Int}(h:p3M t q= .error c):p6M t q= .error c:=by
 unfold p6M p5M
 rw[gV h,gV rfl]
 split<;>rfl
theorem Ci {q:Pos}{c:Int}(h:p6M t q= .error c):p8M t q= .error c:=by
 unfold p8M p7M
 rw[h,gV rfl]
 split<;>rfl
theorem va {q:Pos}{c:Int}(h:p8M t q= .error c):p9M t q= .error c:=by unfold p9M;exact exb_err h
theorem sA {w c:Int}{p:Pos}(h:p= .error c):AM t w p= .error c:=by
 unfold AM;split
 ·exact h
 ·exact gV h
theorem jA {x m z c:Int}{p:Pos}(h:p= .error c):(plM t x m z p).2= .error c:=by
 unfold plM Ag
 split
 ·exact h
 ·split
  ·exact sA (gV h)
  ·split
   ·exact sA (w:=4) h
   ·exact sA h
theorem yD {f frm op z x b m c:Int}{p:Pos}(h:p= .error c):(ny t f frm op z x b m p).2.2= .error c:=by
 unfold ny
 by_cases f1:f=1
 ·rw[if_pos f1]
  exact jA h
 rw[if_neg f1]
 by_cases f2:f=2
 ·rw[if_pos f2]
  exact jA h
 rw[if_neg f2]
 by_cases f17:f=17
 ·rw[if_pos f17]
  exact jA h
 rw[if_neg f17]
 by_cases f3:f=3
 ·rw[if_pos f3]
  exact gV h
 rw[if_neg f3]
 by_cases f4:f=4
 ·rw[if_pos f4]
  exact gV (jA h)
 rw[if_neg f4]
 by_cases f5:f=5
 ·rw[if_pos f5]
  exact gV (jA h)
 rw[if_neg f5]
 by_cases f6:f=6
 ·rw[if_pos f6]
  unfold mm
  cases zW op
  ·rw[if_neg (by decide)]
   by_cases ho:op=10
   ·rw[if_pos ho]
    exact gV (jA h)
   ·rw[if_neg ho]
    exact jA h
  ·rw[if_pos rfl]
   exact jA h
 rw[if_neg f6]
 by_cases f7:f=7
 ·rw[if_pos f7]
  by_cases ho:op=29
  ·rw[if_pos ho]
   exact h
  ·rw[if_neg ho]
   exact h
 rw[if_neg f7]
 by_cases f8:f=8
 ·rw[if_pos f8]
  exact gV h
 rw[if_neg f8]
 by_cases f9:f=9
 ·rw[if_pos f9]
  exact gV h
 rw[if_neg f9]
 by_cases f15:f=15
 ·rw[if_pos f15]
  exact gV h
 rw[if_neg f15]
 by_cases f10:f=10∨f=16
 ·rw[if_pos f10]
  exact gV h
 rw[if_neg f10]
 by_cases f11:f=11
 ·rw[if_pos f11]
  exact gV (jA h)
 rw[if_neg f11]
 by_cases f12:f=12
 ·rw[if_pos f12]
  exact jA h
 rw[if_neg f12]
 by_cases f13:f=13
 ·rw[if_pos f13]
  exact jA h
 rw[if_neg f13]
 exact h
theorem xU {at0 c:Int}(h:p9M t (.ok at0)= .error c):mF t at0=(ss,c):=by
 have:(oM t (.ok at0)).2.2= .error c:=yD h
 unfold mF
 rw[this]
theorem wb {at0 e:Int}(h:(oM t (.ok at0)).2.2= .ok e):mF t at0=(⟨opM t (.ok at0),zsM t (.ok at0),cdM t (.ok at0),(zM t (.ok at0)).2.2.2.2.1,(oM t (.ok at0)).1,(oM t (.ok at0)).2.1,e-at0⟩,0):=by
 unfold mF
 rw[h]
theorem wZ {f frm op z x b m:Int}{p:Pos}(h:p.In t)(hz:(f=3∨f=5∨f=6∨f=8)→eJ z):(ny t f frm op z x b m p).2.2.In t:=by
 unfold ny
 by_cases f1:f=1
 ·rw[if_pos f1]
  exact iM h
 rw[if_neg f1]
 by_cases f2:f=2
 ·rw[if_pos f2]
  exact iM h
 rw[if_neg f2]
 by_cases f17:f=17
 ·rw[if_pos f17]
  exact iM h
 rw[if_neg f17]
 by_cases f3:f=3
 ·rw[if_pos f3]
  exact h.adv (Int.le_trans (by decide) (mI (hz (.inl f3))).1)
 rw[if_neg f3]
 by_cases f4:f=4
 ·rw[if_pos f4]
  exact(iM h).adv (by decide)
 rw[if_neg f4]
 by_cases f5:f=5
 ·rw[if_pos f5]
  exact(iM h).adv (Int.le_trans (by decide) (mI (hz (.inr (.inl f5)))).1)
 rw[if_neg f5]
 by_cases f6:f=6
 ·rw[if_pos f6]
  unfold mm
  cases zW op
  ·rw[if_neg (by decide)]
   by_cases ho:op=10
   ·rw[if_pos ho]
    exact(iM h).adv (Int.le_trans (by decide) (mI (hz (.inr (.inr (.inl f6))))).1)
   ·rw[if_neg ho]
    exact iM h
  ·rw[if_pos rfl]
   exact iM h
 rw[if_neg f6]
 by_cases f7:f=7
 ·rw[if_pos f7]
  by_cases ho:op=29
  ·rw[if_pos ho]
   exact h
  ·rw[if_neg ho]
   exact h
 rw[if_neg f7]
 by_cases f8:f=8
 ·rw[if_pos f8]
  exact h.adv (by have:=sz18 (hz (.inr (.inr (.inr f8))));omega)
 rw[if_neg f8]
 by_cases f9:f=9
 ·rw[if_pos f9]
  exact h.adv (by decide)
 rw[if_neg f9]
 by_cases f15:f=15
 ·rw[if_pos f15]
  exact h.adv (by decide)
 rw[if_neg f15]
 by_cases f10:f=10∨f=16
 ·rw[if_pos f10]
  exact h.adv (by decide)
 rw[if_neg f10]
 by_cases f11:f=11
 ·rw[if_pos f11]
  exact(iM h).adv (by decide)
 rw[if_neg f11]
 by_cases f12:f=12
 ·rw[if_pos f12]
  exact iM h
 rw[if_neg f12]
 by_cases f13:f=13
 ·rw[if_pos f13]
  exact iM h
 rw[if_neg f13]
 exact h
theorem iP {y:Int}(h:y≠0):aX (eqI y 0)=true:=by rw[aq h];rfl
theorem AG {at0:Int}(hl:(t.length:Int)≤1099511627776)(h0:0≤at0)(h1:at0≤t.length):gJ ((t,at0,()),())=some (((mF t at0).1,(mF t at0).2,()),()):=by
 have hq:Pos.In (.ok at0) t:=fun a ha=>by cases ha;exact⟨h0,h1⟩
 have bad:∀ {c},c≠0→p9M t (.ok at0)= .error c→(some (((ss,c,()),()):(Ins×Int×Unit)×Unit))=some (((mF t at0).1,(mF t at0).2,()),()):=fun _ h=>by rw[xU h]
 unfold gJ
 dsimp only[p5,d6]
 obtain⟨a1,c1,e1,g1⟩:=ue (t:=t) (a:=at0) (c:=0) (0,0,0,0,false,0,0,0,0,0,0,0,0,0,0,0,0,0,0,0,0,0,0,0,0,0,0,0,()) hl hq
 rw[e1,aa]
 dsimp only
 rw[cZ]at g1⊢
 by_cases n1:c1≠0
 ·rw[iP n1,aH]
  rw[cF n1]at g1
  exact bad n1 (va (Ci (Gf g1.symm)))
 obtain rfl:c1=0:=Decidable.not_not.1 n1
 rw[show aX (eqI 0 0)=false from rfl,aj]
 obtain⟨y2,e2,g2,k2⟩:=sw (.ok at0) (wdM t (.ok at0)) (xM t (.ok at0)%16) (decide (xM t (.ok at0)≠0)) (0,0,0,0,0,0,0,0,0,0,0,0,0,0,0,0,0,0,()) hl hq g1
 rw[e2,aa]
 cases h6:p6M t (.ok at0)with
 |error c=>
  rw[h6]at g2
  obtain⟨rfl,n2⟩:=lH g2
  rw[iP n2,aH]
  exact bad n2 (va (Ci h6))
 |ok a2=>
 obtain rfl:=k2 a2 h6
 dsimp only
 rw[show aX (eqI 0 0)=false from rfl,aj]
 obtain⟨y3,e3,g3,k3⟩:=AL (.ok at0) a2 (wdM t (.ok at0)) (xM t (.ok at0)%16) (decide (xM t (.ok at0)≠0)) (0,0,0,0,0,0,0,0,0,0,0,0,0,0,0,0,0,0,()) hl hq h6
 refine(Ret.bnd (Q:=fun y=>y=y3) (Ret.of_eq e3 rfl) ?_).eq
 rintro _ rfl
 cases h8:p8M t (.ok at0)with
 |error c=>
  rw[h8]at g3
  obtain⟨rfl,n3⟩:=lH g3
  rw[iP n3,aH]
  exact Ret.of_eq (bad n3 (va h8)) rfl
 |ok a3=>
 obtain rfl:=k3 a3 h8
 dsimp only[p12,p13,p14,p15]
 rw[show aX (eqI 0 0)=false from rfl,aj]
 obtain⟨c4,e4,k4⟩:=DM (t:=t) (x:=xM t (.ok at0)) (m:=mM t (.ok at0)) (z1:=(zM t (.ok at0)).1) (f:=(zM t (.ok at0)).2.1) (g:=(zM t (.ok at0)).2.2.1) (frm:=(zM t (.ok at0)).2.2.2.2.1) (op:=opM t (.ok at0)) (b:=bM t (.ok at0)) (nw:=wdM t (.ok at0)) (by':=(zM t (.ok at0)).2.2.2.1) (zz:=zsM t (.ok at0)) (rg:=mM t (.ok at0)/8%8) (rm:=mM t (.ok at0)%8) (e:=a3) (0,0,0,0,0,0,0,0,0,0,0,0,0,0,0,0,0,()) (uX hq) rfl
 refine Ret.bnd (Q:=fun y=>y=_) (Ret.of_eq e4 rfl) ?_
 rintro _ rfl
 dsimp only[p16]
 have h9:p9M t (.ok at0)=if c4≠0 then .error c4 else .ok a3:=by unfold p9M;rw[h8,k4];rfl
 by_cases n4:c4≠0
 ·rw[iP n4,aH]
  rw[if_pos n4]at h9
  exact Ret.of_eq (bad n4 h9) rfl
 obtain rfl:c4=0:=Decidable.not_not.1 n4
 rw[if_neg n4]at h9
 rw[show aX (eqI 0 0)=false from rfl,aj]
 have hm:=kT hq
 have hb:=jN hq
 have hin9:(aE a3 0).In t:=by rw[cZ,←h9];exact rY hq
 obtain⟨a5,c5,e5,g5⟩:=ud (x:=xM t (.ok at0)) (z:=zsM t (.ok at0)) (f:=(zM t (.ok at0)).2.1) (frm:=(zM t (.ok at0)).2.2.2.2.1) (op:=opM t (.ok at0)) hm.1 hm.2 hb.1 hb.2 (wdM t (.ok at0)) (zM t (.ok at0)).1 (zM t (.ok at0)).2.2.1 (zM t (.ok at0)).2.2.2.1 (mY hq) hl hin9
 rw[frm_17 hq,cZ,←h9]at e5
 rw[cZ,←h9]at g5
 refine Ret.bnd (Q:=fun y=>y=_) (Ret.of_eq e5 rfl) ?_
 rintro _ rfl
 change aE a5 c5=(oM t (.ok at0)).2.2 at g5
 dsimp only[p16,p18,d18,p15]
 by_cases n5:c5≠0
 ·rw[iP n5,aH]
  rw[cF n5]at g5
  refine Ret.some ?_
  unfold mF
  rw[←g5]
  rfl
 obtain rfl:c5=0:=Decidable.not_not.1 n5
 rw[cZ]at g5
 rw[show aX (eqI 0 0)=false from rfl,aj,wb g5.symm]
 have hin5:0≤a5∧a5≤t.length:=(wZ (rY hq) (mY hq)) a5 g5.symm
 simp only[sw2,aa,ag]
 have hb15:=(bI hb.1 hb.2).2.2.2
 unfold cdM
 by_cases ho:opM t (.ok at0)=33∨opM t (.ok at0)=35∨opM t (.ok at0)=36
 ·rw[if_pos ho,show(eqI (opM t (.ok at0)) 33||(eqI (opM t (.ok at0)) 35||eqI (opM t (.ok at0)) 36))=true by simpa[eqI]using ho,aH,aa,ag]
  dsimp only
  rw[ck (by omega) (by omega),←hb15]
  exact Ret.some rfl
 ·rw[if_neg ho,show(eqI (opM t (.ok at0)) 33||(eqI (opM t (.ok at0)) 35||eqI (opM t (.ok at0)) 36))=false by simpa[eqI]using ho,aj,aa,ag]
  dsimp only
  rw[ck (by omega) (by omega)]
  exact Ret.some rfl
end
section
variable {t:List UInt8}
theorem oK {b:Int}(h0:0≤b)(h1:b<256):eU ((b,()),())=some (decide (b∈pm∧b≠102),()):=by
 obtain⟨n,rfl⟩:=Int.eq_ofNat_of_zero_le h0
 rw[E0 n (by omega)]
 have:((n:Int)≠102)↔n≠102:=by omega
 simp only[this]
theorem nz {p:Pos}{a:Int}(hp:p.In t)(h:adv t 1 p= .ok a):pkB t p=rdU t 1 p:=by
 cases p with
 |error _=>cases h
 |ok b=>
  unfold adv exb at h
  dsimp only at h
  by_cases hl:b+1≤t.length
  ·exact(yH hp (by unfold pkB;dsimp only;rw[if_pos (by omega)];exact(jO t b).1)).1.symm
  ·rw[if_neg hl]at h;cases h
theorem vf {p:Pos}{a c:Int}(hp:p= .ok a)(h:adv t 1 p= .error c):pkB t p= -1∧rdU t 1 p=0:=by
 subst hp
 unfold adv exb at h
 unfold pkB rdU
 dsimp only at h⊢
 by_cases hl:a+1≤t.length
 ·rw[if_pos hl]at h;cases h
 ·rw[if_neg (by omega),if_neg hl];exact⟨rfl,rfl⟩
def vQ:Shz:=(0,0,0,false,0,())
theorem Fo {at0:Int}(hl:(t.length:Int)≤1099511627776)(h0:0≤at0)(h1:at0≤t.length):
  Ret (ed ((),(t,at0,0,false,0,()),())) fun y=>aE y.2.1.2.1 y.2.1.2.2.2.2.1=p6M t (.ok at0)∧
   ∀e,p6M t (.ok at0)= .ok e→y=((zM t (.ok at0),bM t (.ok at0),()),(t,e,xM t (.ok at0),wdM t (.ok at0),0,()),()):=by
 have hq:Pos.In (.ok at0) t:=fun a ha=>by cases ha;exact⟨h0,h1⟩
 obtain⟨q,hqq⟩:∃q:Pos,q= .ok at0:=⟨_,rfl⟩
 unfold ed
 obtain⟨a1,c1,e1,g1⟩:=jX (t:=t) (a:=at0) (c:=0) (x:=0) (w:=false) hl hq
 rw[e1,aa]
 dsimp only
 rw[cZ]at g1⊢
 rw[←hqq]at g1 hq⊢
 refine Ret.iter (fun x=>(∃a c,x=((rdU t 1 q,()),(t,a,0,false,c,()),vQ,())∧aE a c=adv t 1 q)∨
   (∃a c,x=((rdU t 1 (p1M t q),()),(t,a,0,true,c,()),vQ,())∧aE a c=adv t 1 (p1M t q)∧wdM t q=true)∨
   (∃a,x=((0,()),(t,a,0,true,10,()),vQ,())∧p2M t q= .error 10))
  (fun x=>(if x.2.1.2.2.2.1=true then 0 else 2)+(if x.2.1.2.2.2.2.1=0 then 1 else 0)) ?_ F _ (.inl ⟨a1,c1,rfl,g1⟩) (by unfold F;dsimp only;split<;>split<;>omega)
 intro x rec hI hrec
 have hcase:(∃a c w,x=((rdU t 1 (p2M t q),()),(t,a,0,w,c,()),vQ,())∧aE a c=adv t 1 (p2M t q)∧(∀e,p2M t q= .ok e→w=wdM t q)∧(c=0→¬rdU t 1 (p2M t q)∈pm))∨
   (∃a w p,x=((rdU t 1 p,()),(t,a,0,w,0,()),vQ,())∧p.In t∧aE a 0=adv t 1 p∧rdU t 1 p∈pm∧(w=false∧p=q∨w=true∧p=p1M t q∧wdM t q=true)):=by
  rcases hI with ⟨a,c,rfl,h⟩|⟨a,c,rfl,h,hw⟩|⟨a,rfl,h⟩
  ·by_cases hs:c=0∧rdU t 1 q∈pm
   ·obtain⟨rfl,hs⟩:=hs
    exact .inr ⟨a,false,q,rfl,hq,h,hs,.inl ⟨rfl,rfl⟩⟩
   ·have hpk:¬pkB t q∈pm:=by
     by_cases hc:c=0
     ·subst hc
      rw[nz hq h.symm];exact fun g=>hs ⟨rfl,g⟩
     ·rw[cF hc]at h
      rw[(vf hqq h.symm).1];decide
    have hw:wdM t q=false:=decide_eq_false fun g=>hpk (by rw[g];decide)
    have e1:p1M t q=q:=by unfold p1M;rw[hw,if_neg (by decide)]
    have e2:p2M t q=q:=by
     unfold p2M;rw[e1,hqq];unfold exb;dsimp only;rw[if_neg (by rw[hqq]at hpk;exact hpk)]
    refine .inl ⟨a,c,false,by rw[e2],by rw[e2];exact h,fun _ _=>hw.symm,fun hc=>?_⟩
    rw[e2];exact fun g=>hs ⟨hc,g⟩
  ·by_cases hs:c=0∧rdU t 1 (p1M t q)∈pm
   ·obtain⟨rfl,hs⟩:=hs
    exact .inr ⟨a,true,p1M t q,rfl,yE hq,h,hs,.inr ⟨rfl,rfl,hw⟩⟩
   ·have hp1:p1M t q=adv t 1 q:=by unfold p1M;rw[hw,if_pos rfl]
    have hpk:¬pkB t (p1M t q)∈pm:=by
     by_cases hc:c=0
     ·subst hc
      rw[nz (yE hq) h.symm];exact fun g=>hs ⟨rfl,g⟩
     ·rw[cF hc]at h
      cases hp:p1M t q with
      |error _=>unfold pkB;dsimp only;decide
      |ok a'=>rw[(vf rfl (hp▸h.symm)).1];decide
    have e2:p2M t q=p1M t q:=by
     unfold p2M
     cases hp:p1M t q with
     |error _=>rfl
     |ok a'=>rw[hp]at hpk;unfold exb;dsimp only;rw[if_neg hpk]
    refine .inl ⟨a,c,true,by rw[e2],by rw[e2];exact h,fun _ _=>hw.symm,fun hc=>?_⟩
    rw[e2];exact fun g=>hs ⟨hc,g⟩
  ·refine .inl ⟨a,10,true,by rw[h];rfl,by rw[h];rfl,fun e he=>?_,fun hc=>?_⟩
   ·rw[h]at he;cases he
   ·cases hc
 rcases hcase with ⟨a,c,w,rfl,hpos,hw,hend⟩|⟨a,w,p,rfl,hpin,hpos,hpf,hS⟩
 ·have hb2:=dp t (p2M t q) (oP hq)
  have hb3:=dp t (p3M t q) (yF hq)
  dsimp only
  refine Ret.bnd (Q:=fun y=>y=false) ?_ ?_
  ·by_cases hc:c=0
   ·have hn:=hend hc
    rw[bc hc,aH,aq (fun g=>hn (by rw[g];decide)),aj,oK hb2.1 hb2.2,aa,aa,decide_eq_false (fun g=>hn g.1)]
    exact Ret.some rfl
   ·rw[aq hc,aj];exact Ret.some rfl
  rintro _ rfl
  rw[aj]
  refine Ret.bnd (Q:=fun y=>y=hxM t q) ?_ ?_
  ·by_cases hc:c=0
   ·subst hc
    rw[bc rfl,aH,gw hb2.1 (by decide) (by omega)]
    refine Ret.some ?_
    unfold hxM
    rw[nz (oP hq) hpos.symm,Bool.eq_iff_iff,oF,decide_eq_true_eq]
    omega
   ·rw[aq hc,aj]
    refine Ret.some ?_
    symm
    refine decide_eq_false fun g=>?_
    obtain⟨_,_,_,_,hk⟩:=yH (oP hq) (show 0≤pkB t (p2M t q)by omega)
    rw[hk,cF hc]at hpos
    cases hpos
  rintro _ rfl
  refine Ret.bnd (Q:=fun y=>∃a c,y=Sum.inl ((rdU t 1 (p3M t q),()),(t,a,xM t q,w,c,()),vQ,())∧aE a c=adv t 1 (p3M t q)) ?_ ?_
  ·cases hh:hxM t q with
   |true=>
    have hg:64≤pkB t (p2M t q)∧pkB t (p2M t q)≤79:=of_decide_eq_true hh
    obtain⟨hk,_⟩:=yH (oP hq) (show 0≤pkB t (p2M t q)by omega)
    have hin:(aE a c).In t:=by rw[hpos];exact(oP hq).adv (by decide)
    obtain⟨a3,c3,e3,g3⟩:=jX (x:=rdU t 1 (p2M t q)) (w:=w) hl hin
    have e4:p3M t q=adv t 1 (p2M t q):=by unfold p3M;rw[hh,if_pos rfl]
    have e5:xM t q=rdU t 1 (p2M t q):=by unfold xM;rw[hh,if_pos rfl,hk]
    rw[aH,e3,aa]
    exact Ret.some ⟨a3,c3,by rw[e4,e5,hpos],by rw[e4,g3,hpos]⟩
   |false=>
    have e4:p3M t q=p2M t q:=by unfold p3M;rw[hh,if_neg (by decide)]
    have e5:xM t q=0:=by unfold xM;rw[hh,if_neg (by decide)]
    rw[aj]
    exact Ret.some ⟨a,c,by rw[e4,e5],by rw[e4,hpos]⟩
  rintro _ ⟨a3,c3,rfl,h3⟩
  rw[ag]
  dsimp only
  have hin3:(aE a3 c3).In t:=by rw[h3];exact uY hq
  refine Ret.bnd (Q:=fun y=>y=tP t q) ?_ ?_
  ·by_cases hc:c3=0
   ·rw[bc hc,aH];exact Ret.some rfl
   ·rw[aq hc,aj]
    refine Ret.some ?_
    symm
    refine decide_eq_false fun g=>?_
    obtain⟨b,hb⟩:=rd_ok (t:=t) (p:=p3M t q) (n:=1) (by omega)
    exact hc (lJ (h3.trans hb)).2
  rintro _ rfl
  refine Ret.bnd (Q:=fun y=>∃a c,y=Sum.inl ((bM t q,tP t q,()),(t,a,xM t q,w,c,()),vQ,())∧aE a c=p5M t q) ?_ ?_
  ·unfold bM p5M
   cases hs:tP t q with
   |true=>
    obtain⟨a4,c4,e4,g4⟩:=jX (x:=xM t q) (w:=w) hl hin3
    rw[aH,e4,aa,if_pos rfl,if_pos rfl]
    exact Ret.some ⟨a4,c4,by rw[h3],by rw[g4,h3]⟩
   |false=>
    rw[aj,if_neg (by decide),if_neg (by decide)]
    exact Ret.some ⟨a3,c3,rfl,h3⟩
  rintro _ ⟨a5,c5,rfl,h5⟩
  rw[ag]
  dsimp only
  have hbr:=jN hq
  have hS:=wI (tP t q) (show(bM t q).toNat<256 by omega)
  rw[Int.toNat_of_nonneg hbr.1]at hS
  rw[hS,aa]
  dsimp only
  have h6:aE a5 (if(zM t q).2.1=0 then(if c5=0 then 11 else c5)else c5)=p6M t q:=by
   unfold p6M
   rw[←h5]
   by_cases hc:c5=0
   ·subst hc
    by_cases hz:(zM t q).2.1=0
    ·rw[if_pos hz,if_pos rfl,cZ];unfold exb;dsimp only;rw[if_pos hz];rfl
    ·rw[if_neg hz,cZ];unfold exb;dsimp only;rw[if_neg hz]
   ·rw[if_neg hc,cF hc]
    split<;>exact cF hc
  refine Ret.bnd (Q:=fun y=>y=Sum.inl ((bM t q,()),(t,a5,xM t q,w,(if(zM t q).2.1=0 then(if c5=0 then 11 else c5)else c5),()),vQ,(zM t q,()))) ?_ ?_
  ·by_cases hz:(zM t q).2.1=0
   ·have hz':(shz (tP t q) (bM t q).toNat).2.1=0:=hz
    rw[bc hz',aH,pv,aa,if_pos hz]
    exact Ret.some rfl
   ·have hz':¬(shz (tP t q) (bM t q).toNat).2.1=0:=hz
    rw[aq hz',aj,if_neg hz]
    exact Ret.some rfl
  rintro _ rfl
  rw[ag]
  refine Ret.some ⟨h6,fun e he=>?_⟩
  rw[he]at h6
  obtain⟨ha,hc⟩:=lJ h6
  have hwe:w=wdM t q:=by
   cases hp:p2M t q with
   |ok e'=>exact hw e' hp
   |error k=>
    exfalso
    have:p3M t q= .error k:=by unfold p3M hxM;rw[hp];rw[show pkB t (.error k)= -1 from rfl,if_neg (by decide)]
    rw[Gf this]at he
    cases he
  dsimp only
  rw[hc,ha,hwe]
 ·have hb:=dp t p hpin
  dsimp only at hrec⊢
  refine Ret.bnd (Q:=fun y=>y=true) ?_ ?_
  ·rw[bc rfl,aH]
   by_cases h102:rdU t 1 p=102
   ·rw[bc h102,aH,aa];exact Ret.some rfl
   ·rw[aq h102,aj,oK hb.1 hb.2,aa,aa,decide_eq_true ⟨hpf,h102⟩];exact Ret.some rfl
  rintro _ rfl
  rw[aH]
  have hpk:pkB t p=rdU t 1 p:=nz hpin hpos.symm
  by_cases hgo:rdU t 1 p=102∧w=false
  ·
   obtain⟨h102,rfl⟩:=hgo
   obtain rfl:p=q:=by
    rcases hS with ⟨_,g⟩|⟨g,_⟩
    ·exact g
    ·cases g
   have hwd:wdM t p=true:=decide_eq_true (by rw[hpk];exact h102)
   have e1:p1M t p=adv t 1 p:=by unfold p1M;rw[hwd,if_pos rfl]
   have hin:(aE a 0).In t:=by rw[hpos];exact hpin.adv (by decide)
   obtain⟨a3,c3,e3,g3⟩:=jX (x:=0) (w:=true) hl hin
   rw[bc h102,ce,aj,aa,aj,aa,ag]
   dsimp only
   rw[e3,aa]
   refine hrec _ (.inr (.inl ⟨a3,c3,by rw[e1,hpos],by rw[g3,hpos,e1],hwd⟩)) ?_
   dsimp only
   rw[if_pos rfl,if_neg (show ¬false=true by decide),if_pos rfl]
   split<;>omega
  ·refine Ret.bnd (Q:=fun y=>y=true) ?_ ?_
   ·by_cases h102:rdU t 1 p=102
    ·have hw:w=true:=by
      cases w with
      |true=>rfl
      |false=>exact absurd ⟨h102,rfl⟩ hgo
     rw[bc h102,ce,aj]
     exact Ret.some hw
    ·rw[aq h102,cP,aH];exact Ret.some rfl
   rintro _ rfl
   rw[aH,pv,aa,aa,ag,if_pos rfl]
   dsimp only
   have h2:p2M t q= .error 10:=by
    rcases hS with ⟨rfl,rfl⟩|⟨rfl,rfl,hwd⟩
    ·have hwd:wdM t p=false:=decide_eq_false fun g=>hgo ⟨by rw[←hpk];exact g,rfl⟩
     have e1:p1M t p=p:=by unfold p1M;rw[hwd,if_neg (by decide)]
     unfold p2M
     rw[e1,hpk,hqq]
     rw[hqq]at hpf
     unfold exb
     dsimp only
     rw[if_pos hpf]
    ·unfold p2M
     rw[hpk]
     cases hp:p1M t q with
     |error k=>rw[hp]at hpos;cases hpos
     |ok e=>rw[hp]at hpf;unfold exb;dsimp only;rw[if_pos hpf]
   obtain⟨a3,c3,e3,g3⟩:=jX (t:=t) (a:=a) (c:=10) (x:=0) (w:=true) hl (fun e he=>by cases he)
   rw[e3,aa]
   have hc3:c3=10:=(lH (g3.trans (show adv t 1 (aE a 10)= .error 10 from rfl))).1
   subst hc3
   refine hrec _ (.inr (.inr ⟨a3,rfl,h2⟩)) ?_
   dsimp only
   rw[if_pos rfl,if_neg (show ¬(10:Int)=0 by decide),if_pos rfl]
   split<;>omega
end
section
variable {t:List UInt8}{a c x:Int}{w:Bool}
theorem mu {f:Int}(h:0≤f∧f<18):cY ((f,()),())=some (nj f,()):=by
 obtain⟨n,rfl⟩:=Int.eq_ofNat_of_zero_le h.1
 exact Bi n (by omega)
theorem sw4 {α β γ:Type}{a b:Bool}{r:α}{y:γ}:br a (some (Sum.inl ((y,a,()),r):Sum ((γ×Bool×Unit)×α) β)) (some (Sum.inl ((y,b,()),r)))=some (Sum.inl ((y,a||b,()),r)):=by cases a<;>rfl
theorem FW (op:Int):(eqI op 29||(eqI op 30||(eqI op 31||eqI op 32)))=cE op:=by rw[Bool.eq_iff_iff];simp[cE,eqI]
theorem FV (op:Int):(eqI op 33||(eqI op 34||(eqI op 37||(eqI op 38||(eqI op 43||eqI op 44)))))=dW op:=by rw[Bool.eq_iff_iff];simp[dW,eqI]
theorem bit3 {x:Int}(hx:mR x):aM ((x,3,()),())=some (x/8%2,()):=by
 rw[ly _ _ (by decide) (by decide)]
 have h1:x%2^64=x:=Int.emod_eq_of_lt (by unfold mR at hx;omega) (by unfold mR at hx;omega)
 rw[h1];rfl
theorem Fu (z:Shz)(op:Int)(hx:mR x):ef ((z,op,()),(t,a,x,w,c,()),())=some (szM z.2.2.2.1 op w x,(t,a,x,w,c,()),()):=by
 unfold ef
 dsimp only
 simp only[sw4,aa,ag,FW]
 unfold szM
 cases h8:cE op with
 |true=>rw[aH,if_pos rfl]
 |false=>
  rw[aj,if_neg (by decide)]
  simp only[sw1,aa,ag,FV]
  cases h0:dW op with
  |true=>rw[aH,aa,oQ,if_pos rfl]
  |false=>
   rw[aj,aa,ag,if_neg (by decide)]
   dsimp only
   cases hb:z.2.2.2.1 with
   |true=>rw[aH,if_pos rfl]
   |false=>
    rw[aj,if_neg (by decide),bit3 hx,aa]
    by_cases h3:x/8%2=1
    ·rw[if_pos h3,bc h3,aH]
    ·rw[if_neg h3,aq h3,aj]
     cases w<;>rfl
theorem FA (z:Shz)(op:Int):gb ((z,op,()),())=some (!(cE op||dW op||z.2.2.2.1),()):=by
 unfold gb
 dsimp only
 simp only[sw1,aa,ag]
 have e:(eqI op 29||(eqI op 30||(eqI op 31||(eqI op 32||(eqI op 33||(eqI op 34||(eqI op 37||(eqI op 38||(eqI op 43||eqI op 44)))))))))=(cE op||dW op):=by
  rw[←FW,←FV];simp only[Bool.or_assoc]
 rw[e]
 cases h:(cE op||dW op)with
 |true=>rw[aH,aa,oQ];rfl
 |false=>rw[aj,aa,ag];rfl
theorem CL (y:Ins)(z:Shz)(hf:z.2.2.2.2.1=0∨z.2.2.2.2.1=1∨z.2.2.2.2.1=2∨z.2.2.2.2.1=4)(m:Int):
  fv ((y,z,w,()),())=some (decide (pb w z.2.2.2.1 z.2.2.2.2.1 y.op y.size m≠10),()):=by
 unfold fv
 dsimp only
 refine(Ret.bnd (Q:=fun u=>u=(w&&(cE y.op||dW y.op||z.2.2.2.1))) ?_ ?_).eq
 ·cases w with
  |true=>rw[aH,FA,aa];exact Ret.some (by rw[jf];simp)
  |false=>rw[aj];exact Ret.some rfl
 rintro _ rfl
 unfold pb
 have e3:(w&&(cE y.op||dW y.op||z.2.2.2.1))=true↔(w=true∧(cE y.op=true∨dW y.op=true∨z.2.2.2.1=true)):=by simp[or_assoc]
 by_cases p:(w&&(cE y.op||dW y.op||z.2.2.2.1))=true
 ·rw[p,aH,if_pos (.inl (e3.1 p))]
  exact Ret.some rfl
 ·rw[Bool.not_eq_true]at p
  rw[p,aj]
  have p':¬(w=true∧(cE y.op=true∨dW y.op=true∨z.2.2.2.1=true)):=fun g=>by rw[e3.2 g]at p;cases p
  by_cases h4:z.2.2.2.2.1=4
  ·rw[af (bc h4)]
   refine Ret.some ?_
   congr 1
   by_cases h8:y.size=8
   ·rw[if_neg (fun g=>g.elim p' (by omega)),bc h8]
    split<;>rfl
   ·rw[if_pos (.inr (.inl ⟨h4,h8⟩)),aq h8];rfl
  ·rw[am (aq h4)]
   by_cases h0:z.2.2.2.2.1=0
   ·rw[af (bc h0),aa,if_neg (fun g=>g.elim p' (by omega))]
    refine Ret.some ?_
    congr 1
    split<;>rfl
   ·rw[am (aq h0),aa]
    refine Ret.some ?_
    congr 1
    by_cases hs:y.size≤z.2.2.2.2.1
    ·rw[if_pos (.inr (.inr ⟨by omega,hs⟩)),gF (by omega)];rfl
    ·rw[if_neg (fun g=>g.elim p' (by omega)),ii (by omega)]
     split<;>rfl
theorem DB {w by':Bool}{frm op z m:Int}(h:pb w by' frm op z m≠10):pb w by' frm op z m=if op=25∧m/64=3 then 12 else 0:=by
 unfold pb at h⊢
 split
 ·rename_i g;rw[if_pos g]at h;exact absurd rfl h
 ·rfl
end
section
variable {t:List UInt8}
theorem uD {at0:Int}(hl:(t.length:Int)≤1099511627776)(h0:0≤at0)(h1:at0≤t.length):eT ((t,at0,()),())=some (((mF t at0).1,(mF t at0).2,()),()):=by
 have hq:Pos.In (.ok at0) t:=fun a ha=>by cases ha;exact⟨h0,h1⟩
 have bad:∀ {c},p9M t (.ok at0)= .error c→(some (((ss,c,()),()):(Ins×Int×Unit)×Unit))=some (((mF t at0).1,(mF t at0).2,()),()):=fun h=>by rw[xU h]
 have hz:=of_decide_eq_true (qW hq)
 have hm:=kT hq
 have hb:=jN hq
 have hx:=Fd t (.ok at0)
 unfold eT
 dsimp only
 obtain⟨y2,e2,g2,k2⟩:=Fo hl h0 h1
 refine(Ret.bnd (Q:=fun y=>y=y2) (Ret.of_eq e2 rfl) ?_).eq
 rintro _ rfl
 cases h6:p6M t (.ok at0)with
 |error c=>
  rw[h6]at g2
  obtain⟨rfl,n2⟩:=lH g2
  rw[iP n2,aH]
  exact Ret.of_eq (bad (va (Ci h6))) rfl
 |ok a2=>
 obtain rfl:=k2 a2 h6
 have hin6:(aE a2 0).In t:=by rw[cZ,←h6];exact uZ hq
 dsimp only
 rw[show aX (eqI 0 0)=false from rfl,aj,mu ⟨hz.2.2.1,hz.2.2.2.1⟩,aa]
 dsimp only
 refine Ret.bnd (Q:=fun y=>∃a c o,y=Sum.inl ((at0,bM t (.ok at0),mM t (.ok at0),()),(0,0,0,0,0,0,0,0,0,0,0,0,0,0,0,0,0,0,0,()),(t,a,xM t (.ok at0),wdM t (.ok at0),c,()),zM t (.ok at0),(o,0,0,(zM t (.ok at0)).2.2.2.2.1,0,0,0,0,0,0,0,0,0,0,0,0,0,0,0,()),())∧aE a c=p8M t (.ok at0)∧(c=0→o=opM t (.ok at0))) ?_ ?_
 ·cases hM:nj (zM t (.ok at0)).2.1 with
  |false=>
   have hg:ww (zM t (.ok at0))=false:=decide_eq_false fun g=>by
    have:=(hz.2.2.2.2.2.2.2.2.1 g).1
    rw[hM]at this;cases this
   have e1:mM t (.ok at0)=0:=by unfold mM;rw[hM,if_neg (by decide)]
   have e2:opM t (.ok at0)=(zM t (.ok at0)).1:=by unfold opM;rw[hg,if_neg (by decide)]
   have e3:p8M t (.ok at0)= .ok a2:=by unfold p8M p7M;rw[hM,hg,if_neg (by decide),h6];simp[exb]
   rw[aj]
   exact Ret.some ⟨a2,0,opM t (.ok at0),by rw[e1,e2],by rw[e3];rfl,fun _=>rfl⟩
  |true=>
   obtain⟨a4,c4,e4,g4⟩:=jX (x:=xM t (.ok at0)) (w:=wdM t (.ok at0)) hl hin6
   have e1:mM t (.ok at0)=rdU t 1 (aE a2 0):=by unfold mM;rw[hM,if_pos rfl,h6];rfl
   have e7:p7M t (.ok at0)=aE a4 c4:=by unfold p7M;rw[hM,if_pos rfl,h6,g4];rfl
   rw[aH,e4,←e1,aa]
   dsimp only
   rw[gw hm.1 (by decide) (by omega),dL (by omega)]
   by_cases hg:0<(zM t (.ok at0)).2.2.1
   ·have hgB:ww (zM t (.ok at0))=true:=decide_eq_true hg
    have e8:p8M t (.ok at0)=exb (aE a4 c4) fun a=>if opM t (.ok at0)=0 then .error 11 else .ok a:=by
     unfold p8M;rw[e7,hgB];simp only[true_and]
    have eo:grp (zM t (.ok at0)).2.2.1.toNat (mM t (.ok at0)/8%8).toNat=opM t (.ok at0):=by unfold opM;rw[hgB,if_pos rfl]
    by_cases hc:c4=0
    ·subst hc
     have hgo:=wH (zM t (.ok at0)).2.2.1.toNat (by omega) (by omega) (mM t (.ok at0)/8%8).toNat (by omega)
     rw[Int.toNat_of_nonneg (by omega),Int.toNat_of_nonneg (by omega),eo]at hgo
     rw[bc rfl,aH,aa,ii hg,aH,hgo,aa]
     dsimp only
     rw[cZ]at e8
     unfold exb at e8
     dsimp only at e8
     by_cases ho:opM t (.ok at0)=0
     ·rw[if_pos ho]at e8
      rw[bc ho,aH,pv,aa,aa,ag,if_pos rfl]
      exact Ret.some ⟨a4,11,opM t (.ok at0),rfl,by rw[e8];rfl,fun _=>rfl⟩
     ·rw[if_neg ho]at e8
      rw[aq ho,aj,aa,ag]
      exact Ret.some ⟨a4,0,opM t (.ok at0),rfl,by rw[e8];rfl,fun _=>rfl⟩
    ·rw[cF hc]at e8
     unfold exb at e8
     dsimp only at e8
     rw[aq hc,aj,aa,aj,aa,ag]
     exact Ret.some ⟨a4,c4,(zM t (.ok at0)).1,rfl,by rw[e8,cF hc],fun g=>absurd g hc⟩
   ·have hgB:ww (zM t (.ok at0))=false:=decide_eq_false hg
    have e2:opM t (.ok at0)=(zM t (.ok at0)).1:=by unfold opM;rw[hgB,if_neg (by decide)]
    have e8:p8M t (.ok at0)=aE a4 c4:=by
     unfold p8M;rw[e7,hgB]
     cases aE a4 c4<;>simp[exb]
    refine Ret.bnd (Q:=fun y=>y=false) ?_ ?_
    ·rw[gF hg]
     cases eqI c4 0
     ·rw[aj];exact Ret.some rfl
     ·rw[aH];exact Ret.some rfl
    rintro _ rfl
    rw[aj,aa,ag]
    exact Ret.some ⟨a4,c4,opM t (.ok at0),by rw[e2],by rw[e8],fun _=>rfl⟩
 rintro _ ⟨a8,c8,o8,rfl,g8,k8⟩
 rw[ag]
 dsimp only
 cases h8:p8M t (.ok at0)with
 |error c=>
  rw[h8]at g8
  obtain⟨rfl,n3⟩:=lH g8
  rw[iP n3,aH]
  exact Ret.of_eq (bad (va h8)) rfl
 |ok a3=>
 rw[h8]at g8
 obtain⟨rfl,rfl⟩:=lJ g8
 obtain rfl:=k8 rfl
 rw[show aX (eqI 0 0)=false from rfl,aj,Fu _ _ hx,aa]
 dsimp only
 rw[CL _ _ (by omega) (mM t (.ok at0)),aa]
 have h9:p9M t (.ok at0)=if pb (wdM t (.ok at0)) (zM t (.ok at0)).2.2.2.1 (zM t (.ok at0)).2.2.2.2.1 (opM t (.ok at0)) (zsM t (.ok at0)) (mM t (.ok at0))≠0 then .error (pb (wdM t (.ok at0)) (zM t (.ok at0)).2.2.2.1 (zM t (.ok at0)).2.2.2.2.1 (opM t (.ok at0)) (zsM t (.ok at0)) (mM t (.ok at0)))else .ok a8:=by unfold p9M;rw[h8];rfl
 have hsz:szM (zM t (.ok at0)).2.2.2.1 (opM t (.ok at0)) (wdM t (.ok at0)) (xM t (.ok at0))=zsM t (.ok at0):=rfl
 rw[hsz]
 dsimp only
 by_cases hb10:pb (wdM t (.ok at0)) (zM t (.ok at0)).2.2.2.1 (zM t (.ok at0)).2.2.2.2.1 (opM t (.ok at0)) (zsM t (.ok at0)) (mM t (.ok at0))=10
 ·rw[hb10,if_pos (by decide)]at h9
  rw[decide_eq_false (fun g=>g hb10),cP,aH]
  exact Ret.of_eq (bad h9) rfl
 rw[DB hb10]at h9
 rw[decide_eq_true hb10,ce,aj,gw hm.1 (by decide) (by omega)]
 refine Ret.bnd (Q:=fun y=>y=decide (opM t (.ok at0)=25∧mM t (.ok at0)/64=3)) ?_ ?_
 ·by_cases ho:opM t (.ok at0)=25
  ·rw[bc ho,aH];exact Ret.some (by simp[eqI,ho])
  ·rw[aq ho,aj];exact Ret.some (by simp[ho])
 rintro _ rfl
 by_cases hlea:opM t (.ok at0)=25∧mM t (.ok at0)/64=3
 ·rw[if_pos hlea,if_pos (by decide)]at h9
  rw[decide_eq_true hlea,aH]
  exact Ret.of_eq (bad h9) rfl
 rw[if_neg hlea,if_neg (by decide)]at h9
 rw[decide_eq_false hlea,aj]
 have hin9:(aE a8 0).In t:=by rw[cZ,←h9];exact rY hq
 simp only[Az,aa]
 refine Ret.bnd (Q:=fun y=>y=Sum.inl ((at0,bM t (.ok at0),mM t (.ok at0),()),(0,0,0,0,0,0,0,0,0,0,0,0,0,0,0,0,0,0,0,()),(t,a8,xM t (.ok at0),wdM t (.ok at0),0,()),zM t (.ok at0),(opM t (.ok at0),zsM t (.ok at0),cdM t (.ok at0),(zM t (.ok at0)).2.2.2.2.1,0,0,0,0,0,0,0,0,0,0,0,0,0,0,0,()),())) ?_ ?_
 ·unfold cdM
  by_cases ho:opM t (.ok at0)=33∨opM t (.ok at0)=35∨opM t (.ok at0)=36
  ·rw[if_pos ho,show(eqI (opM t (.ok at0)) 33||eqI (opM t (.ok at0)) 35||eqI (opM t (.ok at0)) 36)=true by simp[eqI];omega,aH,dL hb.1]
   exact Ret.some rfl
  ·rw[if_neg ho,show(eqI (opM t (.ok at0)) 33||eqI (opM t (.ok at0)) 35||eqI (opM t (.ok at0)) 36)=false by simp[eqI];omega,aj]
   exact Ret.some rfl
 rintro _ rfl
 rw[ag]
 dsimp only
 rw[mu ⟨hz.2.2.1,hz.2.2.2.1⟩,aa]
 dsimp only
 refine Ret.bnd (Q:=fun y=>∃a c,y=Sum.inl ((at0,()),(0,0,0,0,0,0,0,0,0,0,0,0,0,0,0,0,0,0,0,()),(t,a,xM t (.ok at0),wdM t (.ok at0),c,()),dA ⟨opM t (.ok at0),zsM t (.ok at0),cdM t (.ok at0),(zM t (.ok at0)).2.2.2.2.1,(oM t (.ok at0)).1,(oM t (.ok at0)).2.1,0⟩ (),())∧aE a c=(oM t (.ok at0)).2.2) ?_ ?_
 ·unfold oM
  have e9:p9M t (.ok at0)=aE a8 0:=h9
  rw[e9]
  cases hM:nj (zM t (.ok at0)).2.1 with
  |true=>
   obtain⟨a5,c5,e5,g5⟩:=CH (w:=wdM t (.ok at0)) (z:=zsM t (.ok at0)) (f:=(zM t (.ok at0)).2.1) (frm:=(zM t (.ok at0)).2.2.2.2.1) (op:=opM t (.ok at0)) (cd:=cdM t (.ok at0)) hx hm.1 hm.2 (bM t (.ok at0)) (zM t (.ok at0)).1 (zM t (.ok at0)).2.2.1 (zM t (.ok at0)).2.2.2.1 hM (fun h=>mY hq (by omega)) hl hin9
   rw[aH]
   refine Ret.bnd (Q:=fun y=>y=_) (Ret.of_eq e5 rfl) ?_
   rintro _ rfl
   exact Ret.some ⟨a5,c5,rfl,g5⟩
  |false=>
   obtain⟨a5,c5,e5,g5⟩:=CI (w:=wdM t (.ok at0)) (m:=mM t (.ok at0)) (z:=zsM t (.ok at0)) (f:=(zM t (.ok at0)).2.1) (frm:=(zM t (.ok at0)).2.2.2.2.1) (op:=opM t (.ok at0)) (cd:=cdM t (.ok at0)) hx hb.1 (zM t (.ok at0)).1 (zM t (.ok at0)).2.2.1 (zM t (.ok at0)).2.2.2.1 hM (fun h=>mY hq (by omega)) hl hin9
   rw[aj]
   refine Ret.bnd (Q:=fun y=>y=_) (Ret.of_eq e5 rfl) ?_
   rintro _ rfl
   exact Ret.some ⟨a5,c5,rfl,g5⟩
 rintro _ ⟨a5,c5,rfl,g5⟩
 rw[ag]
 dsimp only
 by_cases n5:c5≠0
 ·rw[iP n5,aH]
  rw[cF n5]at g5
  refine Ret.some ?_
  unfold mF
  rw[←g5]
  rfl
 obtain rfl:c5=0:=Decidable.not_not.1 n5
 rw[cZ]at g5
 have hin5:0≤a5∧a5≤t.length:=(wZ (rY hq) (mY hq)) a5 g5.symm
 rw[show aX (eqI 0 0)=false from rfl,aj,wb g5.symm,ck (by omega) (by omega)]
 exact Ret.some rfl
end
def Pos.Bd (p:Pos)(lo hi:Int):Prop:=∀a,p= .ok a→lo≤a∧a≤hi
section
variable {t:List UInt8}{lo hi:Int}
theorem Pos.Bd.adv {p:Pos}(h:p.Bd lo hi)(n:Int):Pos.Bd (Go.Den.G.adv t n p) (lo+n) (hi+n):=by
 intro a ha
 cases p with
 |error _=>cases ha
 |ok b=>
  obtain⟨h1,h2⟩:=h b rfl
  unfold Go.Den.G.adv exb at ha
  dsimp only at ha
  split at ha
  ·cases ha;omega
  ·cases ha
theorem Pos.Bd.mono {p:Pos}(h:p.Bd lo hi){lo' hi':Int}(h1:lo'≤lo)(h2:hi≤hi'):p.Bd lo' hi':=fun a ha=>by
 have:=h a ha;omega
theorem ya {p:Pos}{q:Int→Prop}[DecidablePred q]{k:Int}(h:p.Bd lo hi):Pos.Bd (exb p fun a=>if q a then .error k else .ok a) lo hi:=by
 intro a ha
 cases p with
 |error c=>cases ha
 |ok b=>
  unfold exb at ha
  dsimp only at ha
  split at ha
  ·cases ha
  ·exact h a (by cases ha;rfl)
theorem p1M_bd {q:Pos}(h:q.Bd lo hi):(p1M t q).Bd lo (hi+1):=by
 unfold p1M;split
 ·exact(h.adv 1).mono (by omega) (by omega)
 ·exact h.mono (by omega) (by omega)
theorem p3M_bd {q:Pos}(h:q.Bd lo hi):(p3M t q).Bd lo (hi+2):=by
 have h2:(p2M t q).Bd lo (hi+1):=ya (q:=fun _=>pkB t (p1M t q)∈pm) (p1M_bd h)
 unfold p3M;split
 ·exact(h2.adv 1).mono (by omega) (by omega)
 ·exact h2.mono (by omega) (by omega)
theorem p6M_bd {q:Pos}(h:q.Bd lo hi):(p6M t q).Bd (lo+1) (hi+4):=by
 refine ya (q:=fun _=>(zM t q).2.1=0) ?_
 have h3:=p3M_bd (t:=t) h
 unfold p5M;split
 ·exact((h3.adv 1).adv 1).mono (by omega) (by omega)
 ·exact(h3.adv 1).mono (by omega) (by omega)
theorem p9M_bd {q:Pos}(h:q.Bd lo hi):(p9M t q).Bd (lo+1) (hi+5):=by
 refine ya (q:=fun _=>pb (wdM t q) (zM t q).2.2.2.1 (zM t q).2.2.2.2.1 (opM t q) (zsM t q) (mM t q)≠0) (ya (q:=fun _=>ww (zM t q)=true∧opM t q=0) ?_)
 have h6:=p6M_bd (t:=t) h
 unfold p7M;split
 ·exact(h6.adv 1).mono (by omega) (by omega)
 ·exact h6.mono (by omega) (by omega)
theorem AP (mod rm b:Int):0≤kb mod rm b∧kb mod rm b≤4:=by unfold kb;(repeat' split)<;>decide
theorem wh {w:Int}{p:Pos}(h:p.Bd lo hi)(hw:0≤w∧w≤4):(AM t w p).Bd lo (hi+4):=by
 unfold AM;split
 ·exact h.mono (by omega) (by omega)
 ·exact(h.adv w).mono (by omega) (by omega)
theorem lF {x m z:Int}{p:Pos}(h:p.Bd lo hi):(plM t x m z p).2.Bd lo (hi+5):=by
 unfold plM Ag
 split
 ·exact h.mono (by omega) (by omega)
 ·split
  ·exact(wh (h.adv 1) (AP ..)).mono (by omega) (by omega)
  ·split
   ·exact(wh (w:=4) h (by decide)).mono (by omega) (by omega)
   ·exact(wh h (AP ..)).mono (by omega) (by omega)
theorem wy {z:Int}(h:eJ z):1≤im 4 z∧im 4 z≤4:=by
 unfold eJ at h
 rcases h with rfl|rfl|rfl|rfl<;>decide
theorem opsM_bd {f frm op z x b m:Int}{p:Pos}(h:p.Bd lo hi)(hz:(f=3∨f=5∨f=6∨f=8)→eJ z):(ny t f frm op z x b m p).2.2.Bd lo (hi+9):=by
 unfold ny
 by_cases f1:f=1
 ·rw[if_pos f1]
  exact(lF h).mono (by omega) (by omega)
 rw[if_neg f1]
 by_cases f2:f=2
 ·rw[if_pos f2]
  exact(lF h).mono (by omega) (by omega)
 rw[if_neg f2]
 by_cases f17:f=17
 ·rw[if_pos f17]
  exact(lF h).mono (by omega) (by omega)
 rw[if_neg f17]
 by_cases f3:f=3
 ·rw[if_pos f3]
  have:=wy (hz (.inl f3))
  exact(h.adv (im 4 z)).mono (by omega) (by omega)
 rw[if_neg f3]
 by_cases f4:f=4
 ·rw[if_pos f4]
  exact((lF h).adv 1).mono (by omega) (by omega)
 rw[if_neg f4]
 by_cases f5:f=5
 ·rw[if_pos f5]
  have:=wy (hz (.inr (.inl f5)))
  exact((lF h).adv (im 4 z)).mono (by omega) (by omega)
 rw[if_neg f5]
 by_cases f6:f=6
 ·rw[if_pos f6]
  unfold mm
  cases zW op
  ·rw[if_neg (by decide)]
   by_cases ho:op=10
   ·rw[if_pos ho]
    have:=wy (hz (.inr (.inr (.inl f6))))
    exact((lF h).adv (im 4 z)).mono (by omega) (by omega)
   ·rw[if_neg ho]
    exact(lF h).mono (by omega) (by omega)
  ·rw[if_pos rfl]
   exact(lF h).mono (by omega) (by omega)
 rw[if_neg f6]
 by_cases f7:f=7
 ·rw[if_pos f7]
  by_cases ho:op=29
  ·rw[if_pos ho]
   exact h.mono (by omega) (by omega)
  ·rw[if_neg ho]
   exact h.mono (by omega) (by omega)
 rw[if_neg f7]
 by_cases f8:f=8
 ·rw[if_pos f8]
  have:=sz18 (hz (.inr (.inr (.inr f8))))
  exact(h.adv z).mono (by omega) (by omega)
 rw[if_neg f8]
 by_cases f9:f=9
 ·rw[if_pos f9]
  exact(h.adv 1).mono (by omega) (by omega)
 rw[if_neg f9]
 by_cases f15:f=15
 ·rw[if_pos f15]
  exact(h.adv 1).mono (by omega) (by omega)
 rw[if_neg f15]
 by_cases f10:f=10∨f=16
 ·rw[if_pos f10]
  exact(h.adv 4).mono (by omega) (by omega)
 rw[if_neg f10]
 by_cases f11:f=11
 ·rw[if_pos f11]
  exact((lF h).adv 1).mono (by omega) (by omega)
 rw[if_neg f11]
 by_cases f12:f=12
 ·rw[if_pos f12]
  exact(lF h).mono (by omega) (by omega)
 rw[if_neg f12]
 by_cases f13:f=13
 ·rw[if_pos f13]
  exact(lF h).mono (by omega) (by omega)
 rw[if_neg f13]
 exact h.mono (by omega) (by omega)
theorem decLen {at0 e:Int}(h0:0≤at0)(h1:at0≤t.length)(h:(oM t (.ok at0)).2.2= .ok e):at0+1≤e∧e≤at0+14∧e≤t.length:=by
 have hq:Pos.In (.ok at0) t:=fun a ha=>by cases ha;exact⟨h0,h1⟩
 have hb:Pos.Bd (.ok at0) at0 at0:=fun a ha=>by cases ha;omega
 have:=opsM_bd (p9M_bd (t:=t) hb) (mY hq) e h
 have:=wZ (rY hq) (mY hq) e h
 omega
end
theorem xC (m:Nat):((2^m:Nat):Int)=(2:Int)^m:=by simp
theorem FB (m:Nat)(hm:m≤63)(v:Int): -(2:Int)^m≤sx m v∧sx m v<2^m:=by
 unfold sx
 have hp:(0:Int)<2^(m+1):=Int.pow_pos (by decide)
 have h1:=Int.emod_nonneg v (Int.ne_of_gt hp)
 have h2:=Int.emod_lt_of_pos v hp
 have hd:(2:Int)^(m+1)=2^m*2:=Int.pow_succ 2 m
 have hb:v%2^64/2^m%2=v%2^(m+1)/2^m:=by
  have h64:(2:Int)^(m+1)*2^(63-m)=2^64:=by rw[←Int.pow_add];congr 1;omega
  have h1:v%2^(m+1)=v%2^64%2^(m+1):=by
   rw[Int.emod_emod_of_dvd]
   exact⟨2^(63-m),h64.symm⟩
  rw[h1,Int.pow_succ 2 m]
  have hu:=bi v
  rw[←hu]
  rw[←xC m]
  have h2:((2^m:Nat):Int)*2=((2^m*2:Nat):Int):=by simp
  rw[h2]
  rw[←Int.natCast_ediv,←Int.natCast_emod,←Int.natCast_ediv,Nat.mod_mul_right_div_self]
  simp
 rw[hb]
 have hpm:(0:Int)<2^m:=Int.pow_pos (by decide)
 generalize v%2^(m+1)=r at*
 by_cases hs:(2:Int)^m≤r
 ·have hq:r/2^m=1:=by
   rw[Int.ediv_eq_iff_of_pos hpm];omega
  rw[hq,if_pos rfl];omega
 ·have hq:r/2^m=0:=Int.ediv_eq_zero_of_lt h1 (by omega)
  rw[hq,if_neg (by decide)];omega
theorem sx7_id {u:Int}(h0: -128≤u)(h1:u<128):sx 7 u=u:=by
 unfold sx;rw[show(2:Int)^(7+1)=256 from rfl,show(2:Int)^7=128 from rfl,show(2:Int)^64=18446744073709551616 from rfl];split<;>omega
theorem sx15_id {u:Int}(h0: -32768≤u)(h1:u<32768):sx 15 u=u:=by
 unfold sx;rw[show(2:Int)^(15+1)=65536 from rfl,show(2:Int)^15=32768 from rfl,show(2:Int)^64=18446744073709551616 from rfl];split<;>omega
theorem CV {u:Int}(h0: -2147483648≤u)(h1:u<2147483648):sx 31 u=u:=by
 unfold sx;rw[show(2:Int)^(31+1)=4294967296 from rfl,show(2:Int)^31=2147483648 from rfl,show(2:Int)^64=18446744073709551616 from rfl];split<;>omega
section
variable {t:List UInt8}
theorem Cr {w:Int}(hw:w=1∨w=2∨w=4)(p:Pos): -(2:Int)^(8*w-1).toNat≤rdS t w p∧rdS t w p<2^(8*w-1).toNat:=FB _ (by omega) _
theorem xd (p:Pos): -128≤rdS t 1 p∧rdS t 1 p<128:=Cr (.inl rfl) p
theorem rdS2_bd (p:Pos): -32768≤rdS t 2 p∧rdS t 2 p<32768:=Cr (.inr (.inl rfl)) p
theorem xe (p:Pos): -2147483648≤rdS t 4 p∧rdS t 4 p<2147483648:=Cr (.inr (.inr rfl)) p
theorem wt {u z:Int}(hz:eJ z):wq u z=true↔(z=1∧ -128≤u∧u<128)∨(z=2∧ -32768≤u∧u<32768)∨((z=4∨z=8)∧ -2147483648≤u∧u<2147483648):=by
 unfold wq fitsB
 rw[oF]
 have h7: -128≤sx 7 u∧sx 7 u<128:=FB 7 (by decide) u
 have h15: -32768≤sx 15 u∧sx 15 u<32768:=FB 15 (by decide) u
 have h31: -2147483648≤sx 31 u∧sx 31 u<2147483648:=FB 31 (by decide) u
 rcases hz with rfl|rfl|rfl|rfl
 ·show sx 7 u=u↔_
  constructor
  ·intro h;omega
  ·intro h;exact sx7_id (by omega) (by omega)
 ·show sx 15 u=u↔_
  constructor
  ·intro h;omega
  ·intro h;exact sx15_id (by omega) (by omega)
 ·show sx 31 u=u↔_
  constructor
  ·intro h;omega
  ·intro h;exact CV (by omega) (by omega)
 ·show sx 31 u=u↔_
  constructor
  ·intro h;omega
  ·intro h;exact CV (by omega) (by omega)
theorem mH {z:Int}(hz:eJ z)(p:Pos):wq (rdS t (im 4 z) p) z=true:=by
 rw[wt hz]
 have h1:=xd (t:=t) p
 have h2:=rdS2_bd (t:=t) p
 have h4:=xe (t:=t) p
 rcases hz with rfl|rfl|rfl|rfl
 ·exact .inl ⟨rfl,h1⟩
 ·exact .inr (.inl ⟨rfl,h2⟩)
 ·exact .inr (.inr ⟨.inl rfl,h4⟩)
 ·exact .inr (.inr ⟨.inr rfl,h4⟩)
theorem sI {z:Int}(hz:eJ z)(p:Pos):wq (rdS t 1 p) z=true:=by
 rw[wt hz]
 have h1:=xd (t:=t) p
 unfold eJ at hz
 omega
theorem rD {z:Int}(hz:eJ z):wq 0 z=true:=by
 rw[wt hz]
 unfold eJ at hz
 omega
def oOK (x z:Int)(o:Opd):Prop:=qx o z∧(x=0→¬ri o z)∧(x≠0→¬Dn o)
theorem wU {x n z:Int}(h0:0≤n)(h15:n≤15)(h7:x=0→n≤7):oOK x z (oX (jK x n z)):=by
 unfold oOK qx ri Dn opB Gi noP qF oX jK
 dsimp only
 split<;>refine⟨?_,?_,?_⟩<;>omega
theorem wS {x n z:Int}(h0:0≤n)(h15:n≤15)(h7:x=0→n≤7)(hz:z≠1∨n≤3):oOK x z (oX n):=by
 unfold oOK qx ri Dn opB Gi noP qF oX
 dsimp only
 refine⟨?_,?_,?_⟩<;>omega
theorem iT {x n z:Int}:oOK x z (uv n):=by
 unfold oOK qx ri Dn opB Gi noP qF uv Ah
 dsimp only
 refine⟨?_,?_,?_⟩<;>omega
theorem lC {x z:Int}:oOK x z noD:=by
 unfold oOK qx ri Dn opB Gi noP qF noD Ah
 dsimp only
 refine⟨?_,?_,?_⟩<;>omega
theorem wT {x z b i s d:Int}(h1:Ah 2 0 b i s d 0)(h2:x=0→(b≤7∨b=16)∧i≤7):oOK x z (memD b i s d):=by
 refine⟨.inr (.inl h1),fun hx hr=>?_,fun _ hn=>?_⟩
 ·have:=h2 hx
  clear h1
  unfold ri Gi memD at hr
  dsimp only at hr
  omega
 ·unfold Dn noP memD at hn
  dsimp only at hn
  omega
theorem AO {mod rm b:Int}(p:Pos): -2147483648≤Af t (kb mod rm b) p∧Af t (kb mod rm b) p≤2147483647:=by
 have h1:=xd (t:=t) p
 have h4:=xe (t:=t) p
 have hw:kb mod rm b=0∨kb mod rm b=1∨kb mod rm b=4:=by unfold kb;(repeat' split)<;>decide
 unfold Af
 rcases hw with h|h|h<;>rw[h]
 ·rw[if_pos rfl];omega
 ·rw[if_neg (by decide)];omega
 ·rw[if_neg (by decide)];omega
theorem Cm {b:Int}(h0:0≤b)(h1:b<256):(2:Int)^(b/64).toNat=1∨(2:Int)^(b/64).toNat=2∨(2:Int)^(b/64).toNat=4∨(2:Int)^(b/64).toNat=8:=by
 have:b/64=0∨b/64=1∨b/64=2∨b/64=3:=by omega
 rcases this with h|h|h|h<;>rw[h]<;>decide
theorem memM_ok {x mod rm z:Int}{p:Pos}(hp:p.In t)(hrm:0≤rm∧rm≤7):oOK x z (Ag t x mod rm p).1:=by
 have hb:=dp t p hp
 obtain⟨e0,e8,ez⟩:=jP (x:=x) (k:=0) (by decide)
 obtain⟨f0,f8,fz⟩:=jP (x:=x) (k:=1) (by decide)
 have e2:=pJ (x:=x) (k:=1) (by decide)
 have hpw:=Cm hb.1 hb.2
 unfold Ag
 split
 ·refine wT ?_ ?_
  ·have hd:=AO (t:=t) (mod:=mod) (rm:=rm) (b:=rdU t 1 p) (adv t 1 p)
   generalize Af t (kb mod rm (rdU t 1 p)) (adv t 1 p)=d at hd⊢
   generalize (2:Int)^(rdU t 1 p/64).toNat=s at hpw⊢
   unfold Ah
   split<;>split<;>omega
  ·intro h
   split<;>split<;>omega
 ·split
  ·refine wT ?_ (fun _=>by omega)
   have h4: -2147483648≤Af t 4 p∧Af t 4 p≤2147483647:=by
    have:=xe (t:=t) p
    unfold Af;rw[if_neg (by decide)];omega
   generalize Af t 4 p=d at h4⊢
   unfold Ah;omega
  ·refine wT ?_ (fun _=>by omega)
   have hd:=AO (t:=t) (mod:=mod) (rm:=rm) (b:=0) p
   generalize Af t (kb mod rm 0) p=d at hd⊢
   unfold Ah;omega
theorem plM_ok {x m z:Int}{p:Pos}(hp:p.In t):oOK x z (plM t x m z p).1:=by
 obtain⟨e0,e8,ez⟩:=jP (x:=x) (k:=0) (by decide)
 unfold plM
 split
 ·exact wU (by omega) (by omega) (by omega)
 ·exact memM_ok hp (by omega)
theorem yI (t:List UInt8)(x m z:Int)(p:Pos):((plM t x m z p).1.kind=1∨(plM t x m z p).1.kind=2)∧(plM t x m z p).1.imm=0∧(m/64≠3→(plM t x m z p).1.kind=2):=by
 unfold plM Ag
 split
 ·exact⟨.inl rfl,rfl,fun h=>absurd (by assumption) h⟩
 ·split
  ·exact⟨.inr rfl,rfl,fun _=>rfl⟩
  ·split
   ·exact⟨.inr rfl,rfl,fun _=>rfl⟩
   ·exact⟨.inr rfl,rfl,fun _=>rfl⟩
end
def zY (f op:Int)(by':Bool):Prop:=
 (f=1∧(1≤op∧op≤10∨op=28))∨(f=2∧(1≤op∧op≤9∨(op=17∨op=25∨op=36)∧by'=false))∨(f=3∧(1≤op∧op≤8∨op=10))∨(f=4∧1≤op∧op≤8)∨(f=5∧1≤op∧op≤9)
def zZ (f op:Int)(by':Bool)(frm:Int):Prop:=
 (f=17∧by'=false∧(op=26∧(frm=1∨frm=2)∨op=27∧(frm=1∨frm=2∨frm=4)))∨(f=6∧(10≤op∧op≤16∨op=18∨op=19∨29≤op∧op≤32∨op=35∧by'=true))∨(f=7∧(op=29∨op=30))∨(f=8∧op=9)
def z5 (f op:Int):Prop:=
 (f=9∧(op=32∨op=33))∨(f=15∧(op=29∨op=44))∨(f=10∧31≤op∧op≤33)∨(f=16∧op=29)∨((f=11∨f=12∨f=13)∧20≤op∧op≤24)
def z6 (f op:Int)(by':Bool):Prop:=
 f=14∧(op=34∨op=37∨op=38∨op=43∨(op=39∨op=40)∧by'=false∨(op=41∨op=42)∧by'=true)
instance (f op:Int) (b:Bool):Decidable (zY f op b):=by unfold zY;infer_instance
instance (f op:Int) (b:Bool) (r:Int):Decidable (zZ f op b r):=by unfold zZ;infer_instance
instance (f op:Int):Decidable (z5 f op):=by unfold z5;infer_instance
instance (f op:Int) (b:Bool):Decidable (z6 f op b):=by unfold z6;infer_instance
def tabB (f op:Int)(by':Bool)(frm:Int):Bool:=decide ((zY f op by'∨zZ f op by' frm∨z5 f op∨z6 f op by')∧(f≠17→frm=0))
def tabC (sec:Bool)(n:Nat):Bool:=
 decide ((shz sec n).2.1=0)||(if 0<(shz sec n).2.2.1 then(List.range 8).all fun d=>decide (grp (shz sec n).2.2.1.toNat d=0)||tabB (shz sec n).2.1 (grp (shz sec n).2.2.1.toNat d) (shz sec n).2.2.2.1 (shz sec n).2.2.2.2.1
  else tabB (shz sec n).2.1 (shz sec n).1 (shz sec n).2.2.2.1 (shz sec n).2.2.2.2.1)
theorem tab_F:∀n:Nat,n<256→tabC false n=true:=by decide +kernel
theorem tab_T:∀n:Nat,n<256→tabC true n=true:=by decide +kernel
theorem tab_all (sec:Bool){n:Nat}(h:n<256):tabC sec n=true:=by
 cases sec
 ·exact tab_F n h
 ·exact tab_T n h
section
variable {t:List UInt8}
theorem AT {p:Pos}{q:Int→Prop}[DecidablePred q]{k e:Int}(h:(exb p fun a=>if q a then .error k else .ok a:Except Int Int)= .ok e):p= .ok e∧¬q e:=by
 cases p with
 |error c=>cases h
 |ok b=>
  unfold exb at h
  dsimp only at h
  split at h
  ·cases h
  ·rename_i hn
   cases h;exact⟨rfl,hn⟩
theorem adv_ok {p:Pos}{n e:Int}(h:adv t n p= .ok e):∃b,p= .ok b∧b+n≤t.length∧e=b+n:=by
 cases p with
 |error c=>cases h
 |ok b=>
  unfold adv exb at h
  dsimp only at h
  split at h
  ·cases h;exact⟨b,rfl,by assumption,rfl⟩
  ·cases h
theorem AF {q:Pos}{e:Int}(hq:q.In t)(h:(oM t q).2.2= .ok e):
  tabB (zM t q).2.1 (opM t q) (zM t q).2.2.2.1 (zM t q).2.2.2.2.1=true∧pb (wdM t q) (zM t q).2.2.2.1 (zM t q).2.2.2.2.1 (opM t q) (zsM t q) (mM t q)=0:=by
 have hb:=jN hq
 have hm:=kT hq
 cases h9:p9M t q with
 |error c=>rw[show(oM t q).2.2= .error c from yD h9]at h;cases h
 |ok a9=>
  obtain⟨h8,hbad⟩:=AT (q:=fun _=>pb (wdM t q) (zM t q).2.2.2.1 (zM t q).2.2.2.2.1 (opM t q) (zsM t q) (mM t q)≠0) h9
  obtain⟨h7,hop⟩:=AT (q:=fun _=>ww (zM t q)=true∧opM t q=0) h8
  have h6:∃b,p6M t q= .ok b:=by
   unfold p7M at h7
   split at h7
   ·obtain⟨b,hb,_⟩:=adv_ok h7;exact⟨b,hb⟩
   ·exact⟨_,h7⟩
  obtain⟨b6,h6⟩:=h6
  obtain⟨_,hf⟩:=AT (q:=fun _=>(zM t q).2.1=0) h6
  refine⟨?_,Decidable.not_not.1 hbad⟩
  have ht:=tab_all (tP t q) (show(bM t q).toNat<256 by omega)
  unfold tabC at ht
  have hf':¬(shz (tP t q) (bM t q).toNat).2.1=0:=hf
  rw[decide_eq_false hf',Bool.false_or]at ht
  change (if 0<(zM t q).2.2.1 then _ else tabB (zM t q).2.1 (zM t q).1 (zM t q).2.2.2.1 (zM t q).2.2.2.2.1)=true at ht
  by_cases hg:0<(zM t q).2.2.1
  ·rw[if_pos hg]at ht
   have hgB:ww (zM t q)=true:=decide_eq_true hg
   have eo:opM t q=grp (zM t q).2.2.1.toNat (mM t q/8%8).toNat:=by unfold opM;rw[hgB,if_pos rfl]
   have:=List.all_eq_true.1 ht (mM t q/8%8).toNat (List.mem_range.2 (by omega))
   change (decide (grp (zM t q).2.2.1.toNat _=0)||tabB (zM t q).2.1 (grp (zM t q).2.2.1.toNat _) (zM t q).2.2.2.1 (zM t q).2.2.2.2.1)=true at this
   rw[←eo,decide_eq_false (fun g=>hop ⟨hgB,g⟩),Bool.false_or]at this
   exact this
  ·rw[if_neg hg]at ht
   have hgB:ww (zM t q)=false:=decide_eq_false hg
   have eo:opM t q=(zM t q).1:=by unfold opM;rw[hgB,if_neg (by decide)]
   rw[eo];exact ht
theorem szM_val (by' w:Bool)(op x:Int):(cE op=true→szM by' op w x=8)∧(cE op=false→dW op=true→szM by' op w x=0)∧(cE op=false→dW op=false→(by'=true→szM by' op w x=1)∧(by'=false→szM by' op w x=2∨szM by' op w x=4∨szM by' op w x=8∧x≠0)):=by
 unfold szM
 refine⟨fun h=>by rw[if_pos h],fun h g=>by rw[if_neg (by rw[h];decide),if_pos g],fun h g=>⟨fun k=>?_,fun k=>?_⟩⟩
 ·rw[if_neg (by rw[h];decide),if_neg (by rw[g];decide),if_pos k]
 ·rw[if_neg (by rw[h];decide),if_neg (by rw[g];decide),if_neg (by rw[k];decide)]
  split
  ·right;right;exact⟨rfl,by rintro rfl;omega⟩
  ·split
   ·exact .inl rfl
   ·exact .inr (.inl rfl)
def kOK (n:Nat)(kd ks:Int):Bool:=(prK n).any (vd kd ks)
theorem k_f1:∀n,n<45→(1≤n∧n≤10∨n=28)→kOK n 1 1=true∧kOK n 2 1=true:=by decide +kernel
theorem k_f2:∀n,n<45→(1≤n∧n≤9∨n=17∨n=36∨n=26∨n=27)→kOK n 1 1=true∧kOK n 1 2=true:=by decide +kernel
theorem k_lea:kOK 25 1 2=true:=by decide +kernel
theorem k_ri:∀n,n<45→(1≤n∧n≤10∨20≤n∧n≤24)→kOK n 1 3=true∧kOK n 2 3=true:=by decide +kernel
theorem k_sh:∀n,n<45→20≤n→n≤24→kOK n 1 1=true∧kOK n 2 1=true:=by decide +kernel
theorem k_r0:∀n,n<45→(n=11∨n=12∨n=18∨n=19∨n=30∨n=35)→kOK n 1 0=true∧kOK n 2 0=true:=by decide +kernel
theorem k_0r:∀n,n<45→(13≤n∧n≤16∨n=29∨n=31∨n=32)→kOK n 0 1=true∧kOK n 0 2=true:=by decide +kernel
theorem k_0i:∀n,n<45→(n=29∨n=31∨n=32∨n=33∨n=44)→kOK n 0 3=true:=by decide +kernel
theorem k_00:∀n,n<45→(n=34∨37≤n∧n≤43)→kOK n 0 0=true:=by decide +kernel
end
theorem rW {x:Ins}{n:Nat}(h:n≤8∨n=10):vS x n=wq x.src.imm x.size:=by unfold vS;rw[if_pos h]
theorem yz {x:Ins}:vS x 9=(decide (x.size=8∧x.dst.kind=1)||wq x.src.imm x.size):=by unfold vS;rw[if_neg (by decide),if_pos rfl]
theorem wR {x:Ins}{n:Nat}(h:20≤n∧n≤24):vS x n=decide (¬(x.src.kind=1∧x.src.reg≠1)∧0≤x.src.imm∧x.src.imm≤255):=by
 unfold vS;rw[if_neg (by omega),if_neg (by omega),if_pos h]
theorem numB_26 {x:Ins}:vS x 26=decide (x.frm=1∨x.frm=2∧2<x.size):=rfl
theorem numB_27 {x:Ins}:vS x 27=decide (x.frm=1∨x.frm=2∧2<x.size∨x.frm=4∧x.size=8):=rfl
theorem ol {x:Ins}{n:Nat}(h:n=29∨n=31∨n=32∨n=33):vS x n=wq x.src.imm 4:=by rcases h with rfl|rfl|rfl|rfl<;>rfl
theorem numB_44 {x:Ins}:vS x 44=decide (0≤x.src.imm∧x.src.imm≤255):=rfl
theorem oN {x:Ins}{n:Nat}(h:11≤n∧n≤19∨n=25∨n=28∨n=30∨34≤n∧n≤43):vS x n=true:=by
 unfold vS;rw[if_neg (by omega),if_neg (by omega),if_neg (by omega),if_neg (by omega),if_neg (by omega),if_neg (by omega),if_neg (by omega)]
structure SzV (z op:Int)(by':Bool)(x:Int):Prop where
 ve:29≤op∧op≤32→z=8
 vz:op=33∨op=34∨op=37∨op=38∨op=43∨op=44→z=0
 vb:¬(29≤op∧op≤34∨op=37∨op=38∨op=43∨op=44)→by'=true→z=1
 vn:¬(29≤op∧op≤34∨op=37∨op=38∨op=43∨op=44)→by'=false→z=2∨z=4∨z=8∧x≠0
theorem szV (by' w:Bool)(op x:Int):SzV (szM by' op w x) op by' x:=by
 obtain⟨h1,h2,h3⟩:=szM_val by' w op x
 have e8:cE op=true↔29≤op∧op≤32:=by unfold cE;rw[decide_eq_true_eq];omega
 have e0:dW op=true↔(op=33∨op=34∨op=37∨op=38∨op=43∨op=44):=by unfold dW;rw[decide_eq_true_eq]
 have n8:cE op=false↔¬(29≤op∧op≤32):=by rw[←e8,Bool.not_eq_true]
 have n0:dW op=false↔¬(op=33∨op=34∨op=37∨op=38∨op=43∨op=44):=by rw[←e0,Bool.not_eq_true]
 rw[e8]at h1
 rw[n8,e0]at h2
 rw[n8,n0]at h3
 refine⟨fun h=>h1 (by omega),fun h=>h2 (by omega) (by omega),fun h k=>?_,fun h k=>?_⟩
 ·exact(h3 (by omega) (by omega)).1 k
 ·exact(h3 (by omega) (by omega)).2 k
theorem sz_mem {f frm z x:Int}{by':Bool}{n:Nat}(h:tabB f n by' frm=true)(V:SzV z n by' x)(hn:1≤n)(hn2:n<45):z∈szL (szK n):=by
 have T:=(of_decide_eq_true h).1
 obtain⟨v1,v2,v3,v4⟩:=V
 unfold zY zZ z5 z6 at T
 unfold szK szL
 cases by' with
 |true=>
  have v3:=fun g=>v3 g rfl
  clear v4
  simp only[Bool.true_eq_false,and_false,false_and,or_false,and_true,false_or]at T
  by_cases c0:n≤16∨n=18∨n=19∨(20≤n∧n≤24)∨n=28
  ·rw[if_pos c0,if_pos rfl];simp only[List.mem_cons,List.not_mem_nil,or_false];omega
  rw[if_neg c0]
  by_cases c1:n=17∨n=25∨n=26∨n=27∨n=36∨n=39∨n=40
  ·omega
  rw[if_neg c1]
  by_cases c2:29≤n∧n≤32
  ·rw[if_pos c2,if_neg (by decide),if_neg (by decide),if_pos rfl];simp only[List.mem_cons,List.not_mem_nil,or_false];omega
  rw[if_neg c2]
  by_cases c3:n=35∨n=41∨n=42
  ·rw[if_pos c3,if_neg (by decide),if_neg (by decide),if_neg (by decide),if_pos rfl];simp only[List.mem_cons,List.not_mem_nil,or_false];omega
  rw[if_neg c3,if_neg (by decide),if_neg (by decide),if_neg (by decide),if_neg (by decide)];simp only[List.mem_cons,List.not_mem_nil,or_false];omega
 |false=>
  have v4:=fun g=>v4 g rfl
  clear v3
  simp only[Bool.false_eq_true,and_false,or_false,and_true,true_and]at T
  by_cases c0:n≤16∨n=18∨n=19∨(20≤n∧n≤24)∨n=28
  ·rw[if_pos c0,if_pos rfl];simp only[List.mem_cons,List.not_mem_nil,or_false];omega
  rw[if_neg c0]
  by_cases c1:n=17∨n=25∨n=26∨n=27∨n=36∨n=39∨n=40
  ·rw[if_pos c1,if_neg (by decide),if_pos rfl];simp only[List.mem_cons,List.not_mem_nil,or_false];omega
  rw[if_neg c1]
  by_cases c2:29≤n∧n≤32
  ·rw[if_pos c2,if_neg (by decide),if_neg (by decide),if_pos rfl];simp only[List.mem_cons,List.not_mem_nil,or_false];omega
  rw[if_neg c2]
  by_cases c3:n=35∨n=41∨n=42
  ·omega
  rw[if_neg c3,if_neg (by decide),if_neg (by decide),if_neg (by decide),if_neg (by decide)];simp only[List.mem_cons,List.not_mem_nil,or_false];omega
theorem insP_of {op z cd frm len x:Int}{D S:Opd}{n:Nat}(hlen:0≤len∧len≤15)(hcd:0≤cd∧cd≤15)(hcz:(n=33∨n=35∨n=36)∨cd=0)(hfrm:(n=26∨n=27)∨frm=0)(hsz:z∈szL (szK n))
  (hk:kOK n D.kind S.kind=true) (hnum:vS ⟨op,z,cd,frm,D,S,len⟩ n=true) (hD:oOK x z D) (hS:oOK x (sSz ⟨op,z,cd,frm,D,S,len⟩ n) S) (hx:x=0→z≠8∨29≤n∧n≤32):F2 ⟨op,z,cd,frm,D,S,len⟩ n:=by
 refine⟨hlen.1,hlen.2,?_,hfrm,hcz,hcd.1,hcd.2,hD.1,hS.1,?_⟩
 ·unfold shB
  rw[hnum,decide_eq_true hsz]
  show(true&&(kOK n D.kind S.kind&&true))=true
  rw[hk];rfl
 ·by_cases h0:x=0
  ·exact .inr ⟨hD.2.1 h0,hS.2.1 h0,hx h0⟩
  ·exact .inl fun g=>g.elim (hD.2.2 h0) (hS.2.2 h0)
section
variable {t:List UInt8}
theorem Av {w by':Bool}{frm op z m:Int}(h:pb w by' frm op z m=0):(frm=4→z=8)∧((frm=1∨frm=2)→frm<z)∧¬(op=25∧m/64=3):=by
 unfold pb at h
 split at h
 ·omega
 ·rename_i g
  split at h
  ·omega
  ·rename_i g2
   refine⟨fun h4=>?_,fun h4=>?_,g2⟩
   ·by_cases h8:z=8
    ·exact h8
    ·exact absurd (.inr (.inl ⟨h4,h8⟩)) g
   ·by_cases h8:z≤frm
    ·exact absurd (.inr (.inr ⟨h4,h8⟩)) g
    ·omega
theorem Cv {x:Ins}{n:Nat}(h:¬(20≤n∧n≤24))(hf:x.frm=0):sSz x n=x.size:=by unfold sSz;rw[if_neg h,hf,if_neg (by decide)]
theorem sSz_f {x:Ins}{n:Nat}(h:¬(20≤n∧n≤24))(hf:0<x.frm):sSz x n=x.frm:=by unfold sSz;rw[if_neg h,if_pos hf]
theorem sSz_8 {x:Ins}{n:Nat}(h:20≤n∧n≤24):sSz x n=8:=by unfold sSz;rw[if_pos h]
theorem Fq {z x op:Int}{by':Bool}(V:SzV z op by' x)(h:¬(op=33∨op=34∨op=37∨op=38∨op=43∨op=44)):eJ z:=by
 obtain⟨v1,_,v3,v4⟩:=V
 unfold eJ
 by_cases h8:29≤op∧op≤32
 ·have:=v1 h8;omega
 ·cases hb:by' with
  |true=>have:=v3 (by omega) hb;omega
  |false=>have:=v4 (by omega) hb;omega
theorem EF {f frm z x b m cd len:Int}{w by':Bool}{n:Nat}{p:Pos}(hp:p.In t)(hn:1≤n)(hn2:n<45)(hT:tabB f n by' frm=true)(V:SzV z n by' x)(hm0:0≤m)(hm:m<256)
  (hbad:pb w by' frm n z m=0) (hlen:0≤len∧len≤15) (hcd:0≤cd∧cd≤15) (hcz:(n=33∨n=35∨n=36)∨cd=0):
  F2 ⟨n,z,cd,frm,(ny t f frm n z x b m p).1,(ny t f frm n z x b m p).2.1,len⟩ n:=by
 have hsz:=sz_mem hT V hn hn2
 obtain⟨T,hfr⟩:=of_decide_eq_true hT
 obtain⟨b4,b12,blea⟩:=Av hbad
 obtain⟨e0,e8,ez⟩:=jP (x:=x) (k:=0) (by decide)
 obtain⟨g0,g8,gz⟩:=jP (x:=x) (k:=2) (by decide)
 have hrg:∀z,oOK x z (oX (jK x (m/8%8+iI x 2) z)):=fun z=>wU (by omega) (by omega) (by omega)
 have hpl:∀z,oOK x z (plM t x m z p).1:=fun z=>plM_ok hp
 have hpk:=fun z=>yI t x m z p
 have hx8:x=0→z≠8∨29≤n∧n≤32:=fun h0=>by
  obtain⟨v1,v2,v3,v4⟩:=V
  by_cases h8:29≤n∧n≤32
  ·exact .inr h8
  ·left
   by_cases hz:(n:Int)=33∨(n:Int)=34∨(n:Int)=37∨(n:Int)=38∨(n:Int)=43∨(n:Int)=44
   ·have:=v2 hz;omega
   ·cases hby:by' with
    |true=>have:=v3 (by omega) hby;omega
    |false=>have:=v4 (by omega) hby;omega
 have hP:¬(n=33∨n=34∨n=37∨n=38∨n=43∨n=44)→eJ z:=fun h=>Fq V (by omega)
 have f26:f≠17→(n=26∨n=27)∨frm=0:=fun h=> .inr (hfr h)
 have key:∀(D S:Opd) (q:Pos),ny t f frm n z x b m p=(D,S,q)→kOK n D.kind S.kind=true→vS ⟨n,z,cd,frm,D,S,len⟩ n=true→oOK x z D→oOK x (sSz ⟨n,z,cd,frm,D,S,len⟩ n) S→((n=26∨n=27)∨frm=0)→
   F2 ⟨n,z,cd,frm,(ny t f frm n z x b m p).1,(ny t f frm n z x b m p).2.1,len⟩ n:=fun D S q e k1 k2 k3 k4 k5=>by
  rw[e]
  exact insP_of hlen hcd hcz k5 hsz k1 k2 k3 k4 hx8
 rcases T with T|T|T|T
 ·unfold zY at T
  rcases T with ⟨rfl,T⟩|⟨rfl,T⟩|⟨rfl,T⟩|⟨rfl,T⟩|⟨rfl,T⟩
  ·have hk:=k_f1 n hn2 (by omega)
   refine key _ _ _ rfl ?_ ?_ (hpl z) (by rw[Cv (by omega) (hfr (by decide))];exact hrg z) (f26 (by decide))
   ·rcases(hpk z).1 with e|e<;>rw[e]
    ·exact hk.1
    ·exact hk.2
   ·by_cases h9:n=9
    ·subst h9;rw[yz];simp[oX,rD (hP (by decide))]
    ·by_cases h28:n=28
     ·exact oN (by omega)
     ·rw[rW (by omega)];exact rD (hP (by omega))
  ·by_cases hl:n=25
   ·subst hl
    have hk2:=(hpk z).2.2 (fun g=>blea ⟨rfl,g⟩)
    refine key _ _ _ rfl ?_ (oN (by omega)) (hrg z) (by rw[Cv (by omega) (hfr (by decide))];exact hpl z) (f26 (by decide))
    rw[hk2];exact k_lea
   ·have hk:=k_f2 n hn2 (by omega)
    refine key _ _ _ rfl ?_ ?_ (hrg z) (by rw[Cv (by omega) (hfr (by decide))];exact hpl z) (f26 (by decide))
    ·rcases(hpk z).1 with e|e<;>rw[e]
     ·exact hk.1
     ·exact hk.2
    ·by_cases h9:n=9
     ·subst h9;rw[yz,(hpk z).2.1,rD (hP (by decide)),Bool.or_true]
     ·by_cases h8:n≤8
      ·rw[rW (.inl h8),(hpk z).2.1];exact rD (hP (by omega))
      ·by_cases h17:n=17
       ·exact oN (by omega)
       ·have:n=36:=by omega
        exact oN (by omega)
  ·have hk:=k_ri n hn2 (by omega)
   refine key _ _ _ rfl hk.1 ?_ (wS (by omega) (by omega) (by omega) (.inr (by decide))) iT (f26 (by decide))
   rw[rW (by omega)];exact mH (hP (by omega)) _
  ·have hk:=k_ri n hn2 (by omega)
   refine key _ _ _ rfl ?_ ?_ (hpl z) iT (f26 (by decide))
   ·rcases(hpk z).1 with e|e<;>rw[e]
    ·exact hk.1
    ·exact hk.2
   ·rw[rW (by omega)];exact sI (hP (by omega)) _
  ·have hk:=k_ri n hn2 (by omega)
   refine key _ _ _ rfl ?_ ?_ (hpl z) iT (f26 (by decide))
   ·rcases(hpk z).1 with e|e<;>rw[e]
    ·exact hk.1
    ·exact hk.2
   ·by_cases h9:n=9
    ·subst h9
     rw[yz]
     show(_||wq (rdS t (im 4 z) _) z)=true
     rw[mH (hP (by decide)),Bool.or_true]
    ·rw[rW (by omega)];exact mH (hP (by omega)) _
 ·unfold zZ at T
  rcases T with ⟨rfl,hby,T⟩|⟨rfl,T⟩|⟨rfl,T⟩|⟨rfl,T⟩
  ·have hk:=k_f2 n hn2 (by omega)
   refine key _ _ _ rfl ?_ ?_ (hrg z) (by rw[sSz_f (by omega) (show 0<frm by omega)];exact hpl frm) (.inl (by omega))
   ·rcases(hpk frm).1 with e|e<;>rw[e]
    ·exact hk.1
    ·exact hk.2
   ·by_cases h26:n=26
    ·subst h26;rw[numB_26];exact decide_eq_true (by dsimp only;omega)
    ·obtain rfl:n=27:=by omega
     rw[numB_27];exact decide_eq_true (by dsimp only;omega)
  ·by_cases hs:zW n=true
   ·have hs2:=of_decide_eq_true hs
    have hk:=k_0r n hn2 (by omega)
    refine key _ _ (plM t x m z p).2 (show mm t n z (plM t x m z p)=_ by unfold mm;rw[if_pos hs]) ?_ ?_ lC (by rw[Cv (by omega) (hfr (by decide))];exact hpl z) (f26 (by decide))
    ·rcases(hpk z).1 with e|e<;>rw[e]
     ·exact hk.1
     ·exact hk.2
    ·by_cases h16:n≤16
     ·exact oN (by omega)
     ·rw[ol (by omega),(hpk z).2.1];exact rD (.inr (.inr (.inl rfl)))
   ·have hs2:=of_decide_eq_false (by rw[Bool.not_eq_true]at hs;exact hs)
    by_cases h10:n=10
    ·subst h10
     have hk:=k_ri 10 hn2 (by omega)
     refine key _ _ _ (show mm t 10 z (plM t x m z p)=(_,uv (rdS t (im 4 z) (plM t x m z p).2),adv t (im 4 z) (plM t x m z p).2)from rfl) ?_ ?_ (hpl z) iT (f26 (by decide))
     ·rcases(hpk z).1 with e|e<;>rw[e]
      ·exact hk.1
      ·exact hk.2
     ·rw[rW (by omega)];exact mH (hP (by omega)) _
    ·have hk:=k_r0 n hn2 (by omega)
     refine key _ _ (plM t x m z p).2 (show mm t n z (plM t x m z p)=_ by unfold mm;rw[if_neg hs,if_neg (by omega)]) ?_ (oN (by omega)) (hpl z) lC (f26 (by decide))
     rcases(hpk z).1 with e|e<;>rw[e]
     ·exact hk.1
     ·exact hk.2
  ·have z8:z=8:=V.ve (by omega)
   have hr:oOK x z (oX (b%8+iI x 0)):=wS (by omega) (by omega) (by omega) (.inl (by omega))
   by_cases h29:n=29
   ·subst h29
    refine key _ _ p rfl (k_0r 29 (by decide) (by decide)).1 (by rw[ol (by omega)];exact rD (.inr (.inr (.inl rfl)))) lC (by rw[Cv (by omega) (hfr (by decide))];exact hr) (f26 (by decide))
   ·obtain rfl:n=30:=by omega
    exact key _ _ p rfl (k_r0 30 (by decide) (by decide)).1 (oN (by omega)) hr lC (f26 (by decide))
  ·obtain rfl:n=9:=by omega
   refine key _ _ _ rfl (k_ri 9 (by decide) (by decide)).1 ?_ (wU (by omega) (by omega) (by omega)) iT (f26 (by decide))
   rw[yz]
   by_cases z8:z=8
   ·rw[Bool.or_eq_true];exact .inl (decide_eq_true ⟨z8,rfl⟩)
   ·show(_||wq (rdS t z p) z)=true
    have e:im 4 z=z:=by have:=hP (by decide);unfold eJ at this;rcases this with rfl|rfl|rfl|rfl<;>first|rfl|exact absurd rfl z8
    have:=mH (t:=t) (hP (by decide)) p
    rw[e]at this
    rw[this,Bool.or_true]
 ·unfold z5 at T
  rcases T with ⟨rfl,T⟩|⟨rfl,T⟩|⟨rfl,T⟩|⟨rfl,T⟩|⟨T',T⟩
  ·refine key _ _ _ rfl (k_0i n hn2 (by omega)) ?_ lC iT (f26 (by decide))
   rw[ol (by omega)];exact sI (.inr (.inr (.inl rfl))) _
  ·by_cases h44:n=44
   ·subst h44
    have hr:=dp t p hp
    refine key _ _ _ rfl (k_0i 44 hn2 (by omega)) ?_ lC iT (f26 (by decide))
    rw[numB_44];exact decide_eq_true (by show 0≤rdU t 1 p∧rdU t 1 p≤255;omega)
   ·obtain rfl:n=29:=by omega
    refine key _ _ _ rfl (k_0i 29 hn2 (by omega)) ?_ lC iT (f26 (by decide))
    rw[ol (by omega)];exact sI (.inr (.inr (.inl rfl))) _
  ·refine key _ _ _ rfl (k_0i n hn2 (by omega)) ?_ lC iT (f26 (by decide))
   rw[ol (by omega)];exact mH (z:=4) (.inr (.inr (.inl rfl))) _
  ·refine key _ _ _ rfl (k_0i n hn2 (by omega)) ?_ lC iT (f26 (by decide))
   rw[ol (by omega)];exact mH (z:=4) (.inr (.inr (.inl rfl))) _
  ·have hk:=k_ri n hn2 (by omega)
   have hkr:=k_sh n hn2 (by omega) (by omega)
   rcases T' with rfl|rfl|rfl
   ·have hr:=dp t (plM t x m z p).2 (iM hp)
    refine key _ _ _ rfl ?_ ?_ (hpl z) iT (f26 (by decide))
    ·rcases(hpk z).1 with e|e<;>rw[e]
     ·exact hk.1
     ·exact hk.2
    ·rw[wR (by omega)]
     refine decide_eq_true ⟨fun g=>?_,?_⟩
     ·exact absurd g.1 (by show ¬(3:Int)=1;decide)
     ·show 0≤rdU t 1 _∧rdU t 1 _≤255;omega
   ·refine key _ _ _ rfl ?_ ?_ (hpl z) iT (f26 (by decide))
    ·rcases(hpk z).1 with e|e<;>rw[e]
     ·exact hk.1
     ·exact hk.2
    ·rw[wR (by omega)]
     exact decide_eq_true ⟨fun g=>absurd g.1 (by show ¬(3:Int)=1;decide),by show(0:Int)≤1∧(1:Int)≤255;decide⟩
   ·refine key _ _ _ rfl ?_ ?_ (hpl z) (by rw[sSz_8 (by omega)];exact wS (by decide) (by decide) (by omega) (.inl (by decide))) (f26 (by decide))
    ·rcases(hpk z).1 with e|e<;>rw[e]
     ·exact hkr.1
     ·exact hkr.2
    ·rw[wR (by omega)]
     exact decide_eq_true ⟨fun g=>absurd rfl g.2,by show(0:Int)≤0∧(0:Int)≤255;decide⟩
 ·unfold z6 at T
  obtain⟨rfl,T⟩:=T
  exact key _ _ p rfl (k_00 n hn2 (by omega)) (oN (by omega)) lC lC (f26 (by decide))
theorem DH {at0 e:Int}(h0:0≤at0)(h1:at0≤t.length)(h:(oM t (.ok at0)).2.2= .ok e):
  ∃n:Nat,1≤n∧n<45∧(mF t at0).1.op=n∧F2 (mF t at0).1 n∧(mF t at0).2=0∧(mF t at0).1.len=e-at0∧1≤e-at0∧e≤t.length:=by
 have hq:Pos.In (.ok at0) t:=fun a ha=>by cases ha;exact⟨h0,h1⟩
 obtain⟨hT,hbad⟩:=AF hq h
 have ho:=uX hq
 have hb:=jN hq
 have hm:=kT hq
 have hl:=decLen h0 h1 h
 obtain⟨n,hn⟩:=Int.eq_ofNat_of_zero_le ho.1
 have hT1:=(of_decide_eq_true hT).1
 have hn1:1≤n:=by
  unfold zY zZ z5 z6 at hT1
  omega
 rw[wb h]
 refine⟨n,hn1,by omega,hn,?_,rfl,rfl,by omega,hl.2.2⟩
 have hp9:(p9M t (.ok at0)).In t:=rY hq
 unfold oM
 rw[hn]at hT hbad⊢
 refine EF hp9 hn1 (by omega) hT ?_ hm.1 hm.2 hbad (by omega) ?_ ?_
 ·unfold zsM;rw[hn];exact szV ..
 ·unfold cdM;split<;>omega
 ·unfold cdM;rw[hn];split<;>omega
def Ne0 (p:Pos):Prop:=∀c,p= .error c→c≠0
theorem iG {n:Int}{p:Pos}(h:Ne0 p):Ne0 (adv t n p):=fun c hc=>by
 cases p with
 |error k=>cases hc;exact h _ rfl
 |ok b=>
  unfold adv exb at hc
  dsimp only at hc
  split at hc
  ·cases hc
  ·cases hc;decide
theorem yc {p:Pos}{q:Int→Prop}[DecidablePred q]{k:Int}(h:Ne0 p)(hk:(∃a,q a)→k≠0):Ne0 (exb p fun a=>if q a then .error k else .ok a):=fun c hc=>by
 cases p with
 |error k=>cases hc;exact h _ rfl
 |ok b=>
  unfold exb at hc
  dsimp only at hc
  split at hc
  ·rename_i g;cases hc;exact hk ⟨b,g⟩
  ·cases hc
theorem wj {w:Int}{p:Pos}(h:Ne0 p):Ne0 (AM t w p):=by
 unfold AM;split
 ·exact h
 ·exact iG h
theorem lG {x m z:Int}{p:Pos}(h:Ne0 p):Ne0 (plM t x m z p).2:=by
 unfold plM Ag
 split
 ·exact h
 ·split
  ·exact wj (iG h)
  ·split
   ·exact wj (w:=4) h
   ·exact wj h
theorem opsM_ne {f frm op z x b m:Int}{p:Pos}(h:Ne0 p):Ne0 (ny t f frm op z x b m p).2.2:=by
 unfold ny
 by_cases f1:f=1
 ·rw[if_pos f1]
  exact lG h
 rw[if_neg f1]
 by_cases f2:f=2
 ·rw[if_pos f2]
  exact lG h
 rw[if_neg f2]
 by_cases f17:f=17
 ·rw[if_pos f17]
  exact lG h
 rw[if_neg f17]
 by_cases f3:f=3
 ·rw[if_pos f3]
  exact iG h
 rw[if_neg f3]
 by_cases f4:f=4
 ·rw[if_pos f4]
  exact iG (lG h)
 rw[if_neg f4]
 by_cases f5:f=5
 ·rw[if_pos f5]
  exact iG (lG h)
 rw[if_neg f5]
 by_cases f6:f=6
 ·rw[if_pos f6]
  unfold mm
  cases zW op
  ·rw[if_neg (by decide)]
   by_cases ho:op=10
   ·rw[if_pos ho]
    exact iG (lG h)
   ·rw[if_neg ho]
    exact lG h
  ·rw[if_pos rfl]
   exact lG h
 rw[if_neg f6]
 by_cases f7:f=7
 ·rw[if_pos f7]
  by_cases ho:op=29
  ·rw[if_pos ho]
   exact h
  ·rw[if_neg ho]
   exact h
 rw[if_neg f7]
 by_cases f8:f=8
 ·rw[if_pos f8]
  exact iG h
 rw[if_neg f8]
 by_cases f9:f=9
 ·rw[if_pos f9]
  exact iG h
 rw[if_neg f9]
 by_cases f15:f=15
 ·rw[if_pos f15]
  exact iG h
 rw[if_neg f15]
 by_cases f10:f=10∨f=16
 ·rw[if_pos f10]
  exact iG h
 rw[if_neg f10]
 by_cases f11:f=11
 ·rw[if_pos f11]
  exact iG (lG h)
 rw[if_neg f11]
 by_cases f12:f=12
 ·rw[if_pos f12]
  exact lG h
 rw[if_neg f12]
 by_cases f13:f=13
 ·rw[if_pos f13]
  exact lG h
 rw[if_neg f13]
 exact h
theorem p9_ne {q:Pos}(h:Ne0 q):Ne0 (p9M t q):=by
 refine yc (q:=fun _=>pb (wdM t q) (zM t q).2.2.2.1 (zM t q).2.2.2.2.1 (opM t q) (zsM t q) (mM t q)≠0) (yc (q:=fun _=>ww (zM t q)=true∧opM t q=0) ?_ (fun _=>by decide)) (fun⟨_,g⟩=>g)
 have h1:Ne0 (p1M t q):=by unfold p1M;split;exact iG h;exact h
 have h2:Ne0 (p2M t q):=yc (q:=fun _=>pkB t (p1M t q)∈pm) h1 (fun _=>by decide)
 have h3:Ne0 (p3M t q):=by unfold p3M;split;exact iG h2;exact h2
 have h5:Ne0 (p5M t q):=by unfold p5M;split;exact iG (iG h3);exact iG h3
 have h6:Ne0 (p6M t q):=yc (q:=fun _=>(zM t q).2.1=0) h5 (fun _=>by decide)
 unfold p7M;split;exact iG h6;exact h6
theorem DG {at0:Int}(h0:0≤at0)(h1:at0≤t.length):((∃n:Nat,1≤n∧n<45∧(mF t at0).1.op=n∧F2 (mF t at0).1 n)∧(mF t at0).2=0∧1≤(mF t at0).1.len∧at0+(mF t at0).1.len≤t.length)∨((mF t at0).1=ss∧(mF t at0).2≠0):=by
 cases h:(oM t (.ok at0)).2.2 with
 |ok e=>
  obtain⟨n,a1,a2,a3,a4,a5,a6,a7,a8⟩:=DH h0 h1 h
  exact .inl ⟨⟨n,a1,a2,a3,a4⟩,a5,by omega,by omega⟩
 |error c=>
  have hne:c≠0:=opsM_ne (p9_ne (t:=t) (q:= .ok at0) (fun c hc=>by cases hc)) c h
  have e:mF t at0=(ss,c):=by unfold mF;rw[h]
  rw[e]
  exact .inr ⟨rfl,hne⟩
end
section
variable {t:List UInt8}
theorem rdU_I64 (n:Int)(p:Pos):I64 (rdU t n p):=by
 unfold rdU
 cases p with
 |error _=>show I64 0;decide
 |ok a=>
  dsimp only
  split
  ·exact Ek t a n
  ·decide
theorem rdS_I64 (n:Int)(h:n≤8)(p:Pos):I64 (rdS t n p):=gy _ (by omega) _
theorem EE {f frm op z x b m:Int}{p:Pos}(hz:z≤8):I64 (ny t f frm op z x b m p).1.imm∧I64 (ny t f frm op z x b m p).2.1.imm:=by
 have i0:I64 0:=by decide
 have pl:∀z,I64 (plM t x m z p).1.imm:=fun z=>by rw[(yI t x m z p).2.1];decide
 have h4:im 4 z≤8:=by unfold im;split<;>omega
 have rs:∀(n:Int),n≤8→∀q,I64 (rdS t n q):=fun n h q=>rdS_I64 n h q
 have ru:∀q,I64 (rdU t 1 q):=rdU_I64 1
 unfold ny
 by_cases f1:f=1
 ·rw[if_pos f1]
  exact⟨(pl z),i0⟩
 rw[if_neg f1]
 by_cases f2:f=2
 ·rw[if_pos f2]
  exact⟨i0,(pl z)⟩
 rw[if_neg f2]
 by_cases f17:f=17
 ·rw[if_pos f17]
  exact⟨i0,(pl frm)⟩
 rw[if_neg f17]
 by_cases f3:f=3
 ·rw[if_pos f3]
  exact⟨i0,rs _ (by omega) _⟩
 rw[if_neg f3]
 by_cases f4:f=4
 ·rw[if_pos f4]
  exact⟨(pl z),rs _ (by omega) _⟩
 rw[if_neg f4]
 by_cases f5:f=5
 ·rw[if_pos f5]
  exact⟨(pl z),rs _ (by omega) _⟩
 rw[if_neg f5]
 by_cases f6:f=6
 ·rw[if_pos f6]
  unfold mm
  cases zW op
  ·rw[if_neg (by decide)]
   by_cases ho:op=10
   ·rw[if_pos ho]
    exact⟨(pl z),rs _ (by omega) _⟩
   ·rw[if_neg ho]
    exact⟨(pl z),i0⟩
  ·rw[if_pos rfl]
   exact⟨i0,(pl z)⟩
 rw[if_neg f6]
 by_cases f7:f=7
 ·rw[if_pos f7]
  by_cases ho:op=29
  ·rw[if_pos ho]
   exact⟨i0,i0⟩
  ·rw[if_neg ho]
   exact⟨i0,i0⟩
 rw[if_neg f7]
 by_cases f8:f=8
 ·rw[if_pos f8]
  exact⟨i0,rs _ (by omega) _⟩
 rw[if_neg f8]
 by_cases f9:f=9
 ·rw[if_pos f9]
  exact⟨i0,rs _ (by omega) _⟩
 rw[if_neg f9]
 by_cases f15:f=15
 ·rw[if_pos f15]
  refine⟨i0,?_⟩
  show I64 (if op=44 then rdU t 1 p else rdS t 1 p)
  split
  ·exact ru _
  ·exact rs _ (by omega) _
 rw[if_neg f15]
 by_cases f10:f=10∨f=16
 ·rw[if_pos f10]
  exact⟨i0,rs _ (by omega) _⟩
 rw[if_neg f10]
 by_cases f11:f=11
 ·rw[if_pos f11]
  exact⟨(pl z),ru _⟩
 rw[if_neg f11]
 by_cases f12:f=12
 ·rw[if_pos f12]
  exact⟨(pl z),by show I64 1;decide⟩
 rw[if_neg f12]
 by_cases f13:f=13
 ·rw[if_pos f13]
  exact⟨(pl z),i0⟩
 rw[if_neg f13]
 exact⟨i0,i0⟩
theorem dec_imm (at0:Int):I64 (mF t at0).1.dst.imm∧I64 (mF t at0).1.src.imm:=by
 have hz:zsM t (.ok at0)≤8:=by
  unfold zsM szM
  (repeat' split)<;>decide
 have h:=EE (t:=t) (f:=(zM t (.ok at0)).2.1) (frm:=(zM t (.ok at0)).2.2.2.2.1) (op:=opM t (.ok at0)) (x:=xM t (.ok at0)) (b:=bM t (.ok at0)) (m:=mM t (.ok at0)) (p:=p9M t (.ok at0)) hz
 unfold mF
 split
 ·exact h
 ·exact⟨(by decide:I64 0),(by decide:I64 0)⟩
end
noncomputable section
theorem iterP {σ α β:Type}{f:(σ→Option α)→σ→Option α}{g:(σ→Option β)→σ→Option β}(I:σ→Prop)(μ:σ→Nat)(R:Option α→Option β→Prop)
  (h:∀x r1 r2,I x→(∀y,I y→μ y<μ x→R (r1 y) (r2 y))→R (f r1 x) (g r2 x)):∀(n:Nat) (x:σ),I x→μ x<n→R (iter n f x) (iter n g x)
 |0,x,_,hm=>absurd hm (Nat.not_lt_zero _)
 |n+1,x,hI,hm=>h x (iter n f) (iter n g) hI fun y hy hlt=>iterP I μ R h n y hy (by omega)
theorem iterQ {σ τ α β:Type}{f:(σ→Option α)→σ→Option α}{g:(τ→Option β)→τ→Option β}(I:σ→τ→Prop)(μ:σ→Nat)(R:Option α→Option β→Prop)
  (h:∀x y r1 r2,I x y→(∀a b,I a b→μ a<μ x→R (r1 a) (r2 b))→R (f r1 x) (g r2 y)):∀(n:Nat) (x:σ) (y:τ),I x y→μ x<n→R (iter n f x) (iter n g y)
 |0,x,_,_,hm=>absurd hm (Nat.not_lt_zero _)
 |n+1,x,y,hI,hm=>h x y (iter n f) (iter n g) hI fun a b hy hlt=>iterQ I μ R h n a b hy (by omega)
theorem AX {m:List Page}(hm:MemR m){a p:Int}(h:dy m a p 1 0=0):¬fnd m a<0:=by
 have:=ll hm 1 0 h 0 (Nat.le_refl 0) (by omega)
 rwa [show a+((0:Nat):Int)=a by omega]at this
theorem fnd_lo {m:List Page}(hm:MemR m){a:Int}(h:¬fnd m a<0):0≤a∧a≤65535:=by
 rcases l5 hm a with h0|⟨i,hi,h0,b1,b2,r0,r1,_⟩
 ·rw[h0]at h;exact absurd (by decide) h
 ·exact⟨r0,r1⟩
theorem zi {m:List Page}(hT:MemT m){a:Int}(ha:I64 a):
  ∃(t:List UInt8) (k:Int),t.length≤15∧fp (((m,()),(a,())),())=some ((t,(k,())),())∧fP (((m,()),(a,())),())=some ((t,(k,())),()):=by
 have hm:=hT.r
 have hl:=hT.len
 unfold fp fP
 dsimp only
 have f1:=jg m hm a 4 1 (by decide) (by decide) ha
 have f2:=jc m hm a 4 1 (by decide) ha (by decide) (by decide)
 have f1:bH (((m,()),(a,(1,(4,())))),())=_:=f1
 have f2:bj (((m,()),(a,(1,(4,())))),())=_:=f2
 rw[k9 m (by omega) (by unfold F;omega),hT.ok,aa]
 dsimp only
 rw[ce,aj,f1,f2,aa,aa]
 dsimp only
 by_cases hf:dy m a 4 1 0=0
 rotate_left
 ·rw[aq hf,cP,aH,aH]
  exact⟨[],_,by simp,rfl,rfl⟩
 rw[hf,bc rfl,ce,aj,aj]
 have hr:=fnd_lo hm (AX hm hf)
 refine iterP (fun x=>∃n:Nat,1≤n∧n≤15∧(∀k,k<n→¬fnd m (a+(k:Nat))<0)∧x=((a,((n:Int),())),((m,()),()))) (fun x=>15-x.1.2.1.toNat)
  (fun o1 o2=>∃(t:List UInt8) (k:Int),t.length≤15∧o1=some ((t,(k,())),())∧o2=some ((t,(k,())),())) ?_ F _ ⟨1,by decide,by decide,fun k hk=>by rw[show k=0 by omega,show a+((0:Nat):Int)=a by omega];exact AX hm hf,rfl⟩ (by unfold F;simp)
 rintro _ r1 r2 ⟨n,n1,n2,hok,rfl⟩ hrec
 dsimp only
 have hI:I64 (a+n):=by unfold I64;omega
 have fin:∃(t:List UInt8) (k:Int),t.length≤15∧(bnd (dD (((m,()),(a,((n:Int),()))),())) (fun x7=>some ((x7.1,(0,())),())))=some ((t,(k,())),())∧(bnd (bQ (((m,()),(a,((n:Int),()))),())) (fun x7=>some ((x7.1,((0:Int),())),())))=some ((t,(k,())),()):=by
  rw[F0 m hm a n (by omega) ha hok,xS m hm a n (by omega) ha hok]
  exact⟨_,0,by rw[qT];simp;omega,rfl,rfl⟩
 by_cases hn:n<15
 ·have g1:=jg m hm (a+n) 4 1 (by decide) (by decide) hI
  have g2:=jc m hm (a+n) 4 1 (by decide) hI (by decide) (by decide)
  have g1:bH (((m,()),(a+n,(1,(4,())))),())=_:=g1
  have g2:bj (((m,()),(a+n,(1,(4,())))),())=_:=g2
  rw[ii (show(n:Int)<15 by omega),aH,aH,bu (by omega) (by omega),g1,g2,aa,aa]
  dsimp only
  simp only[aa]
  by_cases hg:dy m (a+n) 4 1 0=0
  ·rw[bc hg,aH,aH,bu (by omega) (by omega)]
   refine hrec _ ⟨n+1,by omega,by omega,fun k hk=>?_,rfl⟩ (by dsimp only;omega)
   by_cases hkn:k=n
   ·rw[hkn];exact AX hm hg
   ·exact hok k (by omega)
  ·rw[aq hg,aj,aj]
   exact fin
 ·rw[gF (show ¬(n:Int)<15 by omega),aj,aj]
  simp only[aa,aj]
  exact fin
theorem exM_rip {g:List Int}{rip fl:Int}{m:List Page}{x:Ins}{n z:Nat}(hm:MemT m)(hg:iW g)(hx:ExV x n):I64 (exM g rip fl m x n z).2.1:=by
 have hs:(MS.mk g m 0 []).ok 0:=⟨hm,Nat.le_refl 0,hg⟩
 have hnx:I64 (aG .i64 rip x.len):=ar _
 unfold exM
 dsimp only
 split
 ·exact hnx
 split
 ·exact hnx
 split
 rotate_left
 ·exact hnx
 have h8:(n=31∨n=32∨n=29)→OpV x.src 8:=fun h=>by
  have hsv:=hx.sv
  rwa [show sSz x n=x.size from by unfold sSz;rw[if_neg (by omega),hx.fr.2 (by omega),if_neg (by decide)],hx.szs.2.2.1 (by omega)]at hsv
 unfold MS.flow
 by_cases h29:n=29
 ·rw[if_pos h29];exact hnx
 rw[if_neg h29]
 by_cases h30:n=30
 ·rw[if_pos h30];exact hnx
 rw[if_neg h30]
 by_cases h31:n=31
 ·rw[if_pos h31];exact(hs.go _ (h8 (by omega))).2
 rw[if_neg h31]
 by_cases h34:n=34
 ·rw[if_pos h34];exact hs.po.2.1
 rw[if_neg h34]
 by_cases h32:n=32
 ·rw[if_pos h32];exact(hs.go _ (h8 (by omega))).2
 rw[if_neg h32]
 by_cases h33:n=33
 ·rw[if_pos h33]
  have hk3:=hx.kd.2.2.2.2.2.2.2.1 h33
  split
  ·unfold MS.go;rw[if_pos hk3];exact ar _
  ·exact hnx
 rw[if_neg h33]
 repeat' split
 all_goals exact hnx
theorem yC {o:Opd}{z:Int}(h:qx o z):I64 o.disp:=by
 unfold qx opB Ah at h
 unfold I64
 omega
structure StOK (g:List Int)(p f:Int)(m:List Page):Prop where
 mT:MemT m
 gT:iW g
 fT:I64 f
 bT:bN f=true
 pT:I64 p
theorem CM {g:List Int}{rip fl:Int}{m:List Page}(hS:StOK g rip fl m):
  ∃(g':List Int) (p' f':Int) (m':List Page) (l':List Acc) (k':Int),StOK g' p' f' m'∧l'.length≤1000∧
   gh (((g,(rip,(fl,()))),((m,()),())),())=some (((g',(p',(f',()))),((m',()),(l',(k',())))),())∧
   jp (((g,(rip,(fl,()))),((m,()),())),())=some (((g',(p',(f',()))),((),(k',()))),(m',(l',()))):=by
 obtain⟨t,k,ht,e1,e2⟩:=zi hS.mT hS.pT
 have hlen:=hS.mT.len
 have hcopy:=nV m (by omega)
 unfold gh jp
 dsimp only
 rw[e1,e2,aa,aa]
 dsimp only
 by_cases hk:k=0
 rotate_left
 ·rw[aq hk,cP,aH,aH,aa,ag]
  dsimp only
  rw[show eqI 15 0=false from rfl,aj,aa,ag]
  dsimp only
  rw[show aX (eqI 15 0)=true from rfl,aH,hcopy,aa]
  exact⟨g,rip,fl,m,_,15,hS,by simp,rfl,rfl⟩
 subst hk
 rw[show eqI 0 0=true from rfl,ce,aj,aj,aa,ag]
 dsimp only
 have E1:=uD (t:=t) (at0:=0) (by omega) (by omega) (by omega)
 have E2:=AG (t:=t) (at0:=0) (by omega) (by omega) (by omega)
 have hdis:=DG (t:=t) (at0:=0) (by omega) (by omega)
 have him:=dec_imm (t:=t) 0
 rw[show eqI 0 0=true from rfl,aH,E1,E2,aa,aa,aa,ag]
 dsimp only[p5,p18]
 rw[Bp]
 generalize mF t 0=D at hdis him⊢
 obtain⟨x,c⟩:=D
 dsimp only at hdis him⊢
 rcases hdis with ⟨⟨n,n1,n2,hn,hP⟩,hc,_,_⟩|⟨_,hc⟩
 rotate_left
 ·rw[aq hc,cP,aH,aH,hcopy,aa]
  exact⟨g,rip,fl,m,_,c,hS,by simp,rfl,rfl⟩
 subst hc
 rw[show eqI 0 0=true from rfl,ce,aj,aj]
 have hPd:=hP
 obtain⟨_,_,_,_,_,_,_,hd,hsr,_⟩:=hPd
 have hV:=ExV_of hn n1 n2 hP ⟨yC hd,him.1,yC hsr,him.2⟩
 obtain⟨z,hz⟩:∃z:Nat,x.size=z:=⟨x.size.toNat,by
  have hs:=hP.2.2.1
  unfold shB at hs
  simp only[Bool.and_eq_true,decide_eq_true_eq]at hs
  have:=szN_all n n2 n1 _ hs.1
  omega⟩
 obtain⟨x1,ok,fb,fI⟩:=exec_m (rip:=rip) hS.mT hS.gT hS.fT hS.bT hV hz
 have x2:=exec_r (rip:=rip) hS.mT hS.gT hS.fT hS.bT hV hz
 have hp:=exM_rip (rip:=rip) (fl:=fl) (z:=z) hS.mT hS.gT hV
 rw[x1,x2,aa,aa]
 generalize exM g rip fl m x n z=e at ok fb fI hp
 have ok2:=ok.l
 unfold exR exS
 have hfit:∀a:Acc,gH [a] e.1.l=true:=fun a=>kP (by simp;omega)
 by_cases hc:e.1.code=0
 ·rw[if_neg (by simpa using hc),if_neg (by simpa using hc)]
  dsimp only
  simp only[hfit,aH]
  exact⟨e.1.g,e.2.1,e.2.2,e.1.m,_,0,⟨ok.m,ok.g,fI,fb,hp⟩,by simp[jh];omega,rfl,rfl⟩
 ·rw[if_pos hc,if_pos hc]
  dsimp only
  simp only[hfit,aH]
  exact⟨g,rip,fl,m,_,e.1.code,hS,by simp[jh];omega,rfl,rfl⟩
end
theorem wN (n:Int)(h0:1≤n)(h1:n≤274877906944):∃t,cA ((n,()),())=some (t,()):=by
 unfold cA
 dsimp only
 rw[am (jI (by omega))]
 refine l6 (fun x=>0≤x.1.1∧(x.1.2.1.length:Int)+x.1.1≤n) (fun x=>x.1.1.toNat) (fun _ r=>∃t,r=some (t,())) ?_ F _ ⟨by show(0:Int)≤n;omega,by show((0:Nat):Int)+n≤n;omega⟩ (by show n.toNat<F;unfold F;omega)
 rintro⟨⟨x,s,_⟩,_⟩ rec ⟨h2,h3⟩ hrec
 dsimp only at h2 h3 hrec⊢
 by_cases hx:0<x
 ·have hq:jJ .i64 x 10=x/10:=by
   unfold jJ
   rw[Int.tdiv_eq_ediv_of_nonneg h2]
   exact da (by unfold I64;omega)
  rw[af (ii hx),af (by unfold gH lim kg;simp;omega),hq]
  exact hrec _ ⟨by dsimp only;omega,by dsimp only;unfold jh kg;simp;omega⟩ (by dsimp only;omega)
 ·rw[am (gF hx),af (by unfold gH lim;simp;omega)]
  exact⟨_,rfl⟩
noncomputable def mt (n:Int):List UInt8:=match cA ((n,()),())with
 |some x=>x.1
 |none=>[]
theorem qi (n:Int)(h0:1≤n)(h1:n≤274877906944):cA ((n,()),())=some (mt n,()):=by
 obtain⟨t,h⟩:=wN n h0 h1
 unfold mt;rw[h]
theorem Bb {α:Type}{l:List α}{i:Nat}(h:i<l.length)(v d:α):aQ (cr l (i:Int) v) (i:Int) d=v:=by
 unfold aQ cr
 rw[Int.toNat_natCast,List.getD_eq_getElem?_getD,List.getElem?_set_self h];rfl
theorem Cz {α:Type}(l:List α)(i:Int)(v w:α):cr (cr l i v) i w=cr l i w:=by
 unfold cr;rw[List.set_set]
theorem Fg {α:Type}(l:List α)(i:Int)(v:α):(cr l i v).length=l.length:=by unfold cr;rw[List.length_set]
theorem En {α:Type}(f:Nat→α){l:List α}{j:Nat}(h:j<l.length):cr ((List.range j).map f++l.drop j) (j:Int) (f j)=(List.range (j+1)).map f++l.drop (j+1):=by
 unfold cr
 rw[Int.toNat_natCast,List.set_append,if_neg (by simp),List.length_map,List.length_range,Nat.sub_self,List.drop_eq_getElem_cons h,List.set_cons_zero,List.range_succ,List.map_append,List.append_assoc]
 rfl
noncomputable def mkP (m:Int)(i:Nat):Page:=Page.mk (m+3*(i:Int)) (m+3*(i:Int)+1) (mt (m+3*(i:Int)+2))
noncomputable def Ep (m:Int)(n:Nat):List Page:=(List.range n).map (mkP m)
theorem Es (m:Int)(n:Nat):(Ep m n).length=n:=by simp[Ep]
theorem uN (m:Int)(l:List Page)(h0:1≤m)(h1:m≤68719476736)(hl:l.length≤1073741824):
  eP ((m,()),(l,()))=some (m+3*l.length,(Ep m l.length,())):=by
 unfold eP
 dsimp only
 refine(Ret.iter (fun y=>∃j:Nat,j≤l.length∧y=((m+3*(j:Int),((j:Int),())),((List.range j).map (mkP m)++l.drop j,()))) (fun y=>l.length-y.1.2.1.toNat) ?_ F _ ⟨0,by omega,by simp⟩ (by unfold F;simp;omega)).eq
 rintro _ rec ⟨j,hj,rfl⟩ hrec
 dsimp only
 have hlen:((List.range j).map (mkP m)++l.drop j).length=l.length:=by rw[List.length_append,List.length_map,List.length_range,List.length_drop];omega
 obtain⟨a,ha⟩:∃a,a=(List.range j).map (mkP m)++l.drop j:=⟨_,rfl⟩
 rw[←ha]at hlen⊢
 simp only[bz,Fg,hlen]
 by_cases h:j<l.length
 ·have hja:j<a.length:=by omega
  have e1:aG .i64 (m+3*(j:Int)) 1=m+3*j+1:=bu (by omega) (by omega)
  have e2:aG .i64 (m+3*(j:Int)+1) 1=m+3*j+2:=by rw[bu (by omega) (by omega)];omega
  have e3:aG .i64 (m+3*(j:Int)+2) 1=m+3*((j+1:Nat):Int):=by rw[bu (by omega) (by omega)];omega
  have hr:inR (j:Int) (l.length:Int)=true:=cH (by omega) (by omega)
  rw[af (ii (by omega)),hr,aH,aH,e1,e2,qi (m+3*(j:Int)+2) (by omega) (by omega),aa,aH,e3,bu (by omega) (by omega)]
  simp only[Cz,Bb hja]
  refine hrec _ ⟨j+1,by omega,?_⟩ (by dsimp only;omega)
  have:=En (mkP m) h
  rw[←ha]at this
  rw[←this]
  rfl
 ·have:j=l.length:=by omega
  subst this
  rw[am (gF (by omega)),ha]
  exact Ret.some (by rw[List.drop_length,List.append_nil];rfl)
theorem Er (m:Int){n j:Nat}(h:j<n):aQ (Ep m n) (j:Int) (aB .page)=mkP m j:=by
 unfold aQ Ep
 rw[Int.toNat_natCast,List.getD_eq_getElem?_getD,List.getElem?_map,List.getElem?_range h];rfl
theorem uq (m:Int)(n:Nat)(h0:1≤m)(h1:m≤68719476736)(hl:n≤1073741824):eO ((Ep m n,(m,())),())=some (m+3*n,()):=by
 unfold eO
 dsimp only
 refine(Ret.iter (fun y=>∃j:Nat,j≤n∧y=((Ep m n,(m+3*(j:Int),((j:Int),()))),())) (fun y=>n-y.1.2.2.1.toNat) ?_ F _ ⟨0,by omega,by simp⟩ (by unfold F;simp;omega)).eq
 rintro _ rec ⟨j,hj,rfl⟩ hrec
 dsimp only
 simp only[bz,Es]
 by_cases h:j<n
 ·have e1:aG .i64 (m+3*(j:Int)) 1=m+3*j+1:=bu (by omega) (by omega)
  have e2:aG .i64 (m+3*(j:Int)+1) 1=m+3*j+2:=by rw[bu (by omega) (by omega)];omega
  have e3:aG .i64 (m+3*(j:Int)+2) 1=m+3*((j+1:Nat):Int):=by rw[bu (by omega) (by omega)];omega
  have hr:inR (j:Int) (n:Int)=true:=cH (by omega) (by omega)
  rw[af (ii (by omega)),hr,aH,aH,aH,Er m h]
  dsimp only[mkP]
  rw[bc rfl,ce,aj,e1,bc rfl,ce,aj,e2,qi (m+3*(j:Int)+2) (by omega) (by omega),aa,show∀t:List UInt8,eqS t t=true from fun t=>decide_eq_true rfl,ce,aj,e3,bu (by omega) (by omega)]
  exact hrec _ ⟨j+1,by omega,rfl⟩ (by dsimp only;omega)
 ·have:j=n:=by omega
  subst this
  rw[am (gF (by omega))]
  exact Ret.some rfl
theorem no (m:Int)(l:List Page)(h0:1≤m)(h1:m≤68719476736)(hl:l.length≤1073741824):
  dm (((),(m,())),(l,()))=some (m+3*l.length,(Ep m l.length,())):=by
 unfold dm
 dsimp only
 rw[uN m l h0 h1 hl,aa]
theorem sN (m:Int)(n:Nat)(h0:1≤m)(h1:m≤68719476736)(hl:n≤1073741824):dl (((Ep m n,()),(m,())),())=some (m+3*n,()):=by
 unfold dl
 dsimp only
 rw[uq m n h0 h1 hl,aa]
 dsimp only
 rw[am (gF (by omega))]
theorem CZ (x:Page)(left:Int)(h0:0≤left)(h1:left≤1048576)(hd:x.data.length≤maxLen):gN ((x,(left,())),())=some (if left-x.data.length<0 then -1 else left-x.data.length,()):=by
 unfold gN
 simp only[bz]
 rw[gG (by unfold I64 maxLen at *;omega)]
 by_cases h:left-(x.data.length:Int)<0
 ·rw[af (ii h),if_pos h]
 ·rw[am (gF h),if_neg h]
theorem zX (xs:List Page)(hx:xs.length≤maxLen)(hd:∀x∈xs,x.data.length≤maxLen):∃r:Int,fV ((xs,(1048576,())),())=some (r,())∧(0≤r→xs.length≤1048576):=by
 unfold fV
 simp only[bz]
 rw[gG (by unfold I64 maxLen at *;omega)]
 by_cases h:1048576-(xs.length:Int)<0
 ·rw[af (ii h)]
  exact⟨-1,rfl,fun h=>absurd h (by decide)⟩
 ·rw[am (gF h)]
  refine l6 (fun x=>x.1.1=xs∧0≤x.1.2.1∧x.1.2.1≤1048576∧0≤x.1.2.2.1∧x.1.2.2.1≤(xs.length:Int)) (fun x=>xs.length-x.1.2.2.1.toNat) (fun _ o=>∃r:Int,o=some (r,())∧(0≤r→xs.length≤1048576)) ?_ F _ ?_ ?_
  ·rintro⟨⟨ys,left,i,_⟩,_⟩ rec ⟨h2,h3,h4,h0,h1⟩ hrec
   dsimp only at h0 h1 h2 h3 h4 hrec⊢
   subst h2
   by_cases hi:i<ys.length
   ·obtain⟨n,rfl⟩:=Int.eq_ofNat_of_zero_le h0
    have hn:n<ys.length:=by omega
    rw[af (ii hi),af (cH h0 hi),iy hn,CZ _ _ h3 h4 (hd _ (List.getElem_mem hn)),aa]
    dsimp only
    by_cases hl:left-(ys[n].data.length:Int)<0
    ·rw[if_pos hl]
     exact⟨-1,rfl,fun h=>absurd h (by decide)⟩
    ·rw[if_neg hl,am (gF hl),eh (by unfold I64;omega)]
     exact hrec _ ⟨rfl,by dsimp only;omega,by dsimp only;omega,by dsimp only;omega,by dsimp only;omega⟩ (by dsimp only;omega)
   ·rw[am (gF hi)]
    exact⟨left,rfl,fun _=>by omega⟩
  ·exact⟨rfl,by dsimp only;omega,by dsimp only;omega,by simp,by simp⟩
  ·simp[F];omega
theorem xz (xs:List Page)(hx:xs.length≤maxLen)(hd:∀x∈xs,x.data.length≤maxLen):∃r:Int,fj (((xs,()),(1048576,())),())=some (r,())∧(0≤r→xs.length≤1048576):=by
 obtain⟨r,h1,h2⟩:=zX xs hx hd
 unfold fj
 dsimp only
 rw[h1,aa]
 by_cases h:r<0
 ·rw[af (ii h)];exact⟨-1,rfl,fun h=>absurd h (by decide)⟩
 ·rw[am (gF h)];exact⟨r,rfl,h2⟩
theorem z9 (xs:List Page)(hx:xs.length≤1048576):fW ((xs,()),())=some ((),(xs,())):=by
 unfold fW i5
 simp only[bz]
 rw[af (n7 (by omega) (Int.le_refl _)),af (wA (by omega))]
 refine eI (fun x=>x.1.1=xs∧0≤x.1.2.1∧x.1.2.1≤(xs.length:Int)∧x.2.1=xs.take x.1.2.1.toNat++List.replicate (xs.length-x.1.2.1.toNat) (aB .page)) (fun x=>xs.length-x.1.2.1.toNat) (fun _=>some ((),(xs,()))) ?_ F _ ?_ ?_
 ·rintro⟨⟨ys,i,_⟩,out,_⟩ rec ⟨h2,h0,h1,h3⟩ hrec
  dsimp only at h0 h1 h2 h3 hrec⊢
  subst h2
  by_cases hi:i<ys.length
  ·obtain⟨n,rfl⟩:=Int.eq_ofNat_of_zero_le h0
   have hn:n<ys.length:=by omega
   rw[Int.toNat_natCast]at h3
   have hol:out.length=ys.length:=by rw[h3];simp;omega
   rw[af (ii hi),af (cH h0 hi),aa,af (cH h0 (by rw[hol];exact hi)),eh (by unfold I64;omega)]
   refine hrec _ ⟨rfl,by dsimp only;omega,by dsimp only;omega,?_⟩ (by dsimp only;omega)
   dsimp only
   rw[iy hn,show((n:Int)+1).toNat=n+1 by omega,h3]
   unfold cr
   rw[Int.toNat_natCast,List.set_append_right _ _ (by simp;omega),List.length_take,Nat.min_eq_left (by omega),Nat.sub_self,show ys.length-n=(ys.length-(n+1))+1 by omega,List.replicate_succ,←List.take_append_getElem hn,List.append_assoc]
   rfl
  ·have:i=ys.length:=by omega
   subst this
   rw[am (gF hi),h3,Int.toNat_natCast];simp
 ·exact⟨rfl,by simp,by simp,by simp[tO]⟩
 ·simp[F];omega
theorem xB (xs:List Page)(hx:xs.length≤1048576):cW (((xs,()),()),())=some ((),(xs,())):=by
 unfold cW
 dsimp only
 rw[z9 xs hx,aa]
theorem wl (x:Page):gM ((x,(x,())),())=some (true,()):=by
 unfold gM
 dsimp only
 rw[bc rfl,bc rfl,show eqS x.data x.data=true from decide_eq_true rfl]
 rfl
theorem uf (xs:List Page)(hx:xs.length≤1048576):fU ((xs,(xs,())),())=some (true,()):=by
 unfold fU
 simp only[bz]
 rw[bc rfl,ce,aj]
 refine eI (fun x=>x.1.1=xs∧x.1.2.1=xs∧0≤x.1.2.2.1∧x.1.2.2.1≤(xs.length:Int)) (fun x=>xs.length-x.1.2.2.1.toNat) (fun _=>some (true,())) ?_ F _ ?_ ?_
 ·rintro⟨⟨ys,zs,i,_⟩,_⟩ rec ⟨h2,h3,h0,h1⟩ hrec
  dsimp only at h0 h1 h2 h3 hrec⊢
  subst h2
  subst h3
  by_cases hi:i<zs.length
  ·rw[af (ii hi),af (cH h0 hi),af (cH h0 hi),wl,aa,ce,aj,eh (by unfold I64;omega)]
   exact hrec _ ⟨rfl,rfl,by dsimp only;omega,by dsimp only;omega⟩ (by dsimp only;omega)
  ·rw[am (gF hi)]
 ·exact⟨rfl,rfl,by simp,by simp⟩
 ·simp[F];omega
theorem ng (xs:List Page)(hx:xs.length≤1048576):cV (((xs,()),((xs,()),())),())=some (true,()):=by
 unfold cV
 dsimp only
 rw[uf xs hx,aa,ce,aj]
theorem vK (a0 a1 a2 a3 a4 a5 a6 a7 a8 a9 a10 a11 a12 a13 a14 a15:Int):fm ((([a0,a1,a2,a3,a4,a5,a6,a7,a8,a9,a10,a11,a12,a13,a14,a15],()),()),())=some (([a0,a1,a2,a3,a4,a5,a6,a7,a8,a9,a10,a11,a12,a13,a14,a15],()),()):=by kernel_rfl
theorem xA {c:List Int}(h:c.length=16):fm (((c,()),()),())=some ((c,()),()):=by
 match c,h with
 |[a0,a1,a2,a3,a4,a5,a6,a7,a8,a9,a10,a11,a12,a13,a14,a15],_=>exact vK a0 a1 a2 a3 a4 a5 a6 a7 a8 a9 a10 a11 a12 a13 a14 a15
theorem FD {c:List Int}(p f:Int)(h:c.length=16):fk (((c,(p,(f,()))),()),())=some ((c,(p,(f,()))),()):=by
 unfold fk
 dsimp only
 rw[xA h,aa]
theorem sB (c:List Int):fi (((c,()),((c,()),())),())=some (true,()):=by
 unfold fi
 dsimp only
 refine(Ret.iter (fun y=>∃i:Nat,i≤16∧y=(((i:Int),()),((c,()),((c,()),())))) (fun y=>16-y.1.1.toNat) ?_ F _ ⟨0,by omega,rfl⟩ (by unfold F;simp)).eq
 rintro _ rec ⟨i,hi,rfl⟩ hrec
 dsimp only
 by_cases h:i<16
 ·rw[af (ii (by omega)),af (by simp[inR];omega),af (by simp[inR];omega),bc rfl,ce,am rfl,bu (by omega) (by omega)]
  exact hrec _ ⟨i+1,by omega,rfl⟩ (by simp;omega)
 ·rw[am (gF (by omega))]
  exact Ret.some rfl
theorem zh (c:List Int)(p f:Int):fh (((c,(p,(f,()))),((c,(p,(f,()))),())),())=some (true,()):=by
 unfold fh
 dsimp only
 rw[sB,aa]
 dsimp only
 rw[ce,aj,bc rfl,bc rfl,ce,aj,aj]
theorem elWf_i {x:Int}(h:wk .i x):I64 x:=by
 obtain⟨⟨n,e,w⟩,_⟩:=h
 have e:x=n:=by injection e
 rw[e];exact wf64 w
theorem regs_wf {c:List Int}(w:∀x∈c,wk .i x):∀i,I64 (aQ c i (aB .i)):=fun i=>by
 unfold aQ
 rw[List.getD_eq_getElem?_getD]
 cases hci:c[i.toNat]? with
 |none=>exact(by unfold I64;decide:I64 (0:Int))
 |some v=>exact elWf_i (w v (List.mem_of_getElem? hci))
noncomputable section
theorem vV {g:List Int}{rip fl n:Int}{m:List Page}(hg:iW g)(hI:I64 fl)(hp:I64 rip)(hm:m.length≤1048576):
  ∃(g':List Int) (p' f':Int) (m':List Page) (i' k':Int),m'.length≤1048576∧
   gO (((g,(rip,(fl,()))),((m,()),(n,()))),())=some (((g',(p',(f',()))),((m',()),(i',(k',())))),())∧
   fC (((g,(rip,(fl,()))),((m,()),(n,()))),())=some (((g',(p',(f',()))),((),(i',(k',())))),(m',())):=by
 have hmM:(m.length:Int)<4611686018427387904:=by omega
 have hmF:m.length<F:=by unfold F;omega
 unfold gO fC
 dsimp only
 rw[Cu hI,Dp,aa,aa]
 dsimp only
 by_cases h1:bN fl=true
 rotate_left
 ·simp only[Bool.eq_false_iff.2 h1,cP,aa,aH]
  exact⟨[],0,0,[],0,1,by simp,rfl,rfl⟩
 rw[h1,ce,aj,aj,oZ m hmM,k9 m hmM hmF,aa,aa]
 dsimp only
 by_cases h2:qj m=true
 rotate_left
 ·simp only[Bool.eq_false_iff.2 h2,cP,aa,aH]
  exact⟨[],0,0,[],0,1,by simp,rfl,rfl⟩
 simp only[h2,ce,aa,aj]
 rw[di,cN]
 by_cases h3:0≤n∧n≤500
 rotate_left
 ·simp only[decide_eq_false h3,cP,aa,aH]
  exact⟨[],0,0,[],0,4,by simp,rfl,rfl⟩
 simp only[decide_eq_true h3,ce,aa,aj]
 rw[nV m hm,aa]
 dsimp only
 refine iterQ (fun x y=>∃(g:List Int) (p f i:Int) (m:List Page),StOK g p f m∧0≤i∧i≤n∧x=((n,(i,())),((g,(p,(f,()))),((m,()),(([],(0,(0,()))),((),())))))∧y=((n,(n,(i,()))),((g,(p,(f,()))),(([],(0,(0,()))),((),((),(m,()))))))) (fun x=>(n-x.1.2.1).toNat)
  (fun o1 o2=>∃(g':List Int) (p' f':Int) (m':List Page) (i' k':Int),m'.length≤1048576∧o1=some (((g',(p',(f',()))),((m',()),(i',(k',())))),())∧o2=some (((g',(p',(f',()))),((),(i',(k',())))),(m',()))) ?_ F _ _
  ⟨g,rip,fl,0,m,⟨memOK_t h2,hg,hI,h1,hp⟩,by omega,by omega,rfl,rfl⟩ (by unfold F;dsimp only;omega)
 rintro _ _ r1 r2 ⟨g,p,f,i,m,hS,hi0,hi,rfl,rfl⟩ hrec
 have hm':=hS.mT.len
 dsimp only[d5]
 by_cases hlt:i<n
 rotate_left
 ·rw[gF hlt,aj,aj,Ch m (by omega),aa]
  exact⟨g,p,f,m,n,0,by omega,rfl,rfl⟩
 obtain⟨g',p',f',m',l',k',ok,hl,e1,e2⟩:=CM hS
 rw[ii hlt,aH,aH,e1,e2,aa,aa]
 dsimp only
 by_cases hk:k'=0
 ·rw[bc hk,ce,aj,aj,bu (by omega) (by omega)]
  exact hrec _ _ ⟨g',p',f',i+1,m',ok,by omega,by omega,rfl,rfl⟩ (by dsimp only;omega)
 ·rw[aq hk,cP,aH,aH,Ch m (by omega),aa]
  exact⟨g,p,f,m,i,k',by omega,rfl,rfl⟩
theorem xc (y:VTL.Ty [.agg [.arr .i 16,.int .i64,.int .i64],.agg [.list .page],.int .i64])(h:VTL.wf [.agg [.arr .i 16,.int .i64,.int .i64],.agg [.list .page],.int .i64] y):cG (y,())=some (true,()):=by
 obtain⟨⟨c,p,f,_⟩,⟨ms,_⟩,n,_⟩:=y
 obtain⟨⟨⟨w0,w1⟩,w2,w3,_⟩,⟨⟨w4,w5⟩,_⟩,_,_⟩:=h
 have w0:c.length=16:=w0
 have w4:ms.length≤maxLen:=w4
 have hg:iW c:=regs_wf w1
 have hf:I64 f:=wf64 w3
 have hp:I64 p:=wf64 w2
 unfold cG
 dsimp only
 obtain⟨r,e,hr⟩:=xz ms w4 (fun x hx=>(AR (w5 x hx)).2.2)
 rw[e,aa]
 dsimp only
 by_cases h0:r<0
 ·rw[af (ii h0)]
 rw[am (gF h0)]
 have hm:=hr (by omega)
 obtain⟨g',p',f',m',l',k',hm',e1,e2⟩:=vV (n:=n) hg hf hp hm
 have hc:=FD p f w0
 have ht:=xB ms hm
 have hmm:=no 1 ms (by decide) (by decide) (by omega)
 have hmm':=no 1 m' (by decide) (by decide) (by omega)
 have hhm':=sN 1 m'.length (by decide) (by decide) (by omega)
 have q1:ltI (1+3*(m'.length:Int)) 0=false:=gF (by omega)
 have q3:ltI (1+3*(ms.length:Int)) 0=false:=gF (by omega)
 have hcc:∀a:Int,eqI a a=true:=fun a=>bc rfl
 rw[hc,aa,ht,aa]
 dsimp only
 rw[e1,aa]
 simp only[aa,e2,zh,ng m' hm',ng ms hm,hcc,ce,aj,hmm,hmm',hhm',q1,q3]
end
end Go.Den.G
