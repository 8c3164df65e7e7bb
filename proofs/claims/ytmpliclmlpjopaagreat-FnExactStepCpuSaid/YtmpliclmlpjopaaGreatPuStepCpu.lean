/- Theory for the proofs of this claim: see its last text. -/
import Derived.Test.YtmpliclmlpjopaaGreatFnStepCpu
import Derived.Test.YtmpliclmlpjopaaGreatDenF
import Derived.KernelRfl
import Derived.Laws.MathBits
import Derived.Test.YtmpliclmlpjopaaGreatPbStepCpu
namespace Go.Den.G
open Go.Den
set_option maxRecDepth 100000
set_option linter.unusedSectionVars false
noncomputable section
theorem upper_r (z:Nat):eZ (((z:Int),()),())=some (upZ z,()):=by
 unfold eZ upZ
 dsimp only
 by_cases h:z=1
 ·rw[bc (by omega),aI,if_pos h]
 ·rw[ar (by omega),aj,if_neg h]
theorem reg0 (z:Nat):qM 0 z:=by unfold qM;omega
theorem Bz (x:Ins):wQ (dT x ())=x:=rfl
section
variable {g:List Int}{m:List Page}{c:Int}{l:List Acc}{k:Nat}(hs:(MS.mk g m c l).ok k)(hk:k+4≤1000){x:Ins}{n z:Nat}{rip fl nx:Int}
include hs hk
theorem plain_9 (hx:ExV x 9)(hz:x.size=z):fV g m c l x rip fl nx ((MS.mk g m c l).move fl nx x 9 z,nx,fl):=by
 have hop:=hx.op
 have hz':co (z:Int)=true:=by rw[←hz];exact hx.szs.1 (by omega)
 have hdv:=hx.dv
 have hsv:=hx.sv
 rw[hz]at hdv
 rw[show sSz x 9=x.size from by unfold sSz;rw[if_neg (by decide),hx.fr.2 (by decide),if_neg (by decide)],hz]at hsv
 obtain⟨v1,c1,l1,e1,r1,ok1,I1⟩:=gtq hs (by omega) hz' hsv nx
 obtain⟨g',m',c',l',e2,r2,ok2⟩:=ptq ok1 (by omega) hz' hdv (hx.kd.1 (by omega)) nx I1
 unfold cZ at r1 r2
 have hre:(MS.mk g m c l).move fl nx x 9 z=⟨g',m',c',l'⟩:=by
  unfold MS.move
  rw[if_pos rfl,e1]
  exact e2
 rw[hre]
 unfold fV aR
 dsimp only
 rw[hop,AS,aa,ag,decide_eq_false (by omega)]
 dsimp only
 rw[aj,show(dT x ()).1=((9:Nat):Int)from hop,Du,aa,ag,decide_eq_false (by omega)]
 dsimp only
 rw[aj,show(dT x ()).1=((9:Nat):Int)from hop,ei,dy,aa,decide_eq_false (by omega)]
 dsimp only
 rw[aj,ar (by omega),aj,bc (by omega),aI]
 dsimp only[dT,cZ,cp7,d5,d11]
 rw[hz,r1,aa]
 dsimp only
 rw[r2,aa]
 exact⟨⟨g',m',c',l'⟩,fl,nx,rfl,.same rfl⟩
theorem Fu (hx:ExV x 28)(hz:x.size=z):fV g m c l x rip fl nx ((MS.mk g m c l).move fl nx x 28 z,nx,fl):=by
 have hop:=hx.op
 have hz':co (z:Int)=true:=by rw[←hz];exact hx.szs.1 (by omega)
 have hdv:=hx.dv
 have hsv:=hx.sv
 rw[hz]at hdv
 rw[show sSz x 28=x.size from by unfold sSz;rw[if_neg (by decide),hx.fr.2 (by decide),if_neg (by decide)],hz]at hsv
 have hsk:=hx.kd.2.1 rfl
 obtain⟨v1,c1,l1,e1,r1,ok1,I1⟩:=gtq hs (by omega) hz' hdv nx
 obtain⟨v2,c2,l2,e2,r2,ok2,I2⟩:=gtq ok1 (by omega) hz' hsv nx
 obtain⟨g3,m3,c3,l3,e3,r3,ok3⟩:=ptq ok2 (by omega) hz' hdv (hx.kd.1 (by omega)) nx I2
 obtain⟨g4,m4,c4,l4,e4,r4,ok4⟩:=ptq ok3 (by omega) hz' hsv (.inl hsk) nx I1
 unfold cZ at r1 r2 r3 r4
 have hre:(MS.mk g m c l).move fl nx x 28 z=⟨g4,m4,c4,l4⟩:=by
  unfold MS.move
  dsimp only
  rw[if_neg (by decide),if_pos rfl,e1]
  dsimp only
  rw[e2]
  dsimp only
  rw[e3]
  exact e4
 rw[hre]
 unfold fV aR
 dsimp only
 rw[hop,AS,aa,ag,decide_eq_false (by omega)]
 dsimp only
 rw[aj,show(dT x ()).1=((28:Nat):Int)from hop,Du,aa,ag,decide_eq_false (by omega)]
 dsimp only
 rw[aj,show(dT x ()).1=((28:Nat):Int)from hop,ei,dy,aa,decide_eq_false (by omega)]
 dsimp only
 rw[aj,ar (by omega),aj,ar (by omega),aj,bc (by omega),aI]
 dsimp only[dT,cZ,cp7,d5,d11]
 rw[hz,r1,aa]
 dsimp only
 rw[r2,aa]
 dsimp only
 rw[r3,aa]
 dsimp only
 rw[r4,aa]
 exact⟨⟨g4,m4,c4,l4⟩,fl,nx,rfl,.same rfl⟩
theorem Fp (hx:ExV x 25)(hz:x.size=z):fV g m c l x rip fl nx ((MS.mk g m c l).move fl nx x 25 z,nx,fl):=by
 have hop:=hx.op
 have hz':co (z:Int)=true:=by rw[←hz];exact hx.szs.1 (by omega)
 have hdv:=hx.dv
 have hsv:=hx.sv
 rw[hz]at hdv
 have hk2:=hx.kd.2.2.1 rfl
 have hA:=kM (g:=g) (nx:=nx) hsv
 obtain⟨g',m',c',l',e2,r2,ok2⟩:=ptq hs (by omega) hz' hdv (hx.kd.1 (by omega)) nx hA
 have hadr:=kV (g:=g) (rip:=rip) (fl:=fl) (nx:=nx) (hsv.b hk2.2)
 unfold cZ at r2 hadr
 have hre:(MS.mk g m c l).move fl nx x 25 z=⟨g',m',c',l'⟩:=by
  unfold MS.move
  rw[if_neg (by decide),if_neg (by decide),if_pos rfl]
  exact e2
 rw[hre]
 unfold fV aR
 dsimp only
 rw[hop,AS,aa,ag,decide_eq_false (by omega)]
 dsimp only
 rw[aj,show(dT x ()).1=((25:Nat):Int)from hop,Du,aa,ag,decide_eq_false (by omega)]
 dsimp only
 rw[aj,show(dT x ()).1=((25:Nat):Int)from hop,ei,dy,aa,decide_eq_false (by omega)]
 dsimp only
 rw[aj,ar (by omega),aj,ar (by omega),aj,ar (by omega),aj,bc (by omega),aI]
 dsimp only[dT,cZ,cp7,d5,d11]
 rw[hz,hadr,aa]
 rw[r2,aa]
 exact⟨⟨g',m',c',l'⟩,fl,nx,rfl,.same rfl⟩
theorem Fq (hx:ExV x 26)(hz:x.size=z):fV g m c l x rip fl nx ((MS.mk g m c l).move fl nx x 26 z,nx,fl):=by
 have hop:=hx.op
 have hz':co (z:Int)=true:=by rw[←hz];exact hx.szs.1 (by omega)
 have hdv:=hx.dv
 have hsv:=hx.sv
 rw[hz]at hdv
 have hfz:=hx.fr.1 (by omega)
 obtain⟨f,hf,hf2⟩:=pp hfz
 rw[show sSz x 26=x.frm from by unfold sSz;rw[if_neg (by decide),if_pos (by have:=dR hf2;omega)],hf]at hsv
 obtain⟨v1,c1,l1,e1,r1,ok1,I1⟩:=gtq hs (by omega) hf2 hsv nx
 have hft:x.frm.toNat=f:=by omega
 obtain⟨g',m',c',l',e2,r2,ok2⟩:=ptq ok1 (by omega) hz' hdv (hx.kd.1 (by omega)) nx I1
 unfold cZ at r1 r2
 have hre:(MS.mk g m c l).move fl nx x 26 z=⟨g',m',c',l'⟩:=by
  unfold MS.move
  rw[if_neg (by decide),if_neg (by decide),if_neg (by decide),if_pos rfl,hft,e1]
  exact e2
 rw[hre]
 unfold fV aR
 dsimp only
 rw[hop,AS,aa,ag,decide_eq_false (by omega)]
 dsimp only
 rw[aj,show(dT x ()).1=((26:Nat):Int)from hop,Du,aa,ag,decide_eq_false (by omega)]
 dsimp only
 rw[aj,show(dT x ()).1=((26:Nat):Int)from hop,ei,dy,aa,decide_eq_false (by omega)]
 dsimp only
 rw[aj,ar (by omega),aj,ar (by omega),aj,ar (by omega),aj,ar (by omega),aj,bc (by omega),aI]
 dsimp only[dT,cZ,cp7,d5,d11]
 rw[hz,hf,r1,aa]
 dsimp only
 rw[r2,aa]
 exact⟨⟨g',m',c',l'⟩,fl,nx,rfl,.same rfl⟩
theorem Fr (hx:ExV x 27)(hz:x.size=z):fV g m c l x rip fl nx ((MS.mk g m c l).move fl nx x 27 z,nx,fl):=by
 have hop:=hx.op
 have hz':co (z:Int)=true:=by rw[←hz];exact hx.szs.1 (by omega)
 have hdv:=hx.dv
 have hsv:=hx.sv
 rw[hz]at hdv
 have hfz:=hx.fr.1 (by omega)
 obtain⟨f,hf,hf2⟩:=pp hfz
 rw[show sSz x 27=x.frm from by unfold sSz;rw[if_neg (by decide),if_pos (by have:=dR hf2;omega)],hf]at hsv
 obtain⟨v1,c1,l1,e1,r1,ok1,I1⟩:=gtq hs (by omega) hf2 hsv nx
 have hft:x.frm.toNat=f:=by omega
 have hf18:=dR hf2
 have hsg:=jy v1 (f:Int) (by omega) (by omega)
 rw[show(8*(f:Int)-1).toNat=8*f-1 by omega]at hsg
 have hsI:I64 (sx (8*f-1) v1):=gS _ (by omega) v1
 obtain⟨g',m',c',l',e2,r2,ok2⟩:=ptq ok1 (by omega) hz' hdv (hx.kd.1 (by omega)) nx hsI
 unfold cZ at r1 r2
 have hre:(MS.mk g m c l).move fl nx x 27 z=⟨g',m',c',l'⟩:=by
  unfold MS.move
  rw[if_neg (by decide),if_neg (by decide),if_neg (by decide),if_neg (by decide),if_pos rfl,hft,e1]
  exact e2
 rw[hre]
 unfold fV aR
 dsimp only
 rw[hop,AS,aa,ag,decide_eq_false (by omega)]
 dsimp only
 rw[aj,show(dT x ()).1=((27:Nat):Int)from hop,Du,aa,ag,decide_eq_false (by omega)]
 dsimp only
 rw[aj,show(dT x ()).1=((27:Nat):Int)from hop,ei,dy,aa,decide_eq_false (by omega)]
 dsimp only
 rw[aj,ar (by omega),aj,ar (by omega),aj,ar (by omega),aj,ar (by omega),aj,ar (by omega),aj,bc (by omega),aI]
 dsimp only[dT,cZ,cp7,d5,d11]
 rw[hz,hf,r1,aa]
 dsimp only
 rw[hsg,aa]
 rw[r2,aa]
 exact⟨⟨g',m',c',l'⟩,fl,nx,rfl,.same rfl⟩
theorem wide_r (hx:ExV x n)(hz:x.size=z)(hI:I64 fl)(hf:bV fl=true)(hn:13≤n∧n≤16):
  ∃g' c' l' fl',du ((x,()),((g,rip,fl,m,nx,c,()),l,()))=some ((),((g',rip,fl',m,nx,c',()),l',()))∧RelR ⟨g',m,c',l'⟩ nx fl' (((MS.mk g m c l).wide fl nx x n z).1,nx,((MS.mk g m c l).wide fl nx x n z).2):=by
 have hop:=hx.op
 have hz':co (z:Int)=true:=by rw[←hz];exact hx.szs.1 (by omega)
 have hsv:=hx.sv
 rw[show sSz x n=x.size from by unfold sSz;rw[if_neg (by omega),hx.fr.2 (by omega),if_neg (by decide)],hz]at hsv
 obtain⟨v1,c1,l1,e1,r1,ok1,I1⟩:=gtq hs (by omega) hz' hsv nx
 have hgI:∀r,I64 (jZ g r z):=fun r=>sW (g:=g) hs.g hz'
 unfold du MS.wide RelR
 dsimp only
 rw[e1,hop,hz,r1,aa]
 dsimp only[d5]
 by_cases hc1:c1=0
 rotate_left
 ·rw[ar hc1,dw,aI]
  refine⟨g,c1,l1,fl,rfl,?_⟩
  by_cases hm:n=13∨n=14
  ·rw[if_pos hm]
   exact⟨rfl,rfl,fun h=>absurd h hc1⟩
  ·rw[if_neg hm]
   dsimp only
   rw[if_neg (fun h=>hc1 h.2)]
   exact⟨rfl,rfl,fun h=>absurd h hc1⟩
 subst hc1
 have hg0:=qm (g:=g) (rip:=rip) (fl:=fl) hs.g hz' (reg0 z)
 have hgu:=qm (g:=g) (rip:=rip) (fl:=fl) hs.g hz' (oG z)
 rw[bc rfl,cf,aj,hg0,aa,upper_r,aa]
 have hb:br (eqI (n:Int) 13) (some true) (some (eqI (n:Int) 14))=some (decide (n=13∨n=14)):=by
  by_cases a:n=13
  ·rw[bc (by omega),aI,decide_eq_true (by omega)]
  ·rw[ar (by omega),aj]
   by_cases b:n=14
   ·rw[bc (by omega),decide_eq_true (by omega)]
   ·rw[ar (by omega),decide_eq_false (by omega)]
 rw[hb,aa]
 by_cases hm:n=13∨n=14
 ·rw[decide_eq_true hm,aI,if_pos hm]
  have hA:=mE (op:=(n:Int)) (a:=jZ g 0 z) (b:=v1) (f:=fl) hz' (hgI 0) I1
  obtain⟨o1,o2,o3,o4⟩:=tt (op:=n) (n:=z) (a:=jZ g 0 z) (b:=v1) hI hf
  generalize qu (n:Int) z (jZ g 0 z) v1 fl=A at hA o1 o2 o3 o4⊢
  obtain⟨lo,hi,f'⟩:=A
  dsimp only at hA o1 o2 o3 o4⊢
  have s1:=jH (g:=g) (rip:=rip) (fl:=f') hs.g o1 hz' (reg0 z)
  have s2:=jH (g:=qT g 0 z lo) (rip:=rip) (fl:=f') (le hs.g o1 hz') o2 hz' (oG z)
  rw[hA,aa,aa,ag]
  dsimp only[dT]
  rw[hz,s1,aa]
  dsimp only
  rw[s2,aa]
  exact⟨_,0,l1,f',rfl,rfl,rfl,fun _=>⟨rfl,rfl,rfl⟩⟩
 ·rw[decide_eq_false hm,aj,if_neg hm]
  obtain⟨o1,o2⟩:=yi (op:=n) (n:=z) (hi:=jZ g (upZ z) z) (lo:=jZ g 0 z) (d:=v1)
  obtain⟨q,r,hd,hqr⟩:=uS (op:=(n:Int)) (n:=z) (hi:=jZ g (upZ z) z) (lo:=jZ g 0 z) (d:=v1) hz' (hgI _) (hgI _) I1
  generalize sI (n:Int) z (jZ g (upZ z) z) (jZ g 0 z) v1=A at hd hqr o1 o2⊢
  obtain⟨q',r',ok⟩:=A
  dsimp only at hd hqr o1 o2⊢
  rw[hgu,aa]
  dsimp only
  rw[hd,aa]
  dsimp only
  cases ok with
  |false=>
   rw[dw,aI,aa,oW]
   exact⟨g,16,l1,fl,rfl,rfl,rfl,fun h=>absurd h (by rw[if_pos ⟨rfl,rfl⟩];decide)⟩
  |true=>
   obtain⟨rfl,rfl⟩:=hqr rfl
   have s1:=jH (g:=g) (rip:=rip) (fl:=fl) hs.g o1 hz' (reg0 z)
   have s2:=jH (g:=qT g 0 z q) (rip:=rip) (fl:=fl) (le hs.g o1 hz') o2 hz' (oG z)
   rw[cf,aj,aa,ag]
   dsimp only[dT]
   rw[hz,s1,aa]
   dsimp only
   rw[s2,aa]
   exact⟨_,0,l1,fl,rfl,rfl,rfl,fun _=>⟨rfl,rfl,rfl⟩⟩
theorem zZ (hx:ExV x n)(hz:x.size=z)(hI:I64 fl)(hf:bV fl=true)(hn:13≤n∧n≤16):fV g m c l x rip fl nx (((MS.mk g m c l).wide fl nx x n z).1,nx,((MS.mk g m c l).wide fl nx x n z).2):=by
 have hop:=hx.op
 obtain⟨g',c',l',fl',hr,hR⟩:=wide_r hs hk hx hz hI hf hn (rip:=rip) (nx:=nx)
 generalize (((MS.mk g m c l).wide fl nx x n z).1,nx,((MS.mk g m c l).wide fl nx x n z).2)=e at hR⊢
 unfold fV aR
 dsimp only
 rw[hop,AS,aa,ag,decide_eq_false (by omega)]
 dsimp only
 rw[aj,show(dT x ()).1=(n:Int)from hop,Du,aa,ag,decide_eq_false (by omega)]
 dsimp only
 rw[aj,show(dT x ()).1=(n:Int)from hop,ei,dy,aa,decide_eq_false (by omega)]
 dsimp only
 rw[aj,ar (by omega),aj,ar (by omega),aj,ar (by omega),aj,ar (by omega),aj,ar (by omega),aj,ar (by omega),aj,dy,aa]
 dsimp only
 rw[Bz,decide_eq_true (by omega),aI,hr,aa]
 exact⟨⟨g',m,c',l'⟩,fl',nx,rfl,hR⟩
theorem zY (hx:ExV x n)(hn:29≤n){e:MS×Int×Int}{S:MS}{fl' nx':Int}(hr:aD ((x,()),((g,rip,fl,m,nx,c,()),l,()))=some ((),S.r rip fl' nx'))(hR:RelR S nx' fl' e):fV g m c l x rip fl nx e:=by
 have hop:=hx.op
 unfold fV aR
 dsimp only
 rw[hop,AS,aa,ag,decide_eq_false (by omega)]
 dsimp only
 rw[aj,show(dT x ()).1=(n:Int)from hop,Du,aa,ag,decide_eq_false (by omega)]
 dsimp only
 rw[aj,show(dT x ()).1=(n:Int)from hop,ei,dy,aa,decide_eq_false (by omega)]
 dsimp only
 rw[aj,ar (by omega),aj,ar (by omega),aj,ar (by omega),aj,ar (by omega),aj,ar (by omega),aj,ar (by omega),aj,dy,aa]
 dsimp only
 rw[Bz,decide_eq_false (by omega),aj,hr,aa]
 exact⟨S,fl',nx',rfl,hR⟩
end
end
set_option maxRecDepth 100000
set_option linter.unusedSectionVars false
noncomputable section
theorem CL (g:List Int)(v w:Int):setA (setA g 7 v) 6 w=setA (setA g 6 w) 7 v:=by
 have hp:∀i a,eA 16 (aB .i) (Go.Den.G.setA g i a)=Go.Den.G.setA g i a:=fun i a=>by
  unfold Go.Den.G.setA cF
  unfold eA
  rw[List.length_set,List.length_append,List.length_replicate,show 16-(g.length+(16-g.length))=0 by omega]
  simp
 have h1:setA (setA g 7 v) 6 w=cF (setA g 7 v) 6 w:=by rw[Go.Den.G.setA,hp]
 have h2:setA (setA g 6 w) 7 v=cF (setA g 6 w) 7 v:=by rw[Go.Den.G.setA,hp]
 rw[h1,h2]
 unfold Go.Den.G.setA cF
 exact(List.set_comm w v (by decide)).symm
theorem vK (g:List Int)(v:Int):rg (setA g 6 v) 7=rg g 7∧rg (setA g 7 v) 6=rg g 6:=by
 have hp:∀j:Nat,(eA 16 (aB .i) g).getD j (aB .i)=g.getD j (aB .i):=fun j=>by
  unfold eA
  rw[List.getD_eq_getElem?_getD,List.getD_eq_getElem?_getD,List.getElem?_append]
  split
  ·rfl
  ·rw[List.getElem?_replicate,List.getElem?_eq_none (by omega)]
   split<;>rfl
 unfold rg aP Go.Den.G.setA cF
 constructor
 ·rw[List.getD_eq_getElem?_getD,List.getElem?_set_ne (by decide),←List.getD_eq_getElem?_getD,hp]
 ·rw[List.getD_eq_getElem?_getD,List.getElem?_set_ne (by decide),←List.getD_eq_getElem?_getD,hp]
section
variable {g:List Int}{m:List Page}{c:Int}{l:List Acc}{k:Nat}(hs:(MS.mk g m c l).ok k)(hk:k+4≤1000){x:Ins}{z:Nat}{rip fl nx:Int}
include hs hk
def l7 (g:List Int)(m:List Page)(c:Int)(l:List Acc)(x:Ins)(rip fl nx:Int)(e:MS×Int×Int):Prop:=
 ∃S fl' nx',aD ((x,()),((g,rip,fl,m,nx,c,()),l,()))=some ((),S.r rip fl' nx')∧RelR S nx' fl' e
theorem E5 (hx:ExV x 35):l7 g m c l x rip fl nx ((MS.mk g m c l).move fl nx x 35 z,nx,fl):=by
 have hop:=hx.op
 have hdv:=hx.dv
 rw[hx.szs.2.2.2.1 rfl]at hdv
 obtain⟨g',m',c',l',e2,r2,ok2⟩:=ptq hs (by omega) (n:=1) rfl hdv (hx.kd.1 (by omega)) nx (show I64 (if iF x.cond fl=true then 1 else 0)by split<;>(unfold I64;decide))
 have r2':∀rip fl',aK ((cZ x.dst (),(1,((if iF x.cond fl=true then 1 else 0),()))),((g,rip,fl',m,nx,c,()),l,()))=_:=r2
 have hre:(MS.mk g m c l).move fl nx x 35 z=⟨g',m',c',l'⟩:=by
  unfold MS.move
  rw[if_neg (by decide),if_neg (by decide),if_neg (by decide),if_neg (by decide),if_neg (by decide),if_pos rfl]
  exact e2
 rw[hre]
 unfold l7
 unfold aD
 dsimp only
 rw[hop,bc (by omega),aI]
 rw[mS hx.c0 hx.c1,aa,uR,aa,r2',aa]
 exact⟨⟨g',m',c',l'⟩,fl,nx,rfl,.same rfl⟩
theorem E8 (hx:ExV x 36)(hz:x.size=z):l7 g m c l x rip fl nx ((MS.mk g m c l).move fl nx x 36 z,nx,fl):=by
 have hop:=hx.op
 have hz':co (z:Int)=true:=by rw[←hz];exact hx.szs.1 (by omega)
 have hdv:=hx.dv
 have hsv:=hx.sv
 rw[hz]at hdv
 rw[show sSz x 36=x.size from by unfold sSz;rw[if_neg (by decide),hx.fr.2 (by decide),if_neg (by decide)],hz]at hsv
 obtain⟨v1,c1,l1,e1,r1,ok1,I1⟩:=gtq hs (by omega) hz' hsv nx
 obtain⟨v2,c2,l2,e2,r2,ok2,I2⟩:=gtq ok1 (by omega) hz' hdv nx
 unfold l7
 unfold aD
 dsimp only
 rw[hop,ar (by omega),aj,bc (by omega),aI]
 rw[hz,r1,aa,mS hx.c0 hx.c1,aa]
 dsimp only[d5]
 by_cases hh:iF x.cond fl=true
 ·obtain⟨g',m',c',l',e3,r3,ok3⟩:=ptq ok1 (by omega) hz' hdv (hx.kd.1 (by omega)) nx I1
  unfold cZ at r3
  have hre:(MS.mk g m c l).move fl nx x 36 z=⟨g',m',c',l'⟩:=by
   unfold MS.move
   dsimp only
   rw[if_neg (by decide),if_neg (by decide),if_neg (by decide),if_neg (by decide),if_neg (by decide),if_neg (by decide),if_pos rfl,e1,if_pos hh]
   exact e3
  rw[hre,hh,cf,aj,aa,ag]
  dsimp only[dT,cZ,cp7,d5]
  rw[hz,r3,aa]
  exact⟨⟨g',m',c',l'⟩,fl,nx,rfl,.same rfl⟩
 ·obtain⟨g',m',c',l',e3,r3,ok3⟩:=ptq ok2 (by omega) hz' hdv (hx.kd.1 (by omega)) nx I2
  unfold cZ at r3
  have hre:(MS.mk g m c l).move fl nx x 36 z=⟨g',m',c',l'⟩:=by
   unfold MS.move
   dsimp only
   rw[if_neg (by decide),if_neg (by decide),if_neg (by decide),if_neg (by decide),if_neg (by decide),if_neg (by decide),if_pos rfl,e1,if_neg hh]
   dsimp only
   rw[e2]
   exact e3
  rw[hre,Bool.eq_false_iff.2 hh,dw,aI,r2,aa,aa,ag]
  dsimp only[dT,cZ,cp7,d5]
  rw[hz,r3,aa]
  exact⟨⟨g',m',c',l'⟩,fl,nx,rfl,.same rfl⟩
theorem Fc (hx:ExV x 39)(hz:x.size=z):l7 g m c l x rip fl nx ((MS.mk g m c l).move fl nx x 39 z,nx,fl):=by
 have hop:=hx.op
 have h39:=hx.szs.2.1 rfl
 rw[hz]at h39
 have hz':co (z:Int)=true:=by rcases h39 with h|h|h<;>rw[h]<;>rfl
 have hz2:co ((z/2:Nat):Int)=true:=by rcases h39 with h|h|h<;>rw[show z/2=_ from by rw[show z=_ from Int.ofNat_inj.1 h]]<;>rfl
 have h18:=dR hz2
 have hq:jS .i64 (z:Int) 2=((z/2:Nat):Int):=by rw[gQ (by omega) (by decide) (by omega)];omega
 have hsg:=jy (rg g 0) ((z/2:Nat):Int) (by omega) (by omega)
 rw[show(8*((z/2:Nat):Int)-1).toNat=8*(z/2)-1 by omega]at hsg
 have hI:I64 (sx (8*(z/2)-1) (rg g 0)):=gS _ (by omega) _
 have hst:=jH (g:=g) (rip:=rip) (fl:=fl) hs.g hI hz' (reg0 z)
 have hre:(MS.mk g m c l).move fl nx x 39 z=⟨qT g 0 z (sx (8*(z/2)-1) (rg g 0)),m,c,l⟩:=by
  unfold MS.move
  rw[if_neg (by decide),if_neg (by decide),if_neg (by decide),if_neg (by decide),if_neg (by decide),if_neg (by decide),if_neg (by decide),if_pos rfl,show jZ (MS.mk g m c l).g 0 (z/2)=bZ (rg g 0) (z/2)from if_neg (by decide),Dd hz2]
 rw[hre]
 unfold l7
 unfold aD
 dsimp only
 rw[hop,ar (by omega),aj,ar (by omega),aj,bc (by omega),aI]
 rw[hz,hq]
 have hsg':aT (((aP g 0 (aB .i)),(((z/2:Nat):Int),())),())=_:=hsg
 rw[hsg',aa,hst,aa]
 exact⟨_,fl,nx,rfl,.same rfl⟩
theorem Fd (hx:ExV x 40)(hz:x.size=z):l7 g m c l x rip fl nx ((MS.mk g m c l).move fl nx x 40 z,nx,fl):=by
 have hop:=hx.op
 have hz':co (z:Int)=true:=by rw[←hz];exact hx.szs.1 (by omega)
 have h18:=dR hz'
 have hsg:=jy (rg g 0) (z:Int) (by omega) (by omega)
 rw[show(8*(z:Int)-1).toNat=8*z-1 by omega]at hsg
 have hI0:I64 (sx (8*z-1) (rg g 0)):=gS _ (by omega) _
 have hI:I64 (cA .i64 (sx (8*z-1) (rg g 0)) 63):=by
  rw[CQ hI0]
  split<;>(unfold I64;decide)
 have hst:=jH (g:=g) (r:=2) (rip:=rip) (fl:=fl) hs.g hI hz' (by unfold qM;omega)
 have hre:(MS.mk g m c l).move fl nx x 40 z=⟨qT g 2 z (cA .i64 (sx (8*z-1) (rg g 0)) 63),m,c,l⟩:=by
  unfold MS.move
  rw[if_neg (by decide),if_neg (by decide),if_neg (by decide),if_neg (by decide),if_neg (by decide),if_neg (by decide),if_neg (by decide),if_neg (by decide),if_pos rfl,show jZ (MS.mk g m c l).g 0 z=bZ (rg g 0) z from if_neg (by decide),Dd hz']
 rw[hre]
 unfold l7
 unfold aD
 dsimp only
 rw[hop,ar (by omega),aj,ar (by omega),aj,ar (by omega),aj,bc (by omega),aI]
 rw[hz]
 have hsg':aT (((aP g 0 (aB .i)),((z:Int),())),())=_:=hsg
 rw[hsg',aa,hst,aa]
 exact⟨_,fl,nx,rfl,.same rfl⟩
theorem Ff (hx:ExV x 41):l7 g m c l x rip fl nx (((MS.mk g m c l).flow nx fl nx x 41).1,((MS.mk g m c l).flow nx fl nx x 41).2,fl):=by
 have hop:=hx.op
 obtain⟨m',c',l',e1,r1,ok1⟩:=stq hs (by omega) (hs.g 7) (n:=1) rfl (hs.g 0)
 have r1':aW ((aP g 7 (aB .i),(1,(aP g 0 (aB .i),()))),((g,rip,fl,m,nx,c,()),l,()))=_:=r1 rip fl nx
 have hre:(MS.mk g m c l).flow nx fl nx x 41=(⟨setA g 7 (aE .i64 (rg g 7) 1),m',c',l'⟩,nx):=by
  unfold MS.flow
  rw[if_neg (by decide),if_neg (by decide),if_neg (by decide),if_neg (by decide),if_neg (by decide),if_neg (by decide),if_pos rfl]
  dsimp only
  rw[e1]
 rw[hre]
 unfold l7
 unfold aD
 dsimp only
 rw[hop,ar (by omega),aj,ar (by omega),aj,ar (by omega),aj,ar (by omega),aj,bc (by omega),aI]
 rw[r1',aa,fd,aa]
 exact⟨_,fl,nx,rfl,.same rfl⟩
theorem Fg (hx:ExV x 42):l7 g m c l x rip fl nx (((MS.mk g m c l).flow nx fl nx x 42).1,((MS.mk g m c l).flow nx fl nx x 42).2,fl):=by
 have hop:=hx.op
 obtain⟨v1,c1,l1,e1,r1,ok1,I1⟩:=ldq hs (by omega) (hs.g 6) (n:=1) rfl
 obtain⟨m',c',l',e2,r2,ok2⟩:=stq ok1 (by omega) (hs.g 7) (n:=1) rfl I1
 have r1':bm ((aP g 6 (aB .i),(1,())),((g,rip,fl,m,nx,c,()),l,()))=_:=r1 rip fl nx
 have r2':aW ((aP g 7 (aB .i),(1,(v1,()))),((g,rip,fl,m,nx,c1,()),l1,()))=_:=r2 rip fl nx
 have hre:(MS.mk g m c l).flow nx fl nx x 42=(⟨setA (setA g 7 (aE .i64 (rg g 7) 1)) 6 (aE .i64 (rg g 6) 1),m',c',l'⟩,nx):=by
  unfold MS.flow
  rw[if_neg (by decide),if_neg (by decide),if_neg (by decide),if_neg (by decide),if_neg (by decide),if_neg (by decide),if_neg (by decide),if_pos rfl]
  dsimp only
  rw[e1]
  dsimp only
  rw[e2]
  dsimp only
  rw[(vK g _).1,CL]
 rw[hre]
 unfold l7
 unfold aD
 dsimp only
 rw[hop,ar (by omega),aj,ar (by omega),aj,ar (by omega),aj,ar (by omega),aj,ar (by omega),aj,bc (by omega),aI]
 rw[r1',aa]
 dsimp only[d5]
 rw[r2',aa,fd,aa]
 dsimp only
 have h6:aX (((aP (cF (eA 16 (aB .i) g) 7 (aE .i64 (aP g 7 (aB .i)) 1)) 6 (aB .i)),(1,())),())=some (aE .i64 (rg g 6) 1,()):=by
  rw[fd]
  have:=(vK g (aE .i64 (aP g 7 (aB .i)) 1)).2
  unfold rg Go.Den.G.setA at this
  rw[this]
 rw[h6,aa]
 exact⟨_,fl,nx,rfl,.same rfl⟩
theorem EW (hx:ExV x 29):l7 g m c l x rip fl nx (((MS.mk g m c l).flow nx fl nx x 29).1,((MS.mk g m c l).flow nx fl nx x 29).2,fl):=by
 have hop:=hx.op
 have hsv:=hx.sv
 rw[show sSz x 29=x.size from by unfold sSz;rw[if_neg (by decide),hx.fr.2 (by decide),if_neg (by decide)],hx.szs.2.2.1 (by decide)]at hsv
 obtain⟨v1,c1,l1,e1,r1,ok1,I1⟩:=gtq hs (by omega) (n:=8) rfl hsv nx
 obtain⟨g',m',c',l',e2,r2,ok2⟩:=puq ok1 (by omega) I1
 have r1':aw ((cZ x.src (),(8,())),((g,rip,fl,m,nx,c,()),l,()))=_:=r1 rip fl
 have hre:(MS.mk g m c l).flow nx fl nx x 29=(⟨g',m',c',l'⟩,nx):=by
  unfold MS.flow
  rw[if_pos rfl,e1]
  dsimp only
  rw[e2]
 rw[hre]
 unfold l7
 unfold aD
 dsimp only
 rw[hop,ar (by omega),aj,ar (by omega),aj,ar (by omega),aj,ar (by omega),aj,ar (by omega),aj,ar (by omega),aj,bc (by omega),aI]
 rw[r1',aa]
 dsimp only[d5]
 rw[r2,aa]
 exact⟨⟨g',m',c',l'⟩,fl,nx,rfl,.same rfl⟩
theorem EX (hx:ExV x 30):l7 g m c l x rip fl nx (((MS.mk g m c l).flow nx fl nx x 30).1,((MS.mk g m c l).flow nx fl nx x 30).2,fl):=by
 have hop:=hx.op
 have hdv:=hx.dv
 rw[hx.szs.2.2.1 (by decide)]at hdv
 obtain⟨v1,g1,c1,l1,e1,r1,ok1,I1⟩:=poq hs (by omega)
 obtain⟨g',m',c',l',e2,r2,ok2⟩:=ptq ok1 (by omega) (n:=8) rfl hdv (hx.kd.1 (by decide)) nx I1
 have r2':aK ((cZ x.dst (),(8,(v1,()))),((g1,rip,fl,m,nx,c1,()),l1,()))=_:=r2 rip fl
 have hre:(MS.mk g m c l).flow nx fl nx x 30=(⟨g',m',c',l'⟩,nx):=by
  unfold MS.flow
  rw[if_neg (by decide),if_pos rfl,e1]
  dsimp only
  rw[e2]
 rw[hre]
 unfold l7
 unfold aD
 dsimp only
 rw[hop,ar (by omega),aj,ar (by omega),aj,ar (by omega),aj,ar (by omega),aj,ar (by omega),aj,ar (by omega),aj,ar (by omega),aj,bc (by omega),aI]
 rw[r1,aa]
 dsimp only[d5]
 rw[r2',aa]
 exact⟨⟨g',m',c',l'⟩,fl,nx,rfl,.same rfl⟩
theorem Fb (hx:ExV x 38):l7 g m c l x rip fl nx (((MS.mk g m c l).flow nx fl nx x 38).1,((MS.mk g m c l).flow nx fl nx x 38).2,fl):=by
 have hop:=hx.op
 have hre:(MS.mk g m c l).flow nx fl nx x 38=(⟨g,m,17,l⟩,nx):=by
  unfold MS.flow
  rw[if_neg (by decide),if_neg (by decide),if_neg (by decide),if_neg (by decide),if_neg (by decide),if_neg (by decide),if_neg (by decide),if_neg (by decide),if_pos rfl]
 rw[hre]
 unfold l7
 unfold aD
 dsimp only
 rw[hop,ar (by omega),aj,ar (by omega),aj,ar (by omega),aj,ar (by omega),aj,ar (by omega),aj,ar (by omega),aj,ar (by omega),aj,ar (by omega),aj,bc (by omega),aI]
 exact⟨⟨g,m,17,l⟩,fl,nx,rfl,.same rfl⟩
theorem Fh (hx:ExV x 43):l7 g m c l x rip fl nx (((MS.mk g m c l).flow nx fl nx x 43).1,((MS.mk g m c l).flow nx fl nx x 43).2,fl):=by
 have hop:=hx.op
 have hre:(MS.mk g m c l).flow nx fl nx x 43=(⟨g,m,18,l⟩,nx):=by
  unfold MS.flow
  rw[if_neg (by decide),if_neg (by decide),if_neg (by decide),if_neg (by decide),if_neg (by decide),if_neg (by decide),if_neg (by decide),if_neg (by decide),if_neg (by decide),if_pos (by decide)]
 rw[hre]
 unfold l7
 unfold aD
 dsimp only
 rw[hop,ar (by omega),aj,ar (by omega),aj,ar (by omega),aj,ar (by omega),aj,ar (by omega),aj,ar (by omega),aj,ar (by omega),aj,ar (by omega),aj,ar (by omega),aj]
 rw[show eqI ((43:Nat):Int) 43=true from rfl,aI,aa,ag]
 dsimp only
 rw[aI]
 exact⟨⟨g,m,18,l⟩,fl,nx,rfl,.same rfl⟩
theorem Fi (hx:ExV x 44):l7 g m c l x rip fl nx (((MS.mk g m c l).flow nx fl nx x 44).1,((MS.mk g m c l).flow nx fl nx x 44).2,fl):=by
 have hop:=hx.op
 have hre:(MS.mk g m c l).flow nx fl nx x 44=(⟨g,m,18,l⟩,nx):=by
  unfold MS.flow
  rw[if_neg (by decide),if_neg (by decide),if_neg (by decide),if_neg (by decide),if_neg (by decide),if_neg (by decide),if_neg (by decide),if_neg (by decide),if_neg (by decide),if_pos (by decide)]
 rw[hre]
 unfold l7
 unfold aD
 dsimp only
 rw[hop,ar (by omega),aj,ar (by omega),aj,ar (by omega),aj,ar (by omega),aj,ar (by omega),aj,ar (by omega),aj,ar (by omega),aj,ar (by omega),aj,ar (by omega),aj]
 rw[show eqI ((44:Nat):Int) 43=false from rfl,aj,aa,ag]
 dsimp only
 rw[show eqI ((44:Nat):Int) 44=true from rfl,aI]
 exact⟨⟨g,m,18,l⟩,fl,nx,rfl,.same rfl⟩
theorem EY (hx:ExV x 31)(hnx:I64 nx):l7 g m c l x rip fl nx (((MS.mk g m c l).flow nx fl nx x 31).1,((MS.mk g m c l).flow nx fl nx x 31).2,fl):=by
 have hop:=hx.op
 have hsv:=hx.sv
 rw[show sSz x 31=x.size from by unfold sSz;rw[if_neg (by decide),hx.fr.2 (by decide),if_neg (by decide)],hx.szs.2.2.1 (by decide)]at hsv
 obtain⟨v1,c1,l1,e1,r1,ok1,I1⟩:=goq hs (by omega) hsv nx
 obtain⟨g',m',c',l',e2,r2,ok2⟩:=puq ok1 (by omega) hnx
 have hre:(MS.mk g m c l).flow nx fl nx x 31=(⟨g',m',c',l'⟩,v1):=by
  unfold MS.flow
  rw[if_neg (by decide),if_neg (by decide),if_pos rfl,e1]
  dsimp only
  rw[e2]
 rw[hre]
 unfold l7
 unfold aD
 dsimp only
 rw[hop,ar (by omega),aj,ar (by omega),aj,ar (by omega),aj,ar (by omega),aj,ar (by omega),aj,ar (by omega),aj,ar (by omega),aj,ar (by omega),aj,ar (by omega),aj]
 rw[show eqI ((31:Nat):Int) 43=false from rfl,aj,aa,ag]
 dsimp only
 rw[show eqI ((31:Nat):Int) 44=false from rfl,aj,Bz]
 unfold bX
 dsimp only
 rw[hop,bc (by omega),aI]
 rw[r1,aa]
 dsimp only[d5]
 rw[r2,aa]
 exact⟨⟨g',m',c',l'⟩,fl,v1,rfl,.same rfl⟩
theorem EZ (hx:ExV x 32):l7 g m c l x rip fl nx (((MS.mk g m c l).flow nx fl nx x 32).1,((MS.mk g m c l).flow nx fl nx x 32).2,fl):=by
 have hop:=hx.op
 have hsv:=hx.sv
 rw[show sSz x 32=x.size from by unfold sSz;rw[if_neg (by decide),hx.fr.2 (by decide),if_neg (by decide)],hx.szs.2.2.1 (by decide)]at hsv
 obtain⟨v1,c1,l1,e1,r1,ok1,I1⟩:=goq hs (by omega) hsv nx
 have hre:(MS.mk g m c l).flow nx fl nx x 32=(⟨g,m,c1,l1⟩,v1):=by
  unfold MS.flow
  rw[if_neg (by decide),if_neg (by decide),if_neg (by decide),if_neg (by decide),if_pos rfl,e1]
 rw[hre]
 unfold l7
 unfold aD
 dsimp only
 rw[hop,ar (by omega),aj,ar (by omega),aj,ar (by omega),aj,ar (by omega),aj,ar (by omega),aj,ar (by omega),aj,ar (by omega),aj,ar (by omega),aj,ar (by omega),aj]
 rw[show eqI ((32:Nat):Int) 43=false from rfl,aj,aa,ag]
 dsimp only
 rw[show eqI ((32:Nat):Int) 44=false from rfl,aj,Bz]
 unfold bX
 dsimp only
 rw[hop,ar (by omega),aj,bc (by omega),aI]
 rw[r1,aa]
 exact⟨⟨g,m,c1,l1⟩,fl,v1,rfl,.same rfl⟩
theorem E0 (hx:ExV x 33):l7 g m c l x rip fl nx (((MS.mk g m c l).flow nx fl nx x 33).1,((MS.mk g m c l).flow nx fl nx x 33).2,fl):=by
 have hop:=hx.op
 have hk3:=hx.kd.2.2.2.2.2.2.2.1 rfl
 have hgo:∀s:MS,s.go nx x=(aE .i64 nx x.src.imm,s):=fun s=>if_pos hk3
 have hg2:bC ((x,()),((g,rip,fl,m,nx,c,()),l,()))=some (aE .i64 nx x.src.imm,((g,rip,fl,m,nx,c,()),l,())):=by
  unfold bC
  dsimp only
  rw[bc hk3,aI,fd,aa]
 have hre:(MS.mk g m c l).flow nx fl nx x 33=(⟨g,m,c,l⟩,if iF x.cond fl=true then aE .i64 nx x.src.imm else nx):=by
  unfold MS.flow
  rw[if_neg (by decide),if_neg (by decide),if_neg (by decide),if_neg (by decide),if_neg (by decide),if_pos rfl,hgo]
  split<;>rfl
 rw[hre]
 unfold l7
 unfold aD
 dsimp only
 rw[hop,ar (by omega),aj,ar (by omega),aj,ar (by omega),aj,ar (by omega),aj,ar (by omega),aj,ar (by omega),aj,ar (by omega),aj,ar (by omega),aj,ar (by omega),aj]
 rw[show eqI ((33:Nat):Int) 43=false from rfl,aj,aa,ag]
 dsimp only
 rw[show eqI ((33:Nat):Int) 44=false from rfl,aj,Bz]
 unfold bX
 dsimp only
 rw[hop,ar (by omega),aj,ar (by omega),aj,bc (by omega),aI]
 rw[mS hx.c0 hx.c1,aa]
 dsimp only
 by_cases hh:iF x.cond fl=true
 ·rw[hh,aI,hg2,aa,if_pos rfl]
  exact⟨⟨g,m,c,l⟩,fl,_,rfl,.same rfl⟩
 ·rw[Bool.eq_false_iff.2 hh,aj,if_neg (by decide)]
  exact⟨⟨g,m,c,l⟩,fl,_,rfl,.same rfl⟩
theorem E3 (hx:ExV x 34):l7 g m c l x rip fl nx (((MS.mk g m c l).flow nx fl nx x 34).1,((MS.mk g m c l).flow nx fl nx x 34).2,fl):=by
 have hop:=hx.op
 obtain⟨v1,g1,c1,l1,e1,r1,ok1,I1⟩:=poq hs (by omega)
 have hre:(MS.mk g m c l).flow nx fl nx x 34=(⟨g1,m,c1,l1⟩,v1):=by
  unfold MS.flow
  rw[if_neg (by decide),if_neg (by decide),if_neg (by decide),if_pos rfl,e1]
 rw[hre]
 unfold l7
 unfold aD
 dsimp only
 rw[hop,ar (by omega),aj,ar (by omega),aj,ar (by omega),aj,ar (by omega),aj,ar (by omega),aj,ar (by omega),aj,ar (by omega),aj,ar (by omega),aj,ar (by omega),aj]
 rw[show eqI ((34:Nat):Int) 43=false from rfl,aj,aa,ag]
 dsimp only
 rw[show eqI ((34:Nat):Int) 44=false from rfl,aj,Bz]
 unfold bX
 dsimp only
 rw[hop,ar (by omega),aj,ar (by omega),aj,ar (by omega),aj,bc (by omega),aI]
 rw[r1,aa]
 exact⟨⟨g1,m,c1,l1⟩,fl,v1,rfl,.same rfl⟩
theorem Fa (hx:ExV x 37):l7 g m c l x rip fl nx (((MS.mk g m c l).flow nx fl nx x 37).1,((MS.mk g m c l).flow nx fl nx x 37).2,fl):=by
 have hop:=hx.op
 have hre:(MS.mk g m c l).flow nx fl nx x 37=(⟨g,m,c,l⟩,nx):=by
  unfold MS.flow
  rw[if_neg (by decide),if_neg (by decide),if_neg (by decide),if_neg (by decide),if_neg (by decide),if_neg (by decide),if_neg (by decide),if_neg (by decide),if_neg (by decide),if_neg (by decide)]
 rw[hre]
 unfold l7
 unfold aD
 dsimp only
 rw[hop,ar (by omega),aj,ar (by omega),aj,ar (by omega),aj,ar (by omega),aj,ar (by omega),aj,ar (by omega),aj,ar (by omega),aj,ar (by omega),aj,ar (by omega),aj]
 rw[show eqI ((37:Nat):Int) 43=false from rfl,aj,aa,ag]
 dsimp only
 rw[show eqI ((37:Nat):Int) 44=false from rfl,aj,Bz]
 unfold bX
 dsimp only
 rw[hop,ar (by omega),aj,ar (by omega),aj,ar (by omega),aj,ar (by omega),aj]
 exact⟨⟨g,m,c,l⟩,fl,nx,rfl,.same rfl⟩
end
end
noncomputable section
theorem szN_all:∀n,n<45→1≤n→∀z∈szL (szK n),(0:Int)≤z:=by decide +kernel
theorem l7.plain {g:List Int}{m:List Page}{c:Int}{l:List Acc}{k:Nat}(hs:(MS.mk g m c l).ok k)(hk:k+4≤1000){x:Ins}{n:Nat}{rip fl nx:Int}{e:MS×Int×Int}(hx:ExV x n)(hn:29≤n)(h:l7 g m c l x rip fl nx e):fV g m c l x rip fl nx e:=by
 obtain⟨S,fl',nx',hr,hR⟩:=h
 exact zY hs hk hx hn hr hR
theorem plain_r {g:List Int}{rip fl:Int}{m:List Page}{x:Ins}{n z:Nat}(hm:MemT m)(hg:jf g)(hI:I64 fl)(hf:bV fl=true)(hx:ExV x n)(hz:x.size=z):
  fV g m 0 [] x rip fl (aE .i64 rip x.len) (exM g rip fl m x n z):=by
 have hs:(MS.mk g m 0 []).ok 0:=⟨hm,Nat.le_refl 0,hg⟩
 have hk:0+4≤1000:=by decide
 have h1:=hx.n1
 have h2:=hx.n2
 have hnx:I64 (aE .i64 rip x.len):=au _
 unfold exM
 dsimp only
 by_cases hmv:mvB n=true
 ·rw[if_pos hmv]
  have hn:=of_decide_eq_true hmv
  rcases hn with rfl|rfl|rfl|rfl|rfl|rfl|rfl|rfl|rfl
  ·exact plain_9 hs hk hx hz
  ·exact Fu hs hk hx hz
  ·exact Fp hs hk hx hz
  ·exact Fq hs hk hx hz
  ·exact Fr hs hk hx hz
  ·exact(E5 hs hk hx).plain hs hk hx (by decide)
  ·exact(E8 hs hk hx hz).plain hs hk hx (by decide)
  ·exact(Fc hs hk hx hz).plain hs hk hx (by decide)
  ·exact(Fd hs hk hx hz).plain hs hk hx (by decide)
 ·rw[if_neg hmv]
  by_cases hwd:wdB n=true
  ·rw[if_pos hwd]
   have hn:=of_decide_eq_true hwd
   exact zZ hs hk hx hz hI hf (by omega)
  ·rw[if_neg hwd]
   by_cases hfw:fwB n=true
   ·rw[if_pos hfw]
    have hn:=of_decide_eq_true hfw
    rcases hn with rfl|rfl|rfl|rfl|rfl|rfl|rfl|rfl|rfl|rfl|rfl|rfl
    ·exact(EW hs hk hx).plain hs hk hx (by decide)
    ·exact(EX hs hk hx).plain hs hk hx (by decide)
    ·exact(EY hs hk hx hnx).plain hs hk hx (by decide)
    ·exact(E3 hs hk hx).plain hs hk hx (by decide)
    ·exact(EZ hs hk hx).plain hs hk hx (by decide)
    ·exact(E0 hs hk hx).plain hs hk hx (by decide)
    ·exact(Ff hs hk hx).plain hs hk hx (by decide)
    ·exact(Fg hs hk hx).plain hs hk hx (by decide)
    ·exact(Fb hs hk hx).plain hs hk hx (by decide)
    ·exact(Fh hs hk hx).plain hs hk hx (by decide)
    ·exact(Fi hs hk hx).plain hs hk hx (by decide)
    ·exact(Fa hs hk hx).plain hs hk hx (by decide)
   ·rw[if_neg hfw]
    have n1:=of_decide_eq_false (Bool.eq_false_iff.2 hmv)
    have n2:=of_decide_eq_false (Bool.eq_false_iff.2 hwd)
    have n3:=of_decide_eq_false (Bool.eq_false_iff.2 hfw)
    by_cases ha:n≤8∨n=10
    ·exact Cy hs hk hx hz ha
    by_cases hb:n=11∨n=12∨n=18∨n=19
    ·exact Cz hs hk hx hz hI hf hb
    by_cases hc:20≤n∧n≤24
    ·exact xq hs hk hx hz hI hf hc
    have:n=17:=by omega
    subst this
    exact zX hs hk hx hz hI hf
def exS (g:List Int)(rip fl:Int)(m:List Page)(r:MS×Int×Int):((List Int×Int×Int×Unit)×(List Page×Unit)×List Acc×Int×Unit)×Unit:=
 if r.1.code≠0 then(((g,rip,fl,()),(m,()),r.1.l,r.1.code,()),())else(((r.1.g,r.2.1,r.2.2,()),(r.1.m,()),r.1.l,0,()),())
theorem exec_r {g:List Int}{rip fl:Int}{m:List Page}{x:Ins}{n z:Nat}(hm:MemT m)(hg:jf g)(hI:I64 fl)(hf:bV fl=true)(hx:ExV x n)(hz:x.size=z):
  fP (((g,(rip,(fl,()))),((m,()),(x,()))),())=some (exS g rip fl m (exM g rip fl m x n z)):=by
 obtain⟨S,fl',nx',hr,h1,h2,h3⟩:=plain_r (rip:=rip) hm hg hI hf hx hz
 generalize exM g rip fl m x n z=e at h1 h2 h3
 unfold fP
 dsimp only
 rw[fd,aa]
 dsimp only
 rw[hr,aa]
 unfold MS.r exS
 dsimp only[p5,d5]
 rw[h1,h2]
 by_cases hc:e.1.code=0
 ·obtain⟨hS,rfl,rfl⟩:=h3 hc
  rw[hc,bc rfl,cf,aj,if_neg (by decide),hS]
 ·rw[ar hc,dw,aI,if_pos hc]
end
abbrev Shz:=Int×Int×Int×Bool×Int×Unit
def shz (sec:Bool)(n:Nat):Shz:=match cx ((sec,((n:Int),())),())with
 |some x=>x.1
 |none=>(0,0,0,false,0,())
theorem CN:∀n:Nat,n<256→(cx ((false,((n:Int),())),())).isSome=true∧(cx ((true,((n:Int),())),())).isSome=true:=by decide +kernel
theorem wW (sec:Bool){n:Nat}(h:n<256):cx ((sec,((n:Int),())),())=some (shz sec n,()):=by
 have h2:(cx ((sec,((n:Int),())),())).isSome=true:=by cases sec;exact(CN n h).1;exact(CN n h).2
 unfold shz
 cases hx:cx ((sec,((n:Int),())),())with
 |none=>rw[hx]at h2;cases h2
 |some x=>rfl
def shR (z:Shz):(Shz×Int×Unit)×Unit:=((if z.2.1=0 then(0,0,0,false,0,())else z,(if z.2.1=0 then 11 else 0,())),())
instance decShz:DecidableEq (Int×Int×Int×Bool×Int×Unit):=inferInstance
instance decShz2:DecidableEq ((Int×Int×Int×Bool×Int×Unit)×Int×Unit):=inferInstance
def okSh (sec:Bool)(n:Nat):Bool:=decide (fB ((sec,((n:Int),())),())=some (shR (shz sec n)))
theorem FD:∀n:Nat,n<256→okSh false n=true:=by decide +kernel
theorem FE:∀n:Nat,n<256→okSh true n=true:=by decide +kernel
theorem zk (sec:Bool){n:Nat}(h:n<256):fB ((sec,((n:Int),())),())=some (shR (shz sec n)):=by
 cases sec
 ·exact of_decide_eq_true (FD n h)
 ·exact of_decide_eq_true (FE n h)
def ns (f:Int):Bool:=decide (f=1∨f=2∨f=4∨f=5∨f=6∨f=11∨f=12∨f=13∨f=17)
theorem Bw:∀n:Nat,n<18→eK (((n:Int),()),())=some (ns n,()):=by decide +kernel
theorem Bx:∀n:Nat,n<18→cR (((n:Int),()),())=some (ns n,()):=by decide +kernel
def shP (z:Shz):Bool:=decide (0≤z.1∧z.1≤44∧0≤z.2.1∧z.2.1<18∧0≤z.2.2.1∧z.2.2.1≤7∧(z.2.2.2.2.1=0∨z.2.1=17∧(z.2.2.2.2.1=1∨z.2.2.2.2.1=2∨z.2.2.2.2.1=4))∧(z.2.1=17→z.2.2.2.2.1≠0)∧(0<z.2.2.1→ns z.2.1=true∧z.2.1≠17∧z.1=0)∧(z.1=25→z.2.1=2)∧(z.2.1≠0→z.2.2.1=0→1≤z.1))
theorem FA:∀n:Nat,n<256→shP (shz false n)=true:=by decide +kernel
theorem FB:∀n:Nat,n<256→shP (shz true n)=true:=by decide +kernel
theorem FC (sec:Bool){n:Nat}(h:n<256):shP (shz sec n)=true:=by
 cases sec
 ·exact FA n h
 ·exact FB n h
def grp (g d:Nat):Int:=match eW (((g:Int),((d:Int),())),())with
 |some x=>x.1
 |none=>0
theorem wV:∀g:Nat,g<8→1≤g→∀d:Nat,d<8→eW (((g:Int),((d:Int),())),())=some (grp g d,()):=by decide +kernel
def gpR (o:Int):(Int×Int×Unit)×Unit:=((o,(if o=0 then 11 else 0,())),())
def okGp (g d:Nat):Bool:=decide (fA (((g:Int),((d:Int),())),())=some (gpR (grp g d)))
theorem gp_impl:∀g:Nat,g<8→1≤g→∀d:Nat,d<8→okGp g d=true:=by decide +kernel
theorem zi {g d:Nat}(h:g<8)(h1:1≤g)(k:d<8):fA (((g:Int),((d:Int),())),())=some (gpR (grp g d)):=of_decide_eq_true (gp_impl g h h1 d k)
theorem Bt:∀g:Nat,g<8→∀d:Nat,d<8→0≤grp g d∧grp g d≤44:=by decide +kernel
def cU (op:Int):Bool:=decide (op=29∨op=30∨op=31∨op=32)
def eI (op:Int):Bool:=decide (op=33∨op=34∨op=37∨op=38∨op=43∨op=44)
theorem zC:∀n:Nat,n<45→dU (((n:Int),()),())=some ((if cU n=true then(8,(true,()))else if eI n=true then(0,(true,()))else(0,(false,()))),()):=by decide +kernel
def szM (by':Bool)(op:Int)(w:Bool)(x:Int):Int:=if cU op=true then 8 else if eI op=true then 0 else if by'=true then 1 else if x/8%2=1 then 8 else if w=true then 2 else 4
def px:List Int:=[38,46,54,62,100,101,102,103,240,242,243]
theorem Fo:∀n:Nat,n<256→d9 (((n:Int),()),())=some (decide ((n:Int)∈px∧n≠102),()):=by decide +kernel
section
variable {t:List UInt8}{a c:Int}
theorem AU {x:Int}(nw hr:Bool)(r:_):aO ((0,()),((t,(a,(c,(nw,(x%16,(hr,r)))))),()))=some (iW x 0,((t,(a,(c,(nw,(x%16,(hr,r)))))),())):=sD 0 (by decide) nw hr r
theorem dbit1 {x:Int}(nw hr:Bool)(r:_):aO ((1,()),((t,(a,(c,(nw,(x%16,(hr,r)))))),()))=some (iW x 1,((t,(a,(c,(nw,(x%16,(hr,r)))))),())):=sD 1 (by decide) nw hr r
theorem dbit2 {x:Int}(nw hr:Bool)(r:_):aO ((2,()),((t,(a,(c,(nw,(x%16,(hr,r)))))),()))=some (iW x 2,((t,(a,(c,(nw,(x%16,(hr,r)))))),())):=sD 2 (by decide) nw hr r
theorem dbit3 {x:Int}(nw hr:Bool)(r:_):aO ((3,()),((t,(a,(c,(nw,(x%16,(hr,r)))))),()))=some (iW x 3,((t,(a,(c,(nw,(x%16,(hr,r)))))),())):=sD 3 (by decide) nw hr r
theorem jY {x:Int}{k:Nat}(hk:k<4):0≤iW x k∧iW x k≤8∧(x=0→iW x k=0):=by
 rcases pQ (x:=x) hk with h|h<;>omega
theorem vS {b:Int}(h0:0≤b)(h1:b<256):dF .i64 1 (b/64)=2^(b/64).toNat:=by
 have:b/64=0∨b/64=1∨b/64=2∨b/64=3:=by omega
 rcases this with h|h|h|h<;>rw[h]<;>decide
theorem kz {α:Type}{o:Option α}{f:Int→Int→α}{p:Int→Int→Prop}(h:Ret o fun y=>∃a c,y=f a c∧p a c):∃a c,o=some (f a c)∧p a c:=by
 obtain⟨y,e,a,c,rfl,h⟩:=h
 exact⟨a,c,e,h⟩
theorem iw {x m z:Int}(hm0:0≤m)(hm:m<256)(nw:Bool)(op z0 z1 z2:Int)(z3:Bool)(z4 rg:Int)(r:_)
  (hl:(t.length:Int)≤1099511627776) (hp:(aH a c).In t):
  ∃a' c',aQ ((z,()),(t,a,c,nw,x%16,decide (x≠0),op,z0,z1,z2,z3,z4,m/64,rg,m%8,r),())=
   some (cZ (plM t x m z (aH a c)).1 (),(t,a',c',nw,x%16,decide (x≠0),op,z0,z1,z2,z3,z4,m/64,rg,m%8,r),())∧aH a' c'=(plM t x m z (aH a c)).2:=by
 have hmd:0≤m/64∧m/64≤3:=by omega
 have hrm:0≤m%8∧m%8≤7:=by omega
 unfold aQ plM
 dsimp only[p12,p14]
 generalize m/64=md at hmd⊢
 generalize m%8=rm at hrm⊢
 obtain⟨e0,e8,ez⟩:=jY (x:=x) (k:=0) (by decide)
 have⟨f0,f8,_⟩:=jY (x:=x) (k:=1) (by decide)
 by_cases h3:md=3
 ·rw[af (bc h3),if_pos h3,AU,aa]
  dsimp only
  rw[bg (by omega) (by omega),wx (by omega) (by omega) (by omega),aa]
  exact⟨a,c,rfl,rfl⟩
 ·rw[an (ar h3),if_neg h3,AU,aa]
  dsimp only
  unfold Av
  by_cases h4:rm=4
  ·rw[af (bc h4),if_pos h4]
   obtain⟨a1,c1,hn,hq⟩:=jm 1 (nw,x%16,decide (x≠0),op,z0,z1,z2,z3,z4,md,rg,rm,r) (by decide) (by decide) hl hp
   rw[hn,aa]
   dsimp only
   rw[AU,aa,dbit1,aa]
   dsimp only
   rw[←hq]
   have hb:=dQ t (aH a c) hp
   generalize rdU t 1 (aH a c)=b at hb⊢
   obtain⟨b6,b3,b0,_⟩:=bI hb.1 hb.2
   rw[b6,b3,b0,bg (by omega) (by omega),bg (by omega) (by omega),vS hb.1 hb.2]
   refine kz (Ret.bnd (Q:=fun y=>y=Sum.inl ((decide (md=2∨md=0∧b%8=5),()),(t,a1,c1,nw,x%16,decide (x≠0),op,z0,z1,z2,z3,z4,md,rg,rm,r),(0,0,0,0,0,0,0,()),
    (2,0,(if md=0∧b%8=5 then -1 else b%8+iW x 0),(if b/8%8+iW x 1=4 then -1 else b/8%8+iW x 1),(if b/8%8+iW x 1=4 then 1 else 2^(b/64).toNat),0,0,()),())) ?_ ?_)
   ·have hle:leI 0 (b/64)=true:=fU (by omega)
    by_cases hA:b/8%8+iW x 1=4<;>by_cases hB:md=0<;>by_cases hC:b%8=5<;>
     simp[b0,hle,hA,hB,hC,eqI,aY,br,bnd,ba,Ret]
   ·rintro _ rfl
    rw[ag]
    dsimp only[p12,d6]
    have hin:(aH a1 c1).In t:=by rw[hq];exact hp.adv (by decide)
    by_cases hW:md=2∨md=0∧b%8=5
    ·rw[af (decide_eq_true hW)]
     obtain⟨a2,c2,hn2,hq2⟩:=fR 4 (nw,x%16,decide (x≠0),op,z0,z1,z2,z3,z4,md,rg,rm,r) (by decide) (by decide) hl hin
     have hd:ko md rm b=4:=by unfold ko;repeat' split
                              all_goals omega
     rw[hn2,aa,hd]
     exact Ret.some ⟨a2,c2,rfl,hq2⟩
    ·rw[an (decide_eq_false hW)]
     by_cases h1:md=1
     ·rw[af (bc h1)]
      obtain⟨a2,c2,hn2,hq2⟩:=fR 1 (nw,x%16,decide (x≠0),op,z0,z1,z2,z3,z4,md,rg,rm,r) (by decide) (by decide) hl hin
      have hd:ko md rm b=1:=by unfold ko;repeat' split
                               all_goals omega
      rw[hn2,aa,hd]
      exact Ret.some ⟨a2,c2,rfl,hq2⟩
     ·rw[an (ar h1)]
      have hd:ko md rm b=0:=by unfold ko;repeat' split
                               all_goals omega
      rw[hd]
      exact Ret.some ⟨a1,c1,rfl,rfl⟩
  ·rw[an (ar h4),if_neg h4]
   refine kz (Ret.bnd (Q:=fun y=>y=Sum.inl ((decide (md=2∨md=0∧rm=5),()),(t,a,c,nw,x%16,decide (x≠0),op,z0,z1,z2,z3,z4,md,rg,rm,r),(0,0,0,0,0,0,0,()),
    (2,0,(if md=0∧rm=5 then 16 else rm+iW x 0),-1,1,0,0,()),())) ?_ ?_)
   ·rw[bg (by omega) (by omega)]
    by_cases hB:md=0<;>by_cases hC:rm=5<;>
     simp[hB,hC,eqI,br,bnd,ba,Ret]
   ·rintro _ rfl
    rw[ag]
    dsimp only[p12,d6]
    by_cases hR:rm=5∧md=0
    ·rw[af (decide_eq_true (.inr ⟨hR.2,hR.1⟩)),if_pos ⟨hR.2,hR.1⟩,if_pos hR]
     obtain⟨a2,c2,hn2,hq2⟩:=fR 4 (nw,x%16,decide (x≠0),op,z0,z1,z2,z3,z4,md,rg,rm,r) (by decide) (by decide) hl hp
     rw[hn2,aa]
     exact Ret.some ⟨a2,c2,rfl,hq2⟩
    ·rw[if_neg (fun g=>hR ⟨g.2,g.1⟩),if_neg hR]
     by_cases hW:md=2
     ·rw[af (decide_eq_true (.inl hW))]
      obtain⟨a2,c2,hn2,hq2⟩:=fR 4 (nw,x%16,decide (x≠0),op,z0,z1,z2,z3,z4,md,rg,rm,r) (by decide) (by decide) hl hp
      have hd:ko md rm 0=4:=by unfold ko;rw[if_pos hW]
      rw[hn2,aa,hd]
      exact Ret.some ⟨a2,c2,rfl,hq2⟩
     ·rw[an (decide_eq_false (fun g=>g.elim hW fun g=>hR ⟨g.2,g.1⟩))]
      by_cases h1:md=1
      ·rw[af (bc h1)]
       obtain⟨a2,c2,hn2,hq2⟩:=fR 1 (nw,x%16,decide (x≠0),op,z0,z1,z2,z3,z4,md,rg,rm,r) (by decide) (by decide) hl hp
       have hd:ko md rm 0=1:=by unfold ko;rw[if_neg hW,if_pos h1]
       rw[hn2,aa,hd]
       exact Ret.some ⟨a2,c2,rfl,hq2⟩
      ·rw[an (ar h1)]
       have hd:ko md rm 0=0:=by unfold ko;repeat' split
                                all_goals omega
       rw[hd]
       exact Ret.some ⟨a,c,rfl,rfl⟩
end
def noD:Opd:=⟨0,0,0,0,0,0,0⟩
def Ah (op:Int):Bool:=decide (op=13∨op=14∨op=15∨op=16∨op=31∨op=32∨op=29)
def my (t:List UInt8)(op z:Int)(q:Opd×Pos):Opd×Opd×Pos:=
 if Ah op=true then(noD,q.1,q.2)else if op=10 then(q.1,uI (rdS t (iG 4 z) q.2),adv t (iG 4 z) q.2)else(q.1,noD,q.2)
def nF (t:List UInt8)(f frm op z x b m:Int)(p:Pos):Opd×Opd×Pos:=
 if f=1 then((plM t x m z p).1,pd (jT x (m/8%8+iW x 2) z),(plM t x m z p).2)
 else if f=2 then(pd (jT x (m/8%8+iW x 2) z),(plM t x m z p).1,(plM t x m z p).2)
 else if f=17 then(pd (jT x (m/8%8+iW x 2) z),(plM t x m frm p).1,(plM t x m frm p).2)
 else if f=3 then(pd 0,uI (rdS t (iG 4 z) p),adv t (iG 4 z) p)
 else if f=4 then((plM t x m z p).1,uI (rdS t 1 (plM t x m z p).2),adv t 1 (plM t x m z p).2)
 else if f=5 then((plM t x m z p).1,uI (rdS t (iG 4 z) (plM t x m z p).2),adv t (iG 4 z) (plM t x m z p).2)
 else if f=6 then my t op z (plM t x m z p)
 else if f=7 then(if op=29 then(noD,pd (b%8+iW x 0),p)else(pd (b%8+iW x 0),noD,p))
 else if f=8 then(pd (jT x (b%8+iW x 0) z),uI (rdS t z p),adv t z p)
 else if f=9 then(noD,uI (rdS t 1 p),adv t 1 p)
 else if f=15 then(noD,uI (if op=44 then rdU t 1 p else rdS t 1 p),adv t 1 p)
 else if f=10∨f=16 then(noD,uI (rdS t 4 p),adv t 4 p)
 else if f=11 then((plM t x m z p).1,uI (rdU t 1 (plM t x m z p).2),adv t 1 (plM t x m z p).2)
 else if f=12 then((plM t x m z p).1,uI 1,(plM t x m z p).2)
 else if f=13 then((plM t x m z p).1,pd 1,(plM t x m z p).2)
 else(noD,noD,p)
section
variable {t:List UInt8}{a c:Int}
theorem wz {w:Int}{p:Pos}(h:p.In t)(hw:0≤w):(A7 t w p).In t:=by
 unfold A7;split
 ·exact h
 ·exact h.adv hw
theorem yj (mod rm b:Int):0≤ko mod rm b:=by unfold ko;(repeat' split)<;>decide
theorem i5 {x m z:Int}{p:Pos}(h:p.In t):(plM t x m z p).2.In t:=by
 unfold plM Av
 split
 ·exact h
 ·split
  ·exact wz (h.adv (by decide)) (yj ..)
  ·split
   ·exact wz h (show(0:Int)≤4 by decide)
   ·exact wz h (yj ..)
theorem mQ {z:Int}(h:fw z):1≤iG 4 z∧iG 4 z≤8:=by
 unfold fw at h
 rcases h with rfl|rfl|rfl|rfl<;>decide
theorem ww {nw:Bool}{rx:Int}{hr:Bool}{q6 q7 q8 q9:Int}{q10:Bool}{q11 q12 q13 q14 q15:Int}{z:Int}(r:_)(hz:fw z)(hl:(t.length:Int)≤1099511627776)(hp:(aH a c).In t):
  ∃a' c',bk ((),(t,a,c,nw,rx,hr,q6,q7,q8,q9,q10,q11,q12,q13,q14,q15,z,r),())=
   some (cZ (uI (rdS t (iG 4 z) (aH a c))) (),(t,a',c',nw,rx,hr,q6,q7,q8,q9,q10,q11,q12,q13,q14,q15,z,r),())∧aH a' c'=adv t (iG 4 z) (aH a c):=by
 obtain⟨a',c',e,h⟩:=fR (iG 4 z) (nw,rx,hr,q6,q7,q8,q9,q10,q11,q12,q13,q14,q15,z,r) (mQ hz).1 (mQ hz).2 hl hp
 unfold bk cG
 dsimp only[p16]
 rw[e,aa,aa]
 exact⟨a',c',rfl,h⟩
theorem sw1 {α β:Type}{a b:Bool}{r:α}:br a (some (Sum.inl ((a,()),r):Sum ((Bool×Unit)×α) β)) (some (Sum.inl ((b,()),r)))=some (Sum.inl ((a||b,()),r)):=by cases a<;>rfl
theorem sw2 {α β γ:Type}{a b:Bool}{r:α}{y:γ}:br a (some (Sum.inl ((y,a,()),r):Sum ((γ×Bool×Unit)×α) β)) (some (Sum.inl ((y,b,()),r)))=some (Sum.inl ((y,a||b,()),r)):=by cases a<;>rfl
theorem CX (op:Int):(eqI op 13||(eqI op 14||(eqI op 15||(eqI op 16||(eqI op 31||(eqI op 32||eqI op 29))))))=Ah op:=by
 rw[Bool.eq_iff_iff];simp[Ah,eqI]
theorem done_eq {x m z:Int}(hm0:0≤m)(hm:m<256)(nw:Bool)(q6 q7 q8 q9:Int)(q10:Bool)(q11 q13 op:Int)(hz:fw z)(hl:(t.length:Int)≤1099511627776)(hp:(aH a c).In t):
  ∃a' c',cj ((),(t,a,c,nw,x%16,decide (x≠0),q6,q7,q8,q9,q10,q11,m/64,q13,m%8,op,z,0,0,0,0,0,0,0,0,0,0,0,0,0,0,0,0,0,()),())=
   some ((),(t,a',c',nw,x%16,decide (x≠0),q6,q7,q8,q9,q10,q11,m/64,q13,m%8,op,z,0,0,cZ (my t op z (plM t x m z (aH a c))).1 (cZ (my t op z (plM t x m z (aH a c))).2.1 (0,()))),())∧
   aH a' c'=(my t op z (plM t x m z (aH a c))).2.2:=by
 obtain⟨a1,c1,e,h⟩:=iw (x:=x) (z:=z) hm0 hm nw q6 q7 q8 q9 q10 q11 q13 (op,z,0,0,0,0,0,0,0,0,0,0,0,0,0,0,0,0,0,()) hl hp
 have hin:(aH a1 c1).In t:=by rw[h];exact i5 hp
 unfold cj
 dsimp only[p16,p15]
 rw[e,aa]
 dsimp only
 simp only[sw1,aa,ag,CX]
 unfold my
 cases hs:Ah op with
 |true=>
  rw[aI,aa,oW,if_pos rfl]
  exact⟨a1,c1,rfl,h⟩
 |false=>
  rw[aj,aa,ag,if_neg (by decide)]
  by_cases h10:op=10
  ·rw[af (bc h10),if_pos h10]
   obtain⟨a2,c2,e2,h2⟩:=ww (nw:=nw) (rx:=x%16) (hr:=decide (x≠0)) (q6:=q6) (q7:=q7) (q8:=q8) (q9:=q9) (q10:=q10) (q11:=q11) (q12:=m/64) (q13:=q13) (q14:=m%8) (q15:=op) (0,0,cZ (plM t x m z (aH a c)).1 (0,0,0,0,0,0,0,0,())) hz hl hin
   refine kz (Ret.bnd (Q:=fun y=>y=_) (Ret.of_eq e2 rfl) ?_)
   rintro _ rfl
   rw[←h]
   exact Ret.some ⟨a2,c2,rfl,h2⟩
  ·rw[an (ar h10),if_neg h10]
   exact⟨a1,c1,rfl,h⟩
end
section
variable {t:List UInt8}{a c:Int}
theorem bI7 (b:Int)(h0:0≤b)(h1:b<256):cM .i64 b 7=b%8:=(bI h0 h1).2.2.1
theorem sz18 {z:Int}(h:fw z):1≤z∧z≤8:=by unfold fw at h;omega
theorem ut {x m z f frm b op:Int}(hm0:0≤m)(hm:m<256)(hb0:0≤b)(hb:b<256)(nw:Bool)(z0 z2:Int)(z3:Bool)(hz:(f=3∨f=5∨f=6∨f=8)→fw z)(hl:(t.length:Int)≤1099511627776)(hp:(aH a c).In t):
  ∃a' c',ck ((),(t,a,c,nw,x%16,decide (x≠0),b,z0,f,z2,z3,frm,m/64,m/8%8,m%8,op,z,0,0,0,0,0,0,0,0,0,0,0,0,0,0,0,0,0,()),())=
   some ((),(t,a',c',nw,x%16,decide (x≠0),b,z0,f,z2,z3,frm,m/64,m/8%8,m%8,op,z,0,(if f=17 then frm else 0),cZ (nF t f frm op z x b m (aH a c)).1 (cZ (nF t f frm op z x b m (aH a c)).2.1 (0,()))),())∧
   aH a' c'=(nF t f frm op z x b m (aH a c)).2.2:=by
 obtain⟨e0,e8,ez⟩:=jY (x:=x) (k:=0) (by decide)
 obtain⟨g0,g8,gz⟩:=jY (x:=x) (k:=2) (by decide)
 unfold ck nF
 dsimp only[p13,p16,p8,p15,p11,p6]
 rw[dbit2,aa]
 dsimp only
 rw[bg (by omega) (by omega),wx (by omega) (by omega) (by omega),aa]
 dsimp only
 by_cases f1:f=1
 ·rw[af (bc f1),if_pos f1,if_neg (by omega)]
  obtain⟨a1,c1,e,h⟩:=iw (x:=x) (z:=z) hm0 hm nw b z0 f z2 z3 frm (m/8%8) (op,z,0,0,0,0,0,0,0,0,0,0,0,0,0,0,0,0,0,()) hl hp
  rw[e,aa]
  exact⟨a1,c1,rfl,h⟩
 rw[an (ar f1),if_neg f1]
 by_cases f2:f=2
 ·rw[af (bc f2),if_pos f2,if_neg (by omega)]
  obtain⟨a1,c1,e,h⟩:=iw (x:=x) (z:=z) hm0 hm nw b z0 f z2 z3 frm (m/8%8) (op,z,0,0,0,0,0,0,0,0,0,0,0,0,0,0,0,0,0,()) hl hp
  rw[e,aa]
  exact⟨a1,c1,rfl,h⟩
 rw[an (ar f2),if_neg f2]
 by_cases f17:f=17
 ·rw[af (bc f17),if_pos f17,if_pos f17]
  obtain⟨a1,c1,e,h⟩:=iw (x:=x) (z:=frm) hm0 hm nw b z0 f z2 z3 frm (m/8%8) (op,z,0,frm,0,0,0,0,0,0,0,0,0,0,0,0,0,0,0,()) hl hp
  rw[e,aa]
  exact⟨a1,c1,rfl,h⟩
 rw[an (ar f17),if_neg f17,if_neg f17]
 by_cases f3:f=3
 ·rw[af (bc f3),if_pos f3]
  obtain⟨a2,c2,e2,h2⟩:=ww (nw:=nw) (rx:=x%16) (hr:=decide (x≠0)) (q6:=b) (q7:=z0) (q8:=f) (q9:=z2) (q10:=z3) (q11:=frm) (q12:=m/64) (q13:=m/8%8) (q14:=m%8) (q15:=op) (0,0,cZ (pd 0) (0,0,0,0,0,0,0,0,())) (hz (by omega)) hl hp
  refine kz (Ret.bnd (Q:=fun y=>y=(cZ (pd 0) (),())) (Ret.some rfl) ?_)
  rintro _ rfl
  refine Ret.bnd (Q:=fun y=>y=_) (Ret.of_eq e2 rfl) ?_
  rintro _ rfl
  exact Ret.some ⟨a2,c2,rfl,h2⟩
 rw[an (ar f3),if_neg f3]
 by_cases f4:f=4
 ·rw[af (bc f4),if_pos f4]
  obtain⟨a1,c1,e,h⟩:=iw (x:=x) (z:=z) hm0 hm nw b z0 f z2 z3 frm (m/8%8) (op,z,0,0,0,0,0,0,0,0,0,0,0,0,0,0,0,0,0,()) hl hp
  have hin:(aH a1 c1).In t:=by rw[h];exact i5 hp
  obtain⟨a2,c2,e2,h2⟩:=fR 1 (nw,x%16,decide (x≠0),b,z0,f,z2,z3,frm,m/64,m/8%8,m%8,op,z,0,0,cZ (plM t x m z (aH a c)).1 (0,0,0,0,0,0,0,0,())) (by decide) (by decide) hl hin
  rw[e,aa]
  refine kz (Ret.bnd (Q:=fun y=>y=_) (Ret.of_eq e2 rfl) ?_)
  rintro _ rfl
  rw[←h]
  exact Ret.some ⟨a2,c2,rfl,h2⟩
 rw[an (ar f4),if_neg f4]
 by_cases f5:f=5
 ·rw[af (bc f5),if_pos f5]
  obtain⟨a1,c1,e,h⟩:=iw (x:=x) (z:=z) hm0 hm nw b z0 f z2 z3 frm (m/8%8) (op,z,0,0,0,0,0,0,0,0,0,0,0,0,0,0,0,0,0,()) hl hp
  have hin:(aH a1 c1).In t:=by rw[h];exact i5 hp
  obtain⟨a2,c2,e2,h2⟩:=ww (nw:=nw) (rx:=x%16) (hr:=decide (x≠0)) (q6:=b) (q7:=z0) (q8:=f) (q9:=z2) (q10:=z3) (q11:=frm) (q12:=m/64) (q13:=m/8%8) (q14:=m%8) (q15:=op) (0,0,cZ (plM t x m z (aH a c)).1 (0,0,0,0,0,0,0,0,())) (hz (by omega)) hl hin
  rw[e,aa]
  refine kz (Ret.bnd (Q:=fun y=>y=_) (Ret.of_eq e2 rfl) ?_)
  rintro _ rfl
  rw[←h]
  exact Ret.some ⟨a2,c2,rfl,h2⟩
 rw[an (ar f5),if_neg f5]
 by_cases f6:f=6
 ·rw[af (bc f6),if_pos f6]
  obtain⟨a1,c1,e,h⟩:=done_eq (x:=x) (z:=z) hm0 hm nw b z0 f z2 z3 frm (m/8%8) op (hz (by omega)) hl hp
  rw[e,aa]
  exact⟨a1,c1,rfl,h⟩
 rw[an (ar f6),if_neg f6]
 by_cases f7:f=7
 ·rw[af (bc f7),if_pos f7,AU,aa,bI7 b hb0 hb]
  dsimp only
  rw[bg (by omega) (by omega)]
  by_cases ho:op=29
  ·rw[if_pos ho,bc ho]
   exact⟨a,c,rfl,rfl⟩
  ·rw[if_neg ho,ar ho]
   exact⟨a,c,rfl,rfl⟩
 rw[an (ar f7),if_neg f7]
 by_cases f8:f=8
 ·rw[af (bc f8),if_pos f8,AU,aa,bI7 b hb0 hb]
  dsimp only
  rw[bg (by omega) (by omega),wx (by omega) (by omega) (by omega),aa]
  obtain⟨s1,s8⟩:=sz18 (hz (by omega))
  obtain⟨a2,c2,e2,h2⟩:=fR z (nw,x%16,decide (x≠0),b,z0,f,z2,z3,frm,m/64,m/8%8,m%8,op,z,0,0,cZ (pd (jT x (b%8+iW x 0) z)) (0,0,0,0,0,0,0,0,())) s1 s8 hl hp
  refine kz (Ret.bnd (Q:=fun y=>y=_) (Ret.of_eq e2 rfl) ?_)
  rintro _ rfl
  exact Ret.some ⟨a2,c2,rfl,h2⟩
 rw[an (ar f8),if_neg f8]
 by_cases f9:f=9
 ·rw[af (bc f9),if_pos f9]
  obtain⟨a2,c2,e2,h2⟩:=fR 1 (nw,x%16,decide (x≠0),b,z0,f,z2,z3,frm,m/64,m/8%8,m%8,op,z,0,0,0,0,0,0,0,0,0,0,0,0,0,0,0,0,0,()) (by decide) (by decide) hl hp
  rw[e2,aa]
  exact⟨a2,c2,rfl,h2⟩
 rw[an (ar f9),if_neg f9]
 by_cases f15:f=15
 ·rw[af (bc f15),if_pos f15]
  obtain⟨a2,c2,e2,h2⟩:=jm 1 (nw,x%16,decide (x≠0),b,z0,f,z2,z3,frm,m/64,m/8%8,m%8,op,z,0,0,0,0,0,0,0,0,0,0,0,0,0,0,0,0,0,()) (by decide) (by decide) hl hp
  rw[e2,aa]
  dsimp only
  by_cases ho:op=44
  ·rw[if_pos ho,bc ho,cf,aj,aa,ag]
   exact⟨a2,c2,rfl,h2⟩
  ·rw[if_neg ho,ar ho,dw,aI,lS _ _ (by decide) (by decide),aa,aa,ag]
   exact⟨a2,c2,rfl,h2⟩
 rw[an (ar f15),if_neg f15]
 simp only[sw2,aa,ag]
 by_cases f10:f=10∨f=16
 ·rw[af (by simpa[eqI]using f10),if_pos f10]
  obtain⟨a2,c2,e2,h2⟩:=fR 4 (nw,x%16,decide (x≠0),b,z0,f,z2,z3,frm,m/64,m/8%8,m%8,op,z,0,0,0,0,0,0,0,0,0,0,0,0,0,0,0,0,0,()) (by decide) (by decide) hl hp
  rw[e2,aa]
  exact⟨a2,c2,rfl,h2⟩
 rw[an (by simpa[eqI]using f10),if_neg f10]
 by_cases f11:f=11
 ·rw[af (bc f11),if_pos f11]
  obtain⟨a1,c1,e,h⟩:=iw (x:=x) (z:=z) hm0 hm nw b z0 f z2 z3 frm (m/8%8) (op,z,0,0,0,0,0,0,0,0,0,0,0,0,0,0,0,0,0,()) hl hp
  have hin:(aH a1 c1).In t:=by rw[h];exact i5 hp
  obtain⟨a2,c2,e2,h2⟩:=jm 1 (nw,x%16,decide (x≠0),b,z0,f,z2,z3,frm,m/64,m/8%8,m%8,op,z,0,0,cZ (plM t x m z (aH a c)).1 (0,0,0,0,0,0,0,0,())) (by decide) (by decide) hl hin
  rw[e,aa]
  refine kz (Ret.bnd (Q:=fun y=>y=_) (Ret.of_eq e2 rfl) ?_)
  rintro _ rfl
  rw[←h]
  exact Ret.some ⟨a2,c2,rfl,h2⟩
 rw[an (ar f11),if_neg f11]
 by_cases f12:f=12
 ·rw[af (bc f12),if_pos f12]
  obtain⟨a1,c1,e,h⟩:=iw (x:=x) (z:=z) hm0 hm nw b z0 f z2 z3 frm (m/8%8) (op,z,0,0,0,0,0,0,0,0,0,0,0,0,0,0,0,0,0,()) hl hp
  rw[e,aa]
  exact⟨a1,c1,rfl,h⟩
 rw[an (ar f12),if_neg f12]
 by_cases f13:f=13
 ·rw[af (bc f13),if_pos f13]
  obtain⟨a1,c1,e,h⟩:=iw (x:=x) (z:=z) hm0 hm nw b z0 f z2 z3 frm (m/8%8) (op,z,0,0,0,0,0,0,0,0,0,0,0,0,0,0,0,0,0,()) hl hp
  rw[e,aa]
  exact⟨a1,c1,rfl,h⟩
 rw[an (ar f13),if_neg f13]
 exact⟨a,c,rfl,rfl⟩
end
section
variable {t:List UInt8}{a c x:Int}{w:Bool}
theorem uw (hx:mZ x):bb ((0,()),((t,(a,(x,(w,(c,()))))),()))=some (iW x 0,((t,(a,(x,(w,(c,()))))),())):=xA hx 0 (by decide)
theorem ext_s1 (hx:mZ x):bb ((1,()),((t,(a,(x,(w,(c,()))))),()))=some (iW x 1,((t,(a,(x,(w,(c,()))))),())):=xA hx 1 (by decide)
theorem ext_s2 (hx:mZ x):bb ((2,()),((t,(a,(x,(w,(c,()))))),()))=some (iW x 2,((t,(a,(x,(w,(c,()))))),())):=xA hx 2 (by decide)
theorem m7 {z:Int}(hz:fw z)(hl:(t.length:Int)≤1099511627776)(hp:(aH a c).In t):
  ∃a' c',bB ((z,()),((t,(a,(x,(w,(c,()))))),()))=some (cZ (uI (rdS t (iG 4 z) (aH a c))) (),((t,(a',(x,(w,(c',()))))),()))∧aH a' c'=adv t (iG 4 z) (aH a c):=by
 have e4:iG z 4=iG 4 z:=by unfold fw at hz;rcases hz with rfl|rfl|rfl|rfl<;>decide
 obtain⟨a',c',e,h⟩:=gy (x:=x) (w:=w) (iG 4 z) (mQ hz).1 (mQ hz).2 hl hp
 unfold bB
 dsimp only
 rw[e4,e,aa]
 exact⟨a',c',rfl,h⟩
theorem Ab {b:Int}(h0:0≤b)(h1:b<256):ah .u64 (b/64)=b/64:=cH (by omega) (by omega)
theorem Af {md rm:Int}(hx:mZ x)(hrm:0≤rm∧rm≤7)(hl:(t.length:Int)≤1099511627776)(hp:(aH a c).In t):
  ∃a' c',db ((md,(rm,())),((t,(a,(x,(w,(c,()))))),()))=some (cZ (Av t x md rm (aH a c)).1 (),((t,(a',(x,(w,(c',()))))),()))∧aH a' c'=(Av t x md rm (aH a c)).2:=by
 obtain⟨e0,e8,ez⟩:=jY (x:=x) (k:=0) (by decide)
 obtain⟨f0,f8,_⟩:=jY (x:=x) (k:=1) (by decide)
 unfold db Av
 rw[uw hx,aa]
 dsimp only[d6]
 by_cases h4:rm=4
 ·rw[af (bc h4),if_pos h4]
  obtain⟨a1,c1,hn,hq⟩:=ka (x:=x) (w:=w) hl hp
  have hin:(aH a1 c1).In t:=by rw[hq];exact hp.adv (by decide)
  rw[hn,aa]
  dsimp only
  rw[uw hx,aa,ext_s1 hx,aa]
  dsimp only
  rw[←hq]
  have hb:=dQ t (aH a c) hp
  generalize rdU t 1 (aH a c)=b at hb⊢
  rw[ej hb.1,gQ hb.1 (by decide) (by omega),gQ hb.1 (by decide) (by omega),ej (by omega),bg (by omega) (by omega),bg (by omega) (by omega),Ab hb.1 hb.2,vS hb.1 hb.2]
  have hle:leI 0 (b/64)=true:=fU (by omega)
  refine kz (Ret.bnd (Q:=fun y=>∃a2 c2,y=Sum.inl ((md,()),(t,a2,x,w,c2,()),(0,0,0,0,0,0,0,()),
    (2,0,(if md=0∧b%8=5 then -1 else b%8+iW x 0),(if b/8%8+iW x 1=4 then -1 else b/8%8+iW x 1),(if b/8%8+iW x 1=4 then 1 else 2^(b/64).toNat),(if md=0∧b%8=5 then rdS t 4 (aH a1 c1)else 0),0,()),())∧
    aH a2 c2=if md=0∧b%8=5 then adv t 4 (aH a1 c1)else aH a1 c1) ?_ ?_)
  ·refine Ret.bnd (Q:=fun y=>y=Sum.inl ((md,b,()),(t,a1,x,w,c1,()),(0,0,0,0,0,0,0,()),
    (2,0,b%8+iW x 0,(if b/8%8+iW x 1=4 then -1 else b/8%8+iW x 1),(if b/8%8+iW x 1=4 then 1 else 2^(b/64).toNat),0,0,()),())) ?_ ?_
   ·by_cases hA:b/8%8+iW x 1=4<;>simp[hle,hA,eqI,aY,br,Ret]
   ·rintro _ rfl
    rw[ag]
    dsimp only
    rw[ej hb.1]
    by_cases hC:b%8=5
    ·rw[af (bc hC),aa]
     by_cases hB:md=0
     ·rw[af (bc hB)]
      simp only[if_pos (show md=0∧b%8=5 from⟨hB,hC⟩)]
      obtain⟨a2,c2,hn2,hq2⟩:=gy (x:=x) (w:=w) 4 (by decide) (by decide) hl hin
      rw[hn2,aa,aa,ag]
      exact Ret.some ⟨a2,c2,rfl,hq2⟩
     ·rw[an (ar hB),aa,ag]
      simp only[if_neg (show ¬(md=0∧b%8=5)from fun g=>hB g.1)]
      exact Ret.some ⟨a1,c1,rfl,rfl⟩
    ·rw[an (ar hC),aa,aj,aa,ag]
     simp only[if_neg (show ¬(md=0∧b%8=5)from fun g=>hC g.2)]
     exact Ret.some ⟨a1,c1,rfl,rfl⟩
  ·rintro _ ⟨a2,c2,rfl,h2⟩
   rw[ag]
   dsimp only
   by_cases hBC:md=0∧b%8=5
   ·have hd:ko md rm b=4:=by unfold ko;rw[if_neg (by omega),if_neg (by omega),if_pos (by omega)]
    rw[if_pos hBC]at h2
    rw[if_pos hBC,if_pos hBC,ar (show md≠1 by omega),aj,aa,ag]
    dsimp only
    rw[ar (show md≠2 by omega),aj,hd]
    exact Ret.some ⟨a2,c2,rfl,h2⟩
   ·rw[if_neg hBC]at h2
    rw[if_neg hBC,if_neg hBC]
    have hin2:(aH a2 c2).In t:=by rw[h2];exact hin
    by_cases m1:md=1
    ·have hd:ko md rm b=1:=by unfold ko;rw[if_neg (by omega),if_pos m1]
     obtain⟨a3,c3,hn3,hq3⟩:=gy (x:=x) (w:=w) 1 (by decide) (by decide) hl hin2
     rw[bc m1,aI,hn3,aa,aa,ag]
     dsimp only
     rw[ar (show md≠2 by omega),aj,hd,←h2]
     exact Ret.some ⟨a3,c3,rfl,hq3⟩
    ·rw[ar m1,aj,aa,ag]
     dsimp only
     by_cases m2:md=2
     ·have hd:ko md rm b=4:=by unfold ko;rw[if_pos m2]
      obtain⟨a3,c3,hn3,hq3⟩:=gy (x:=x) (w:=w) 4 (by decide) (by decide) hl hin2
      rw[bc m2,aI,hn3,aa,hd,←h2]
      exact Ret.some ⟨a3,c3,rfl,hq3⟩
     ·have hd:ko md rm b=0:=by unfold ko;rw[if_neg m2,if_neg m1,if_neg (by omega)]
      rw[ar m2,aj,hd]
      exact Ret.some ⟨a2,c2,rfl,h2⟩
 ·rw[an (ar h4),if_neg h4]
  refine kz (Ret.bnd (Q:=fun y=>∃a2 c2,y=Sum.inl ((md,()),(t,a2,x,w,c2,()),(0,0,0,0,0,0,0,()),
    (2,0,(if rm=5∧md=0 then 16 else rm+iW x 0),-1,1,(if rm=5∧md=0 then rdS t 4 (aH a c)else 0),0,()),())∧
    aH a2 c2=if rm=5∧md=0 then adv t 4 (aH a c)else aH a c) ?_ ?_)
  ·by_cases hR:rm=5∧md=0
   ·rw[af (bc hR.1),aa,bc hR.2,aI,if_pos hR,if_pos hR,if_pos hR]
    obtain⟨a2,c2,hn2,hq2⟩:=gy (x:=x) (w:=w) 4 (by decide) (by decide) hl hp
    rw[hn2,aa,aa,ag]
    exact Ret.some ⟨a2,c2,rfl,hq2⟩
   ·rw[if_neg hR,if_neg hR,if_neg hR]
    refine Ret.bnd (Q:=fun y=>y=false) ?_ ?_
    ·by_cases h5:rm=5
     ·rw[af (bc h5)]
      exact Ret.some (ar (fun g=>hR ⟨h5,g⟩))
     ·rw[an (ar h5)]
      exact Ret.some rfl
    ·rintro _ rfl
     rw[aj,aa,ag,bg (by omega) (by omega)]
     exact Ret.some ⟨a,c,rfl,rfl⟩
  ·rintro _ ⟨a2,c2,rfl,h2⟩
   rw[ag]
   dsimp only
   by_cases hR:rm=5∧md=0
   ·rw[if_pos hR]at h2
    rw[if_pos hR,if_pos hR,if_pos hR,ar (show md≠1 by omega),aj,aa,ag]
    dsimp only
    rw[ar (show md≠2 by omega),aj]
    exact Ret.some ⟨a2,c2,rfl,h2⟩
   ·rw[if_neg hR]at h2
    rw[if_neg hR,if_neg hR,if_neg hR]
    have hin2:(aH a2 c2).In t:=by rw[h2];exact hp
    by_cases m1:md=1
    ·have hd:ko md rm 0=1:=by unfold ko;rw[if_neg (by omega),if_pos m1]
     obtain⟨a3,c3,hn3,hq3⟩:=gy (x:=x) (w:=w) 1 (by decide) (by decide) hl hin2
     rw[bc m1,aI,hn3,aa,aa,ag]
     dsimp only
     rw[ar (show md≠2 by omega),aj,hd,←h2]
     exact Ret.some ⟨a3,c3,rfl,hq3⟩
    ·rw[ar m1,aj,aa,ag]
     dsimp only
     by_cases m2:md=2
     ·have hd:ko md rm 0=4:=by unfold ko;rw[if_pos m2]
      obtain⟨a3,c3,hn3,hq3⟩:=gy (x:=x) (w:=w) 4 (by decide) (by decide) hl hin2
      rw[bc m2,aI,hn3,aa,hd,←h2]
      exact Ret.some ⟨a3,c3,rfl,hq3⟩
     ·have hd:ko md rm 0=0:=by unfold ko;rw[if_neg m2,if_neg m1,if_neg (by omega)]
      rw[ar m2,aj,hd]
      exact Ret.some ⟨a2,c2,rfl,h2⟩
end
section
variable {t:List UInt8}{a c x:Int}{w:Bool}
theorem sOne_eq (y:Ins)(o:Opd)(h1:y.dst=noD)(h2:y.src=noD):gm ((y,cZ o (),()),())=some (if Ah y.op=true then⟨y.op,y.size,y.cond,y.frm,noD,o,y.len⟩else⟨y.op,y.size,y.cond,y.frm,o,noD,y.len⟩,()):=by
 unfold gm
 dsimp only
 simp only[sw1,aa,ag,CX]
 cases hs:Ah y.op with
 |true=>
  rw[aI,aa,oW,if_pos rfl]
  obtain⟨_,_,_,_,d,e,_⟩:=y
  dsimp only at h1 h2
  subst h1 h2;rfl
 |false=>
  rw[aj,aa,ag,if_neg (by decide)]
  obtain⟨_,_,_,_,d,e,_⟩:=y
  dsimp only at h1 h2
  subst h1 h2;rfl
theorem CU {m z f frm op cd:Int}(hx:mZ x)(hm0:0≤m)(hm:m<256)(b:Int)(z0 z2:Int)(z3:Bool)(hf:ns f=true)(hz:(f=5∨f=6)→fw z)(hl:(t.length:Int)≤1099511627776)(hp:(aH a c).In t):
  ∃a' c',dq ((⟨op,z,cd,frm,noD,noD,0⟩,(z0,f,z2,z3,frm,()),m,()),(t,a,x,w,c,()),())=
   some (⟨op,z,cd,frm,(nF t f frm op z x b m (aH a c)).1,(nF t f frm op z x b m (aH a c)).2.1,0⟩,(t,a',x,w,c',()),())∧aH a' c'=(nF t f frm op z x b m (aH a c)).2.2:=by
 obtain⟨e0,e8,ez⟩:=jY (x:=x) (k:=0) (by decide)
 obtain⟨g0,g8,gz⟩:=jY (x:=x) (k:=2) (by decide)
 unfold dq
 dsimp only
 obtain⟨Z,hZ⟩:∃Z,Z=if f=17 then frm else z:=⟨_,rfl⟩
 have hm8:jS .i64 m 8=m/8:=gQ hm0 (by decide) (by omega)
 have hm64:jS .i64 m 64=m/64:=gQ hm0 (by decide) (by omega)
 have hr8:fX m 8=m%8:=ej hm0
 have hr88:fX (m/8) 8=m/8%8:=ej (by omega)
 refine kz (Ret.bnd (Q:=fun y=>y=Sum.inl ((m,Z,()),(t,a,x,w,c,()),dT ⟨op,z,cd,frm,noD,noD,0⟩ (),(z0,f,z2,z3,frm,()),(0,0,0,0,0,0,0,0,0,0,0,0,0,0,0,0,0,0,0,()),())) ?_ ?_)
 ·by_cases h17:f=17
  ·rw[af (bc h17)];exact Ret.some (by rw[hZ,if_pos h17])
  ·rw[an (ar h17)];exact Ret.some (by rw[hZ,if_neg h17])
 ·rintro _ rfl
  rw[ag]
  dsimp only
  rw[ext_s2 hx,aa,hm8,hm64,hr8,hr88]
  dsimp only
  rw[bg (by omega) (by omega),xE (by omega) (by omega),aa]
  refine Ret.bnd (Q:=fun y=>∃a1 c1,y=Sum.inl ((),(t,a1,x,w,c1,()),dT ⟨op,z,cd,frm,noD,noD,0⟩ (),(z0,f,z2,z3,frm,()),(0,0,0,0,0,0,0,0,0,0,0,0,0,0,0,0,0,0,0,()),
   cZ (pd (jT x (m/8%8+iW x 2) z)) (),cZ (plM t x m Z (aH a c)).1 (),())∧aH a1 c1=(plM t x m Z (aH a c)).2) ?_ ?_
  ·unfold plM
   by_cases h3:m/64=3
   ·rw[af (bc h3),if_pos h3,uw hx,aa]
    dsimp only
    rw[bg (by omega) (by omega),xE (by omega) (by omega),aa]
    exact Ret.some ⟨a,c,rfl,rfl⟩
   ·rw[an (ar h3),if_neg h3]
    obtain⟨a1,c1,e,h⟩:=Af (w:=w) (md:=m/64) (rm:=m%8) hx (by omega) hl hp
    rw[e,aa]
    exact Ret.some ⟨a1,c1,rfl,h⟩
  ·rintro _ ⟨a1,c1,rfl,h⟩
   have hin:(aH a1 c1).In t:=by rw[h];exact i5 hp
   rw[ag]
   dsimp only[p5,p6,d5]
   unfold nF
   by_cases f1:f=1
   ·rw[af (bc f1),if_pos f1]
    rw[if_neg (by omega)]at hZ
    subst hZ
    exact Ret.some ⟨a1,c1,rfl,h⟩
   rw[an (ar f1),if_neg f1]
   simp only[sw2,aa,ag]
   by_cases f2:f=2
   ·rw[if_pos f2,af (by simp[eqI,f2])]
    rw[if_neg (by omega)]at hZ
    subst hZ
    exact Ret.some ⟨a1,c1,rfl,h⟩
   rw[if_neg f2]
   by_cases f17:f=17
   ·rw[if_pos f17,af (by simp[eqI,f17])]
    rw[if_pos f17]at hZ
    subst hZ
    exact Ret.some ⟨a1,c1,rfl,h⟩
   rw[if_neg f17,an (by simp[eqI,f17,f2])]
   rw[if_neg f17]at hZ
   subst hZ
   rw[if_neg (show ¬f=3 by rintro rfl;revert hf;decide)]
   by_cases f4:f=4
   ·rw[if_pos f4,af (bc f4)]
    obtain⟨a2,c2,e2,h2⟩:=m7 (x:=x) (w:=w) (z:=1) (.inl rfl) hl hin
    rw[e2,aa,←h]
    exact Ret.some ⟨a2,c2,rfl,h2⟩
   rw[if_neg f4,an (ar f4)]
   by_cases f5:f=5
   ·rw[if_pos f5,af (bc f5)]
    obtain⟨a2,c2,e2,h2⟩:=m7 (x:=x) (w:=w) (z:=Z) (hz (.inl f5)) hl hin
    refine Ret.bnd (Q:=fun y=>y=_) (Ret.of_eq e2 rfl) ?_
    rintro _ rfl
    rw[←h]
    exact Ret.some ⟨a2,c2,rfl,h2⟩
   rw[if_neg f5,an (ar f5)]
   by_cases f11:f=11
   ·rw[af (bc f11),if_neg (by omega),if_neg (by omega),if_neg (by omega),if_neg (by omega),if_neg (by omega),if_neg (by omega),if_pos f11]
    obtain⟨a2,c2,e2,h2⟩:=ka (x:=x) (w:=w) hl hin
    rw[e2,aa,←h]
    exact Ret.some ⟨a2,c2,rfl,h2⟩
   rw[an (ar f11)]
   by_cases f12:f=12
   ·rw[af (bc f12),if_neg (by omega),if_neg (by omega),if_neg (by omega),if_neg (by omega),if_neg (by omega),if_neg (by omega),if_neg (by omega),if_pos f12]
    exact Ret.some ⟨a1,c1,rfl,h⟩
   rw[an (ar f12)]
   by_cases f13:f=13
   ·rw[af (bc f13),if_neg (by omega),if_neg (by omega),if_neg (by omega),if_neg (by omega),if_neg (by omega),if_neg (by omega),if_neg (by omega),if_neg (by omega),if_pos f13]
    exact Ret.some ⟨a1,c1,rfl,h⟩
   rw[an (ar f13)]
   have f6:f=6:=by
    unfold ns at hf
    have:=of_decide_eq_true hf
    omega
   rw[if_pos f6]
   refine Ret.bnd (Q:=fun y=>y=_) (Ret.of_eq (sOne_eq ⟨op,Z,cd,frm,noD,noD,0⟩ _ rfl rfl) rfl) ?_
   rintro _ rfl
   unfold my
   dsimp only
   cases hs:Ah op with
   |true=>
    rw[if_pos rfl,if_pos rfl]
    dsimp only
    rw[ar (show op≠10 by rintro rfl;revert hs;decide),aj]
    exact Ret.some ⟨a1,c1,rfl,h⟩
   |false=>
    rw[if_neg (by decide),if_neg (by decide)]
    dsimp only
    by_cases h10:op=10
    ·rw[if_pos h10,bc h10,aI]
     obtain⟨a2,c2,e2,h2⟩:=m7 (x:=x) (w:=w) (z:=Z) (hz (.inr f6)) hl hin
     rw[e2,aa,←h]
     exact Ret.some ⟨a2,c2,rfl,h2⟩
    ·rw[if_neg h10,ar h10,aj]
     exact Ret.some ⟨a1,c1,rfl,h⟩
theorem CV {m z f frm op cd:Int}(hx:mZ x){b:Int}(hb0:0≤b)(z0 z2:Int)(z3:Bool)(hf:ns f=false)(hz:(f=3∨f=8)→fw z)(hl:(t.length:Int)≤1099511627776)(hp:(aH a c).In t):
  ∃a' c',dr ((⟨op,z,cd,frm,noD,noD,0⟩,(z0,f,z2,z3,frm,()),b,()),(t,a,x,w,c,()),())=
   some (⟨op,z,cd,frm,(nF t f frm op z x b m (aH a c)).1,(nF t f frm op z x b m (aH a c)).2.1,0⟩,(t,a',x,w,c',()),())∧aH a' c'=(nF t f frm op z x b m (aH a c)).2.2:=by
 obtain⟨e0,e8,ez⟩:=jY (x:=x) (k:=0) (by decide)
 have hM:¬(f=1∨f=2∨f=4∨f=5∨f=6∨f=11∨f=12∨f=13∨f=17):=by unfold ns at hf;exact of_decide_eq_false hf
 have hr8:fX b 8=b%8:=ej hb0
 unfold dr nF
 dsimp only
 rw[if_neg (show ¬f=1 by omega),if_neg (show ¬f=2 by omega),if_neg (show ¬f=17 by omega)]
 by_cases f3:f=3
 ·rw[if_pos f3,af (bc f3)]
  obtain⟨a2,c2,e2,h2⟩:=m7 (x:=x) (w:=w) (z:=z) (hz (.inl f3)) hl hp
  rw[e2,aa]
  exact⟨a2,c2,rfl,h2⟩
 rw[if_neg f3,an (ar f3),if_neg (show ¬f=4 by omega),if_neg (show ¬f=5 by omega),if_neg (show ¬f=6 by omega)]
 by_cases f7:f=7
 ·rw[if_pos f7,af (bc f7),uw hx,aa,hr8]
  dsimp only
  rw[bg (by omega) (by omega)]
  by_cases ho:op=29
  ·rw[if_pos ho,bc ho];exact⟨a,c,rfl,rfl⟩
  ·rw[if_neg ho,ar ho];exact⟨a,c,rfl,rfl⟩
 rw[if_neg f7,an (ar f7)]
 by_cases f8:f=8
 ·rw[if_pos f8,af (bc f8),uw hx,aa,hr8]
  dsimp only
  rw[bg (by omega) (by omega),xE (by omega) (by omega),aa]
  obtain⟨s1,s8⟩:=sz18 (hz (.inr f8))
  obtain⟨a2,c2,e2,h2⟩:=gy (x:=x) (w:=w) z s1 s8 hl hp
  rw[e2,aa]
  exact⟨a2,c2,rfl,h2⟩
 rw[if_neg f8,an (ar f8)]
 by_cases f9:f=9
 ·rw[if_pos f9,af (bc f9)]
  obtain⟨a2,c2,e2,h2⟩:=m7 (x:=x) (w:=w) (z:=1) (.inl rfl) hl hp
  rw[e2,aa]
  exact⟨a2,c2,rfl,h2⟩
 rw[if_neg f9,an (ar f9)]
 simp only[sw2,aa,ag]
 by_cases f10:f=10∨f=16
 ·rw[if_neg (show ¬f=15 by omega),if_pos f10,af (by simpa[eqI]using f10)]
  obtain⟨a2,c2,e2,h2⟩:=m7 (x:=x) (w:=w) (z:=4) (.inr (.inr (.inl rfl))) hl hp
  rw[e2,aa]
  exact⟨a2,c2,rfl,h2⟩
 rw[an (by simpa[eqI]using f10)]
 by_cases f15:f=15
 ·rw[if_pos f15,af (bc f15)]
  obtain⟨a2,c2,e2,h2⟩:=m7 (x:=x) (w:=w) (z:=1) (.inl rfl) hl hp
  rw[e2,aa]
  refine kz ?_
  by_cases ho:op=44
  ·subst ho
   rw[if_pos rfl]
   have hr:=dQ t (aH a c) hp
   have hzz:=bu (gS 7 (by decide) (rdU t 1 (aH a c))) 1 rfl
   rw[Dc hr.1 hr.2,show((1:Nat):Int)=1 from rfl]at hzz
   refine Ret.mono (Ret.of_eq (x:=(⟨44,z,cd,frm,noD,uI (rdU t 1 (aH a c)),0⟩,(t,a2,x,w,c2,()),())) ?_ rfl) (fun y hy=>⟨a2,c2,hy.symm,h2⟩)
   show bnd (ak ((sx 7 (rdU t 1 (aH a c)),1,()),())) _=_
   rw[hzz,aa]
   rfl
  ·rw[if_neg ho]
   refine Ret.mono (Ret.of_eq (x:=(⟨op,z,cd,frm,noD,uI (rdS t 1 (aH a c)),0⟩,(t,a2,x,w,c2,()),())) ?_ rfl) (fun y hy=>⟨a2,c2,hy.symm,h2⟩)
   show br (eqI op 44) _ _=_
   rw[ar ho]
   rfl
 rw[if_neg f15,an (ar f15),if_neg f10,if_neg (show ¬f=11 by omega),if_neg (show ¬f=12 by omega),if_neg (show ¬f=13 by omega)]
 exact⟨a,c,rfl,rfl⟩
end
def pkB (t:List UInt8)(p:Pos):Int:=match p with
 | .ok a=>if a<t.length then eF t a else -1
 | .error _=> -1
def wdM (t:List UInt8)(p:Pos):Bool:=decide (pkB t p=102)
def p1M (t:List UInt8)(p:Pos):Pos:=if wdM t p=true then adv t 1 p else p
def p2M (t:List UInt8)(p:Pos):Pos:=exb (p1M t p) fun a=>if pkB t (p1M t p)∈px then .error 10 else .ok a
def hxM (t:List UInt8)(p:Pos):Bool:=decide (64≤pkB t (p2M t p)∧pkB t (p2M t p)≤79)
def xM (t:List UInt8)(p:Pos):Int:=if hxM t p=true then pkB t (p2M t p)else 0
def p3M (t:List UInt8)(p:Pos):Pos:=if hxM t p=true then adv t 1 (p2M t p)else p2M t p
def t3 (t:List UInt8)(p:Pos):Bool:=decide (rdU t 1 (p3M t p)=15)
def p5M (t:List UInt8)(p:Pos):Pos:=if t3 t p=true then adv t 1 (adv t 1 (p3M t p))else adv t 1 (p3M t p)
def bM (t:List UInt8)(p:Pos):Int:=if t3 t p=true then rdU t 1 (adv t 1 (p3M t p))else rdU t 1 (p3M t p)
def zM (t:List UInt8)(p:Pos):Shz:=shz (t3 t p) (bM t p).toNat
def p6M (t:List UInt8)(p:Pos):Pos:=exb (p5M t p) fun a=>if(zM t p).2.1=0 then .error 11 else .ok a
theorem Fy (t:List UInt8)(p:Pos):mZ (xM t p):=by
 unfold xM mZ
 split
 ·rename_i h
  unfold hxM at h
  exact .inr (of_decide_eq_true h)
 ·exact .inl rfl
theorem yo {t:List UInt8}{p:Pos}{q:Int→Prop}[DecidablePred q]{k:Int}(h:p.In t):Pos.In (exb p fun a=>if q a then .error k else .ok a) t:=by
 intro a ha
 cases p with
 |error c=>cases ha
 |ok b=>
  unfold exb at ha
  dsimp only at ha
  split at ha
  ·cases ha
  ·exact h a (by cases ha;rfl)
theorem yS {t:List UInt8}{p:Pos}(h:p.In t):(p1M t p).In t:=by unfold p1M;split;exact h.adv (by decide);exact h
theorem oV {t:List UInt8}{p:Pos}(h:p.In t):(p2M t p).In t:=yo (q:=fun _=>pkB t (p1M t p)∈px) (yS h)
theorem yT {t:List UInt8}{p:Pos}(h:p.In t):(p3M t p).In t:=by unfold p3M;split;exact(oV h).adv (by decide);exact oV h
theorem vu {t:List UInt8}{p:Pos}(h:p.In t):(adv t 1 (p3M t p)).In t:=(yT h).adv (by decide)
theorem p5M_in {t:List UInt8}{p:Pos}(h:p.In t):(p5M t p).In t:=by unfold p5M;split;exact(vu h).adv (by decide);exact vu h
theorem vv {t:List UInt8}{p:Pos}(h:p.In t):(p6M t p).In t:=yo (q:=fun _=>(zM t p).2.1=0) (p5M_in h)
theorem jW {t:List UInt8}{p:Pos}(h:p.In t):0≤bM t p∧bM t p<256:=by
 unfold bM;split
 ·exact dQ t _ (vu h)
 ·exact dQ t _ (yT h)
theorem yV {t:List UInt8}{p:Pos}(hp:p.In t)(h:0≤pkB t p):rdU t 1 p=pkB t p∧∃a,p= .ok a∧a+1≤t.length∧adv t 1 p= .ok (a+1):=by
 cases p with
 |error _=>unfold pkB at h;dsimp only at h;omega
 |ok a=>
  obtain⟨h0,h1⟩:=hp a rfl
  unfold pkB at h⊢
  unfold rdU adv exb
  dsimp only at h⊢
  by_cases hl:a<t.length
  ·rw[if_pos hl,if_pos (by omega),if_pos (by omega),Ch h0 hl]
   exact⟨rfl,a,rfl,by omega,rfl⟩
  ·rw[if_neg hl]at h;omega
section
variable {t:List UInt8}{a c:Int}
theorem sK {lo hi:Int}(r:_)(h0:0≤lo)(hp:(aH a c).In t):bO ((lo,hi,()),(t,a,c,r),())=some (decide (lo≤pkB t (aH a c)∧pkB t (aH a c)≤hi),(t,a,c,r),()):=by
 unfold bO
 dsimp only
 by_cases hc:c=0
 ·subst hc
  obtain⟨p0,p1⟩:=hp a dx
  rw[dx,af (bc rfl)]
  by_cases hl:a<t.length
  ·have hpk:pkB t (.ok a)=eF t a:=if_pos hl
   rw[af (ij (by rw[bx];exact hl)),af (cI p0 (by rw[bx];exact hl)),hpk,v9 (by have:=jX t a;omega) (by have:=jX t a;omega),dy,aa]
  ·have hpk:pkB t (.ok a)= -1:=if_neg hl
   rw[an (gH (by rw[bx];exact hl)),hpk,decide_eq_false (by omega)]
 ·have hpk:pkB t (.error c)= -1:=rfl
  rw[an (ar hc),cV hc,hpk,decide_eq_false (by omega)]
theorem uo (r:_)(hp:(aH a c).In t):ci ((),(t,a,c,r),())=some (decide (pkB t (aH a c)∈px),(t,a,c,r),()):=by
 unfold ci
 dsimp only
 refine(fv (fun y=>∃i:Nat,i≤11∧y=((11,(i:Int),()),(t,a,c,r),px,())) (fun y=>11-y.1.2.1.toNat) (fun y=>some (decide (pkB t (aH a c)∈px.drop y.1.2.1.toNat),(t,a,c,r),())) ?_ F _ ⟨0,by omega,rfl⟩ (by unfold F;dsimp only;omega)).trans rfl
 rintro _ rec ⟨i,hi,rfl⟩ hrec
 dsimp only
 by_cases h:i<11
 ·have hL:i<px.length:=h
  rw[af (ij (by omega)),af (cI (by omega) (by rw[bx];omega)),iS hL]
  have hnn:0≤px[i]:=by
   have:∀y∈px,(0:Int)≤y:=by decide
   exact this _ (List.getElem_mem hL)
  rw[sK r hnn hp,aa]
  dsimp only
  rw[Int.toNat_natCast,List.drop_eq_getElem_cons hL]
  by_cases e:pkB t (aH a c)=px[i]
  ·rw[af (decide_eq_true (by omega)),decide_eq_true (by rw[e];exact List.mem_cons_self)]
  ·rw[an (decide_eq_false (by omega)),bg (by omega) (by omega),hrec ((11,(i:Int)+1,()),(t,a,c,r),px,()) ⟨i+1,by omega,rfl⟩ (by dsimp only;omega)]
   dsimp only
   rw[show((i:Int)+1).toNat=i+1 by omega]
   have hm:∀l:List Int,(pkB t (aH a c)∈px[i]::l)=(pkB t (aH a c)∈l):=fun l=>by rw[List.mem_cons,eq_false e,false_or]
   simp only[hm]
 ·have:i=11:=by omega
  subst this
  rw[an (gH (by omega))]
  simp[px]
theorem uu (r:_)(hl:(t.length:Int)≤1099511627776)(hp:(aH a c).In t):
  ∃a' c',cl ((),(t,a,c,false,0,false,r),())=some ((),(t,a',c',wdM t (aH a c),xM t (aH a c)%16,decide (xM t (aH a c)≠0),r),())∧aH a' c'=p3M t (aH a c):=by
 unfold cl
 dsimp only
 rw[sK _ (by decide) hp,aa]
 dsimp only
 refine kz (Ret.bnd (Q:=fun y=>∃a1 c1,y=Sum.inl ((),(t,a1,c1,wdM t (aH a c),0,false,r),())∧aH a1 c1=p1M t (aH a c)) ?_ ?_)
 ·unfold p1M wdM
  by_cases h:pkB t (aH a c)=102
  ·rw[decide_eq_true (show 102≤pkB t (aH a c)∧pkB t (aH a c)≤102 by omega),aI,decide_eq_true h,if_pos rfl]
   obtain⟨a1,c1,e,h1⟩:=jm 1 (true,0,false,r) (by decide) (by decide) hl hp
   rw[e,aa]
   exact Ret.some ⟨a1,c1,rfl,h1⟩
  ·rw[decide_eq_false (show ¬(102≤pkB t (aH a c)∧pkB t (aH a c)≤102)by omega),aj,decide_eq_false h,if_neg (by decide)]
   exact Ret.some ⟨a,c,rfl,rfl⟩
 ·rintro _ ⟨a1,c1,rfl,h1⟩
  have hin1:(aH a1 c1).In t:=by rw[h1];exact yS hp
  rw[ag]
  dsimp only[d6]
  rw[uo _ hin1,aa]
  dsimp only
  rw[gF,aa]
  dsimp only
  have h2:aH a1 (if decide (pkB t (aH a1 c1)∈px)=true∧c1=0 then 10 else c1)=p2M t (aH a c):=by
   rw[Dq (by decide)]
   unfold p2M
   rw[←h1]
   simp only[decide_eq_true_eq]
  generalize (if decide (pkB t (aH a1 c1)∈px)=true∧c1=0 then(10:Int)else c1)=c2 at h2⊢
  have hin2:(aH a1 c2).In t:=by rw[h2];exact oV hp
  rw[sK _ (by decide) hin2,aa]
  dsimp only
  rw[h2]
  unfold p3M xM hxM
  by_cases h:64≤pkB t (p2M t (aH a c))∧pkB t (p2M t (aH a c))≤79
  ·rw[decide_eq_true h,aI,if_pos rfl,if_pos rfl]
   obtain⟨a3,c3,e,h3⟩:=jm 1 (wdM t (aH a c),0,true,r) (by decide) (by decide) hl hin2
   have hrd:=(yV hin2 (by rw[h2];omega)).1
   rw[e,aa,hrd,h2,decide_eq_true (show pkB t (p2M t (aH a c))≠0 by omega)]
   dsimp only
   rw[(bI (show 0≤pkB t (p2M t (aH a c))by omega) (by omega)).2.2.2]
   exact Ret.some ⟨a3,c3,rfl,by rw[h3,h2]⟩
  ·rw[decide_eq_false h,aj,if_neg (by decide),if_neg (by decide)]
   exact Ret.some ⟨a1,c2,rfl,h2⟩
end
def wK (z:Shz):Bool:=decide (0<z.2.2.1)
def mM (t:List UInt8)(p:Pos):Int:=if ns (zM t p).2.1=true then rdU t 1 (p6M t p)else 0
def p7M (t:List UInt8)(p:Pos):Pos:=if ns (zM t p).2.1=true then adv t 1 (p6M t p)else p6M t p
def opM (t:List UInt8)(p:Pos):Int:=if wK (zM t p)=true then grp (zM t p).2.2.1.toNat (mM t p/8%8).toNat else(zM t p).1
def p8M (t:List UInt8)(p:Pos):Pos:=exb (p7M t p) fun a=>if wK (zM t p)=true∧opM t p=0 then .error 11 else .ok a
def zsM (t:List UInt8)(p:Pos):Int:=szM (zM t p).2.2.2.1 (opM t p) (wdM t p) (xM t p)
def pi (w by':Bool)(frm op z m:Int):Int:=
 if(w=true∧(cU op=true∨eI op=true∨by'=true))∨(frm=4∧z≠8)∨((frm=1∨frm=2)∧z≤frm)then 10 else if op=25∧m/64=3 then 12 else 0
def p9M (t:List UInt8)(p:Pos):Pos:=exb (p8M t p) fun a=>if pi (wdM t p) (zM t p).2.2.2.1 (zM t p).2.2.2.2.1 (opM t p) (zsM t p) (mM t p)≠0 then .error (pi (wdM t p) (zM t p).2.2.2.1 (zM t p).2.2.2.2.1 (opM t p) (zsM t p) (mM t p))else .ok a
def oM (t:List UInt8)(p:Pos):Opd×Opd×Pos:=nF t (zM t p).2.1 (zM t p).2.2.2.2.1 (opM t p) (zsM t p) (xM t p) (bM t p) (mM t p) (p9M t p)
def cdM (t:List UInt8)(p:Pos):Int:=if opM t p=33∨opM t p=35∨opM t p=36 then bM t p%16 else 0
def mN (t:List UInt8)(at0:Int):Ins×Int:=match(oM t (.ok at0)).2.2 with
 | .ok a=>(⟨opM t (.ok at0),zsM t (.ok at0),cdM t (.ok at0),(zM t (.ok at0)).2.2.2.2.1,(oM t (.ok at0)).1,(oM t (.ok at0)).2.1,a-at0⟩,0)
 | .error c=>(sH,c)
theorem rc {t:List UInt8}{p:Pos}(h:p.In t):shP (zM t p)=true:=FC _ (by have:=jW h;omega)
theorem kX {t:List UInt8}{p:Pos}(h:p.In t):0≤mM t p∧mM t p<256:=by
 unfold mM;split
 ·exact dQ t _ (vv h)
 ·omega
theorem vq {t:List UInt8}{p:Pos}(h:p.In t):0≤opM t p∧opM t p≤44:=by
 have hz:=of_decide_eq_true (rc h)
 have hm:=kX h
 unfold opM;split
 ·exact Bt _ (by omega) _ (by omega)
 ·exact⟨hz.1,hz.2.1⟩
section
variable {t:List UInt8}{a c:Int}
theorem lQ {a c a':Int}(h:aH a c= .ok a'):a=a'∧c=0:=by
 unfold aH at h
 by_cases hc:c=0
 ·rw[if_pos hc]at h;cases h;exact⟨rfl,hc⟩
 ·rw[if_neg hc]at h;cases h
theorem lP {a c k:Int}(h:aH a c= .error k):c=k∧c≠0:=by
 unfold aH at h
 by_cases hc:c=0
 ·rw[if_pos hc]at h;cases h
 ·rw[if_neg hc]at h;cases h;exact⟨rfl,hc⟩
theorem rd_ok {p:Pos}{n:Int}(h:rdU t n p≠0):∃b,adv t n p= .ok b:=by
 unfold rdU at h
 unfold adv exb
 cases p with
 |error _=>exact absurd rfl h
 |ok b=>
  dsimp only at h⊢
  by_cases hl:b+n≤t.length
  ·rw[if_pos hl];exact⟨_,rfl⟩
  ·rw[if_neg hl]at h;exact absurd rfl h
theorem sJ (q:Pos)(nw:Bool)(rx:Int)(hr:Bool)(r:_)(hl:(t.length:Int)≤1099511627776)(hq:q.In t)(hp:aH a c=p3M t q):
  Ret (b8 ((),(t,a,c,nw,rx,hr,0,0,0,0,false,0,0,0,0,0,r),())) fun y=>
   aH y.2.1.2.1 y.2.1.2.2.1=p6M t q∧∀e,p6M t q= .ok e→y=((),(t,e,0,nw,rx,hr,bM t q,(zM t q).1,(zM t q).2.1,(zM t q).2.2.1,(zM t q).2.2.2.1,(zM t q).2.2.2.2.1,0,0,0,(zM t q).1,r),()):=by
 have hin:(aH a c).In t:=by rw[hp];exact yT hq
 unfold b8
 dsimp only[p5,p6,d7]
 obtain⟨a1,c1,e1,h1⟩:=jm 1 (nw,rx,hr,0,0,0,0,false,0,0,0,0,0,r) (by decide) (by decide) hl hin
 rw[e1,aa]
 dsimp only
 rw[hp]at h1⊢
 have hin1:(aH a1 c1).In t:=by rw[h1];exact vu hq
 have hx3:(br (eqI (rdU t 1 (p3M t q)) 15) (some (eqI c1 0)) (some false))=some (t3 t q):=by
  unfold t3
  by_cases h:rdU t 1 (p3M t q)=15
  ·obtain⟨b,hb⟩:=rd_ok (t:=t) (p:=p3M t q) (n:=1) (by omega)
   have hc:c1=0:=(lQ (h1.trans hb)).2
   rw[af (bc h),bc hc,decide_eq_true h]
  ·rw[an (ar h),decide_eq_false h]
 rw[hx3,aa]
 refine Ret.bnd (Q:=fun y=>∃a2 c2,y=Sum.inl ((t3 t q,()),(t,a2,c2,nw,rx,hr,bM t q,0,0,0,false,0,0,0,0,0,r),())∧aH a2 c2=p5M t q) ?_ ?_
 ·unfold p5M bM
  cases hs:t3 t q with
  |true=>
   obtain⟨a2,c2,e2,h2⟩:=jm 1 (nw,rx,hr,rdU t 1 (p3M t q),0,0,0,false,0,0,0,0,0,r) (by decide) (by decide) hl hin1
   rw[aI,e2,aa,if_pos rfl,if_pos rfl,h1]
   exact Ret.some ⟨a2,c2,rfl,by rw[h2,h1]⟩
  |false=>
   rw[aj,if_neg (by decide),if_neg (by decide)]
   exact Ret.some ⟨a1,c1,rfl,h1⟩
 ·rintro _ ⟨a2,c2,rfl,h2⟩
  rw[ag]
  dsimp only[p6,p5,p12,p13,p14,d16]
  by_cases hc:c2=0
  ·subst hc
   have hbr:=jW hq
   have hS:=zk (t3 t q) (show(bM t q).toNat<256 by omega)
   rw[Int.toNat_of_nonneg hbr.1]at hS
   rw[show aY (eqI 0 0)=false from rfl,aj,hS,aa]
   dsimp only[shR]
   rw[gF,aa]
   have h6:p6M t q=if(zM t q).2.1=0 then .error 11 else .ok a2:=by
    unfold p6M;rw[←h2];rfl
   show Ret (some _) _
   refine Ret.some ?_
   dsimp only
   change aH a2 (if aY (eqI (if(zM t q).2.1=0 then 11 else 0) 0)=true∧(0:Int)=0 then(if(zM t q).2.1=0 then 11 else 0)else 0)=p6M t q∧_
   rw[h6]
   by_cases hz:(zM t q).2.1=0
   ·simp only[if_pos hz]
    exact⟨rfl,fun e he=>by cases he⟩
   ·simp only[if_neg hz]
    refine⟨rfl,fun e he=>?_⟩
    cases he
    have hz':¬(shz (t3 t q) (bM t q).toNat).2.1=0:=hz
    simp only[if_neg hz']
    rfl
  ·rw[ar hc,dw,aI]
   refine Ret.some ?_
   dsimp only
   have h6:p6M t q= .error c2:=by unfold p6M;rw[←h2,cV hc];rfl
   rw[h6,cV hc]
   exact⟨rfl,fun e he=>by cases he⟩
end
section
variable {t:List UInt8}{a c:Int}
theorem uz {op:Int}(h:0≤op∧op≤44):dU ((op,()),())=some ((if cU op=true then(8,(true,()))else if eI op=true then(0,(true,()))else(0,(false,()))),()):=by
 obtain⟨n,rfl⟩:=Int.eq_ofNat_of_zero_le h.1
 exact zC n (by omega)
theorem wL {f:Int}(h:0≤f∧f<18):eK ((f,()),())=some (ns f,()):=by
 obtain⟨n,rfl⟩:=Int.eq_ofNat_of_zero_le h.1
 exact Bw n (by omega)
theorem A5 (q:Pos)(e:Int)(nw:Bool)(rx:Int)(hr:Bool)(r:_)(hl:(t.length:Int)≤1099511627776)(hq:q.In t)(hp:p6M t q= .ok e):
  Ret (cW ((),(t,e,0,nw,rx,hr,bM t q,(zM t q).1,(zM t q).2.1,(zM t q).2.2.1,(zM t q).2.2.2.1,(zM t q).2.2.2.2.1,0,0,0,(zM t q).1,r),())) fun y=>
   aH y.2.1.2.1 y.2.1.2.2.1=p8M t q∧∀e,p8M t q= .ok e→y=((),(t,e,0,nw,rx,hr,bM t q,(zM t q).1,(zM t q).2.1,(zM t q).2.2.1,(zM t q).2.2.2.1,(zM t q).2.2.2.2.1,mM t q/64,mM t q/8%8,mM t q%8,opM t q,r),()):=by
 have hin:(aH e 0).In t:=by rw[dx,←hp];exact vv hq
 have hz:=of_decide_eq_true (rc hq)
 have hm:=kX hq
 unfold cW
 dsimp only[p8,p9,d15,d16]
 rw[wL ⟨hz.2.2.1,hz.2.2.2.1⟩]
 rw[show aY (eqI 0 0)=false from rfl,aj,aa,aa]
 cases hM:ns (zM t q).2.1 with
 |false=>
  rw[dw,aI]
  have hg:wK (zM t q)=false:=decide_eq_false fun g=>by
   have:=(hz.2.2.2.2.2.2.2.2.1 g).1
   rw[hM]at this;cases this
  have e1:mM t q=0:=by unfold mM;rw[hM,if_neg (by decide)]
  have e2:opM t q=(zM t q).1:=by unfold opM;rw[hg,if_neg (by decide)]
  have e3:p8M t q= .ok e:=by unfold p8M p7M;rw[hM,hg,if_neg (by decide),hp];simp[exb]
  refine Ret.some ⟨?_,fun e' he=>?_⟩
  ·rw[e3];rfl
  ·rw[e3]at he;cases he
   rw[e1,e2]
   rfl
 |true=>
  obtain⟨a1,c1,ee,h1⟩:=jm 1 (nw,rx,hr,bM t q,(zM t q).1,(zM t q).2.1,(zM t q).2.2.1,(zM t q).2.2.2.1,(zM t q).2.2.2.2.1,0,0,0,(zM t q).1,r) (by decide) (by decide) hl hin
  have e1:mM t q=rdU t 1 (aH e 0):=by unfold mM;rw[hM,if_pos rfl,hp];rfl
  have e7:p7M t q=aH a1 c1:=by unfold p7M;rw[hM,if_pos rfl,hp,h1];rfl
  rw[cf,aj,ee,←e1,aa]
  dsimp only
  obtain⟨b6,b3,b0,_⟩:=bI hm.1 hm.2
  rw[b6,b3,b0]
  by_cases hg:0<(zM t q).2.2.1
  ·have hgB:wK (zM t q)=true:=decide_eq_true hg
   rw[af (ij hg),aa]
   have e8:p8M t q=exb (aH a1 c1) fun a=>if opM t q=0 then .error 11 else .ok a:=by
    unfold p8M;rw[e7,hgB];simp only[true_and]
   by_cases hc:c1=0
   ·subst hc
    have hgo:=zi (g:=(zM t q).2.2.1.toNat) (d:=(mM t q/8%8).toNat) (by omega) (by omega) (by omega)
    rw[Int.toNat_of_nonneg (by omega),Int.toNat_of_nonneg (by omega)]at hgo
    have eo:grp (zM t q).2.2.1.toNat (mM t q/8%8).toNat=opM t q:=by unfold opM;rw[hgB,if_pos rfl]
    rw[eo]at hgo
    rw[bc rfl,aI,hgo,aa]
    dsimp only[gpR]
    rw[gF,aa]
    refine Ret.some ?_
    rw[dx]at e8
    unfold exb at e8
    dsimp only at e8⊢
    rw[e8]
    by_cases ho:opM t q=0
    ·simp only[if_pos ho]
     exact⟨rfl,fun e he=>by cases he⟩
    ·simp only[if_neg ho]
     refine⟨rfl,fun e he=>?_⟩
     cases he
     rfl
   ·rw[ar hc,aj]
    refine Ret.some ?_
    rw[cV hc]at e8
    unfold exb at e8
    dsimp only at e8⊢
    rw[e8,cV hc]
    exact⟨rfl,fun e he=>by cases he⟩
  ·have hgB:wK (zM t q)=false:=decide_eq_false hg
   have e2:opM t q=(zM t q).1:=by unfold opM;rw[hgB,if_neg (by decide)]
   have e8:p8M t q=aH a1 c1:=by
    unfold p8M;rw[e7,hgB]
    cases aH a1 c1<;>simp[exb]
   rw[an (gH hg),aa,aj]
   refine Ret.some ?_
   dsimp only
   rw[e8]
   refine⟨rfl,fun e he=>?_⟩
   obtain⟨rfl,rfl⟩:=lQ he
   rw[e2]
theorem ext3 (x:Int):aY (eqI (iW x 3) 0)=decide (x/8%2=1):=by
 rw[Bool.eq_iff_iff,EO,eq_nf,decide_eq_true_eq]
 unfold iW
 rw[show(2:Int)^3=8 from rfl]
 omega
theorem D0 {x m z1 f g frm op b:Int}{nw by':Bool}{zz rg rm:Int}{e:Int}(r:_)(ho:0≤op∧op≤44)(hsz:zz=szM by' op nw x):
  ∃c',c7 ((),(t,e,0,nw,x%16,decide (x≠0),b,z1,f,g,by',frm,m/64,rg,rm,op,0,r),())=
   some ((),(t,e,c',nw,x%16,decide (x≠0),b,z1,f,g,by',frm,m/64,rg,rm,op,zz,r),())∧c'=pi nw by' frm op zz m:=by
 unfold c7
 dsimp only[p15,p10,d17,rJ]
 rw[uz ho,aa]
 have fin:∀o:Option _,Ret o (fun y=>∃c',y=((),(t,e,c',nw,x%16,decide (x≠0),b,z1,f,g,by',frm,m/64,rg,rm,op,zz,r),())∧c'=pi nw by' frm op zz m)→∃c',o=some ((),(t,e,c',nw,x%16,decide (x≠0),b,z1,f,g,by',frm,m/64,rg,rm,op,zz,r),())∧c'=pi nw by' frm op zz m:=by
  rintro o ⟨y,e,c',rfl,h⟩
  exact⟨c',e,h⟩
 refine fin _ (Ret.bnd (Q:=fun y=>y=Sum.inl ((cU op||eI op,()),(t,e,0,nw,x%16,decide (x≠0),b,z1,f,g,by',frm,m/64,rg,rm,op,zz,r),())) ?_ ?_)
 ·unfold szM at hsz
  cases h8:cU op with
  |true=>
   rw[h8,if_pos rfl]at hsz
   rw[if_pos rfl,hsz]
   exact Ret.some rfl
  |false=>
   rw[h8,if_neg (by decide)]at hsz
   rw[if_neg (by decide)]
   cases h0:eI op with
   |true=>
    rw[h0,if_pos rfl]at hsz
    rw[if_pos rfl,hsz]
    exact Ret.some rfl
   |false=>
    rw[h0,if_neg (by decide)]at hsz
    rw[if_neg (by decide)]
    dsimp only
    rw[aj]
    cases hb:by' with
    |true=>
     rw[hb,if_pos rfl]at hsz
     rw[aI,aa,ag,hsz]
     exact Ret.some rfl
    |false=>
     rw[hb,if_neg (by decide)]at hsz
     rw[aj,dbit3,aa]
     dsimp only
     rw[ext3]
     by_cases h3:x/8%2=1
     ·rw[if_pos h3]at hsz
      rw[decide_eq_true h3,aI,aa,ag,aa,ag,hsz]
      exact Ret.some rfl
     ·rw[if_neg h3]at hsz
      rw[decide_eq_false h3,aj]
      cases hw:nw with
      |true=>
       rw[hw,if_pos rfl]at hsz
       rw[aI,aa,ag,aa,ag,aa,ag,hsz]
       exact Ret.some rfl
      |false=>
       rw[hw,if_neg (by decide)]at hsz
       rw[aj,aa,ag,aa,ag,aa,ag,hsz]
       exact Ret.some rfl
 ·rintro _ rfl
  rw[ag]
  dsimp only[p10,p11,p16,p15,p12]
  have h13:(br nw (bnd (br (cU op||eI op) (some true) (some by')) fun x12=>some x12) (some false))=some (nw&&(cU op||eI op||by')):=by
   cases nw<;>cases cU op<;>cases eI op<;>cases by'<;>rfl
  rw[h13,aa,gF,aa]
  dsimp only
  have h15:(br (eqI frm 4) (some (aY (eqI zz 8))) (some false))=some (eqI frm 4&&aY (eqI zz 8)):=by cases eqI frm 4<;>rfl
  rw[h15,aa,gF,aa]
  dsimp only
  rw[dy,aa]
  dsimp only
  have h19:(br (eqI op 25) (some (eqI (m/64) 3)) (some false))=some (eqI op 25&&eqI (m/64) 3):=by cases eqI op 25<;>rfl
  refine Ret.mono (Q:=fun y=>y=((),(t,e,pi nw by' frm op zz m,nw,x%16,decide (x≠0),b,z1,f,g,by',frm,m/64,rg,rm,op,zz,r),())) ?_ (fun y hy=>⟨_,hy,rfl⟩)
  have step:∀u:Bool,(u=true↔(frm=1∨frm=2)∧zz≤frm)→
    (if(eqI op 25&&eqI (m/64) 3)=true∧(if u=true∧(if(eqI frm 4&&aY (eqI zz 8))=true∧(if(nw&&(cU op||eI op||by'))=true∧(0:Int)=0 then(10:Int)else 0)=0 then(10:Int)else(if(nw&&(cU op||eI op||by'))=true∧(0:Int)=0 then(10:Int)else 0))=0 then(10:Int)else(if(eqI frm 4&&aY (eqI zz 8))=true∧(if(nw&&(cU op||eI op||by'))=true∧(0:Int)=0 then(10:Int)else 0)=0 then(10:Int)else(if(nw&&(cU op||eI op||by'))=true∧(0:Int)=0 then(10:Int)else 0)))=0 then(12:Int)else
     (if u=true∧(if(eqI frm 4&&aY (eqI zz 8))=true∧(if(nw&&(cU op||eI op||by'))=true∧(0:Int)=0 then(10:Int)else 0)=0 then(10:Int)else(if(nw&&(cU op||eI op||by'))=true∧(0:Int)=0 then(10:Int)else 0))=0 then(10:Int)else(if(eqI frm 4&&aY (eqI zz 8))=true∧(if(nw&&(cU op||eI op||by'))=true∧(0:Int)=0 then(10:Int)else 0)=0 then(10:Int)else(if(nw&&(cU op||eI op||by'))=true∧(0:Int)=0 then(10:Int)else 0))))=pi nw by' frm op zz m:=fun u hu=>by
   have e1:(eqI op 25&&eqI (m/64) 3)=true↔op=25∧m/64=3:=by simp[eqI]
   have e2:(eqI frm 4&&aY (eqI zz 8))=true↔frm=4∧zz≠8:=by simp[eqI,aY]
   have e3:(nw&&(cU op||eI op||by'))=true↔(nw=true∧(cU op=true∨eI op=true∨by'=true)):=by simp[or_assoc]
   unfold pi
   simp only[hu,e1,e2,e3,and_true]
   by_cases p:(nw=true∧(cU op=true∨eI op=true∨by'=true))
   ·simp[p]
   ·simp only[p,if_false,and_true,false_or]
    by_cases p2:frm=4∧zz≠8
    ·simp[p2]
    ·simp only[p2,if_false,and_true,false_or]
     by_cases p3:(frm=1∨frm=2)∧zz≤frm
     ·simp[p3]
     ·simp only[p3,if_false,and_true]
  by_cases hfr:frm=1∨frm=2
  ·have hd:decide (1≤frm∧frm≤2)=true:=decide_eq_true (by omega)
   rw[hd,aI,gF,aa]
   dsimp only
   rw[h19,aa,gF,aa]
   dsimp only
   have hs:=step (leI zz frm) (by rw[le_iff];exact⟨fun h=>⟨hfr,h⟩,fun h=>h.2⟩)
   exact Ret.some (by rw[hs])
  ·have hd:decide (1≤frm∧frm≤2)=false:=decide_eq_false (by omega)
   rw[hd,aj,gF,aa]
   dsimp only
   rw[h19,aa,gF,aa]
   dsimp only
   have hs:=step false ⟨fun h=>(by cases h),fun h=>absurd h.1 hfr⟩
   exact Ret.some (by rw[hs])
end
section
variable {t:List UInt8}
theorem p7M_in {q:Pos}(h:q.In t):(p7M t q).In t:=by unfold p7M;split;exact(vv h).adv (by decide);exact vv h
theorem p8M_in {q:Pos}(h:q.In t):(p8M t q).In t:=yo (q:=fun _=>wK (zM t q)=true∧opM t q=0) (p7M_in h)
theorem sf {q:Pos}(h:q.In t):(p9M t q).In t:=yo (q:=fun _=>pi (wdM t q) (zM t q).2.2.2.1 (zM t q).2.2.2.2.1 (opM t q) (zsM t q) (mM t q)≠0) (p8M_in h)
theorem De (by' w:Bool)(op x:Int):(eI op=false→fw (szM by' op w x))∧(eI op=true→szM by' op w x=0):=by
 unfold szM fw
 cases h8:cU op<;>cases h0:eI op<;>cases by'<;>cases w<;>by_cases h3:x/8%2=1<;>simp[h3]
 all_goals
  unfold cU at h8
  unfold eI at h0
  have:=of_decide_eq_true h8
  have:=of_decide_eq_true h0
  omega
def needF (sec:Bool)(n:Nat):Bool:=decide (((shz sec n).2.1=3∨(shz sec n).2.1=5∨(shz sec n).2.1=6∨(shz sec n).2.1=8)→((shz sec n).2.2.1=0→eI (shz sec n).1=false)∧∀d:Nat,d<8→eI (grp (shz sec n).2.2.1.toNat d)=false)
theorem needF_F:∀n:Nat,n<256→needF false n=true:=by decide +kernel
theorem needF_T:∀n:Nat,n<256→needF true n=true:=by decide +kernel
theorem Cl (sec:Bool){n:Nat}(h:n<256):needF sec n=true:=by
 cases sec
 ·exact needF_F n h
 ·exact needF_T n h
theorem na {q:Pos}(h:q.In t)(hf:(zM t q).2.1=3∨(zM t q).2.1=5∨(zM t q).2.1=6∨(zM t q).2.1=8):fw (zsM t q):=by
 have hb:=jW h
 have hm:=kX h
 have hn:=of_decide_eq_true (Cl (t3 t q) (show(bM t q).toNat<256 by omega)) hf
 refine(De _ _ _ _).1 ?_
 unfold opM
 cases hg:wK (zM t q)with
 |true=>rw[if_pos rfl];exact hn.2 _ (by omega)
 |false=>
  rw[if_neg (by decide)]
  have hz:=of_decide_eq_true (rc h)
  have:¬0<(zM t q).2.2.1:=of_decide_eq_false hg
  exact hn.1 (show(zM t q).2.2.1=0 by omega)
theorem frm_17 {q:Pos}(h:q.In t):(if(zM t q).2.1=17 then(zM t q).2.2.2.2.1 else 0)=(zM t q).2.2.2.2.1:=by
 have hz:=of_decide_eq_true (rc h)
 split
 ·rfl
 ·omega
theorem ir {n c:Int}{p:Pos}(h:p= .error c):adv t n p= .error c:=by rw[h];rfl
theorem exb_err {f:Int→Except Int Int}{c:Int}{p:Pos}(h:p= .error c):exb p f= .error c:=by rw[h];rfl
theorem Gt {q:Pos}{c:Int}(h:p3M t q= .error c):p6M t q= .error c:=by
 unfold p6M p5M
 rw[ir h,ir rfl]
 split<;>rfl
theorem Cv {q:Pos}{c:Int}(h:p6M t q= .error c):p8M t q= .error c:=by
 unfold p8M p7M
 rw[h,ir rfl]
 split<;>rfl
theorem vw {q:Pos}{c:Int}(h:p8M t q= .error c):p9M t q= .error c:=by unfold p9M;exact exb_err h
theorem sL {w c:Int}{p:Pos}(h:p= .error c):A7 t w p= .error c:=by
 unfold A7;split
 ·exact h
 ·exact ir h
theorem jJ {x m z c:Int}{p:Pos}(h:p= .error c):(plM t x m z p).2= .error c:=by
 unfold plM Av
 split
 ·exact h
 ·split
  ·exact sL (ir h)
  ·split
   ·exact sL (w:=4) h
   ·exact sL h
theorem yR {f frm op z x b m c:Int}{p:Pos}(h:p= .error c):(nF t f frm op z x b m p).2.2= .error c:=by
 unfold nF
 by_cases f1:f=1
 ·rw[if_pos f1]
  exact jJ h
 rw[if_neg f1]
 by_cases f2:f=2
 ·rw[if_pos f2]
  exact jJ h
 rw[if_neg f2]
 by_cases f17:f=17
 ·rw[if_pos f17]
  exact jJ h
 rw[if_neg f17]
 by_cases f3:f=3
 ·rw[if_pos f3]
  exact ir h
 rw[if_neg f3]
 by_cases f4:f=4
 ·rw[if_pos f4]
  exact ir (jJ h)
 rw[if_neg f4]
 by_cases f5:f=5
 ·rw[if_pos f5]
  exact ir (jJ h)
 rw[if_neg f5]
 by_cases f6:f=6
 ·rw[if_pos f6]
  unfold my
  cases Ah op
  ·rw[if_neg (by decide)]
   by_cases ho:op=10
   ·rw[if_pos ho]
    exact ir (jJ h)
   ·rw[if_neg ho]
    exact jJ h
  ·rw[if_pos rfl]
   exact jJ h
 rw[if_neg f6]
 by_cases f7:f=7
 ·rw[if_pos f7]
  by_cases ho:op=29
  ·rw[if_pos ho]
   exact h
  ·rw[if_neg ho]
   exact h
 rw[if_neg f7]
 by_cases f8:f=8
 ·rw[if_pos f8]
  exact ir h
 rw[if_neg f8]
 by_cases f9:f=9
 ·rw[if_pos f9]
  exact ir h
 rw[if_neg f9]
 by_cases f15:f=15
 ·rw[if_pos f15]
  exact ir h
 rw[if_neg f15]
 by_cases f10:f=10∨f=16
 ·rw[if_pos f10]
  exact ir h
 rw[if_neg f10]
 by_cases f11:f=11
 ·rw[if_pos f11]
  exact ir (jJ h)
 rw[if_neg f11]
 by_cases f12:f=12
 ·rw[if_pos f12]
  exact jJ h
 rw[if_neg f12]
 by_cases f13:f=13
 ·rw[if_pos f13]
  exact jJ h
 rw[if_neg f13]
 exact h
theorem yh {at0 c:Int}(h:p9M t (.ok at0)= .error c):mN t at0=(sH,c):=by
 have:(oM t (.ok at0)).2.2= .error c:=yR h
 unfold mN
 rw[this]
theorem wt {at0 e:Int}(h:(oM t (.ok at0)).2.2= .ok e):mN t at0=(⟨opM t (.ok at0),zsM t (.ok at0),cdM t (.ok at0),(zM t (.ok at0)).2.2.2.2.1,(oM t (.ok at0)).1,(oM t (.ok at0)).2.1,e-at0⟩,0):=by
 unfold mN
 rw[h]
theorem xo {f frm op z x b m:Int}{p:Pos}(h:p.In t)(hz:(f=3∨f=5∨f=6∨f=8)→fw z):(nF t f frm op z x b m p).2.2.In t:=by
 unfold nF
 by_cases f1:f=1
 ·rw[if_pos f1]
  exact i5 h
 rw[if_neg f1]
 by_cases f2:f=2
 ·rw[if_pos f2]
  exact i5 h
 rw[if_neg f2]
 by_cases f17:f=17
 ·rw[if_pos f17]
  exact i5 h
 rw[if_neg f17]
 by_cases f3:f=3
 ·rw[if_pos f3]
  exact h.adv (Int.le_trans (by decide) (mQ (hz (.inl f3))).1)
 rw[if_neg f3]
 by_cases f4:f=4
 ·rw[if_pos f4]
  exact(i5 h).adv (by decide)
 rw[if_neg f4]
 by_cases f5:f=5
 ·rw[if_pos f5]
  exact(i5 h).adv (Int.le_trans (by decide) (mQ (hz (.inr (.inl f5)))).1)
 rw[if_neg f5]
 by_cases f6:f=6
 ·rw[if_pos f6]
  unfold my
  cases Ah op
  ·rw[if_neg (by decide)]
   by_cases ho:op=10
   ·rw[if_pos ho]
    exact(i5 h).adv (Int.le_trans (by decide) (mQ (hz (.inr (.inr (.inl f6))))).1)
   ·rw[if_neg ho]
    exact i5 h
  ·rw[if_pos rfl]
   exact i5 h
 rw[if_neg f6]
 by_cases f7:f=7
 ·rw[if_pos f7]
  by_cases ho:op=29
  ·rw[if_pos ho]
   exact h
  ·rw[if_neg ho]
   exact h
 rw[if_neg f7]
 by_cases f8:f=8
 ·rw[if_pos f8]
  exact h.adv (by have:=sz18 (hz (.inr (.inr (.inr f8))));omega)
 rw[if_neg f8]
 by_cases f9:f=9
 ·rw[if_pos f9]
  exact h.adv (by decide)
 rw[if_neg f9]
 by_cases f15:f=15
 ·rw[if_pos f15]
  exact h.adv (by decide)
 rw[if_neg f15]
 by_cases f10:f=10∨f=16
 ·rw[if_pos f10]
  exact h.adv (by decide)
 rw[if_neg f10]
 by_cases f11:f=11
 ·rw[if_pos f11]
  exact(i5 h).adv (by decide)
 rw[if_neg f11]
 by_cases f12:f=12
 ·rw[if_pos f12]
  exact i5 h
 rw[if_neg f12]
 by_cases f13:f=13
 ·rw[if_pos f13]
  exact i5 h
 rw[if_neg f13]
 exact h
theorem i9 {y:Int}(h:y≠0):aY (eqI y 0)=true:=by rw[ar h];rfl
theorem AX {at0:Int}(hl:(t.length:Int)≤1099511627776)(h0:0≤at0)(h1:at0≤t.length):gf ((t,at0,()),())=some (((mN t at0).1,(mN t at0).2,()),()):=by
 have hq:Pos.In (.ok at0) t:=fun a ha=>by cases ha;exact⟨h0,h1⟩
 have bad:∀ {c},c≠0→p9M t (.ok at0)= .error c→(some (((sH,c,()),()):(Ins×Int×Unit)×Unit))=some (((mN t at0).1,(mN t at0).2,()),()):=fun _ h=>by rw[yh h]
 unfold gf
 dsimp only[p5,d6]
 obtain⟨a1,c1,e1,g1⟩:=uu (t:=t) (a:=at0) (c:=0) (0,0,0,0,false,0,0,0,0,0,0,0,0,0,0,0,0,0,0,0,0,0,0,0,0,0,0,0,()) hl hq
 rw[e1,aa]
 dsimp only
 rw[dx]at g1⊢
 by_cases n1:c1≠0
 ·rw[i9 n1,aI]
  rw[cV n1]at g1
  exact bad n1 (vw (Cv (Gt g1.symm)))
 obtain rfl:c1=0:=Decidable.not_not.1 n1
 rw[show aY (eqI 0 0)=false from rfl,aj]
 obtain⟨y2,e2,g2,k2⟩:=sJ (.ok at0) (wdM t (.ok at0)) (xM t (.ok at0)%16) (decide (xM t (.ok at0)≠0)) (0,0,0,0,0,0,0,0,0,0,0,0,0,0,0,0,0,0,()) hl hq g1
 rw[e2,aa]
 cases h6:p6M t (.ok at0)with
 |error c=>
  rw[h6]at g2
  obtain⟨rfl,n2⟩:=lP g2
  rw[i9 n2,aI]
  exact bad n2 (vw (Cv h6))
 |ok a2=>
 obtain rfl:=k2 a2 h6
 dsimp only
 rw[show aY (eqI 0 0)=false from rfl,aj]
 obtain⟨y3,e3,g3,k3⟩:=A5 (.ok at0) a2 (wdM t (.ok at0)) (xM t (.ok at0)%16) (decide (xM t (.ok at0)≠0)) (0,0,0,0,0,0,0,0,0,0,0,0,0,0,0,0,0,0,()) hl hq h6
 refine(Ret.bnd (Q:=fun y=>y=y3) (Ret.of_eq e3 rfl) ?_).eq
 rintro _ rfl
 cases h8:p8M t (.ok at0)with
 |error c=>
  rw[h8]at g3
  obtain⟨rfl,n3⟩:=lP g3
  rw[i9 n3,aI]
  exact Ret.of_eq (bad n3 (vw h8)) rfl
 |ok a3=>
 obtain rfl:=k3 a3 h8
 dsimp only[p12,p13,p14,p15]
 rw[show aY (eqI 0 0)=false from rfl,aj]
 obtain⟨c4,e4,k4⟩:=D0 (t:=t) (x:=xM t (.ok at0)) (m:=mM t (.ok at0)) (z1:=(zM t (.ok at0)).1) (f:=(zM t (.ok at0)).2.1) (g:=(zM t (.ok at0)).2.2.1) (frm:=(zM t (.ok at0)).2.2.2.2.1) (op:=opM t (.ok at0)) (b:=bM t (.ok at0)) (nw:=wdM t (.ok at0)) (by':=(zM t (.ok at0)).2.2.2.1) (zz:=zsM t (.ok at0)) (rg:=mM t (.ok at0)/8%8) (rm:=mM t (.ok at0)%8) (e:=a3) (0,0,0,0,0,0,0,0,0,0,0,0,0,0,0,0,0,()) (vq hq) rfl
 refine Ret.bnd (Q:=fun y=>y=_) (Ret.of_eq e4 rfl) ?_
 rintro _ rfl
 dsimp only[p16]
 have h9:p9M t (.ok at0)=if c4≠0 then .error c4 else .ok a3:=by unfold p9M;rw[h8,k4];rfl
 by_cases n4:c4≠0
 ·rw[i9 n4,aI]
  rw[if_pos n4]at h9
  exact Ret.of_eq (bad n4 h9) rfl
 obtain rfl:c4=0:=Decidable.not_not.1 n4
 rw[if_neg n4]at h9
 rw[show aY (eqI 0 0)=false from rfl,aj]
 have hm:=kX hq
 have hb:=jW hq
 have hin9:(aH a3 0).In t:=by rw[dx,←h9];exact sf hq
 obtain⟨a5,c5,e5,g5⟩:=ut (x:=xM t (.ok at0)) (z:=zsM t (.ok at0)) (f:=(zM t (.ok at0)).2.1) (frm:=(zM t (.ok at0)).2.2.2.2.1) (op:=opM t (.ok at0)) hm.1 hm.2 hb.1 hb.2 (wdM t (.ok at0)) (zM t (.ok at0)).1 (zM t (.ok at0)).2.2.1 (zM t (.ok at0)).2.2.2.1 (na hq) hl hin9
 rw[frm_17 hq,dx,←h9]at e5
 rw[dx,←h9]at g5
 refine Ret.bnd (Q:=fun y=>y=_) (Ret.of_eq e5 rfl) ?_
 rintro _ rfl
 change aH a5 c5=(oM t (.ok at0)).2.2 at g5
 dsimp only[p16,p18,d18,p15]
 by_cases n5:c5≠0
 ·rw[i9 n5,aI]
  rw[cV n5]at g5
  refine Ret.some ?_
  unfold mN
  rw[←g5]
  rfl
 obtain rfl:c5=0:=Decidable.not_not.1 n5
 rw[dx]at g5
 rw[show aY (eqI 0 0)=false from rfl,aj,wt g5.symm]
 have hin5:0≤a5∧a5≤t.length:=(xo (sf hq) (na hq)) a5 g5.symm
 simp only[sw2,aa,ag]
 have hb15:=(bI hb.1 hb.2).2.2.2
 unfold cdM
 by_cases ho:opM t (.ok at0)=33∨opM t (.ok at0)=35∨opM t (.ok at0)=36
 ·rw[if_pos ho,show(eqI (opM t (.ok at0)) 33||(eqI (opM t (.ok at0)) 35||eqI (opM t (.ok at0)) 36))=true by simpa[eqI]using ho,aI,aa,ag]
  dsimp only
  rw[cE (by omega) (by omega),←hb15]
  exact Ret.some rfl
 ·rw[if_neg ho,show(eqI (opM t (.ok at0)) 33||(eqI (opM t (.ok at0)) 35||eqI (opM t (.ok at0)) 36))=false by simpa[eqI]using ho,aj,aa,ag]
  dsimp only
  rw[cE (by omega) (by omega)]
  exact Ret.some rfl
end
section
variable {t:List UInt8}
theorem oR {b:Int}(h0:0≤b)(h1:b<256):d9 ((b,()),())=some (decide (b∈px∧b≠102),()):=by
 obtain⟨n,rfl⟩:=Int.eq_ofNat_of_zero_le h0
 rw[Fo n (by omega)]
 have:((n:Int)≠102)↔n≠102:=by omega
 simp only[this]
theorem nG {p:Pos}{a:Int}(hp:p.In t)(h:adv t 1 p= .ok a):pkB t p=rdU t 1 p:=by
 cases p with
 |error _=>cases h
 |ok b=>
  unfold adv exb at h
  dsimp only at h
  by_cases hl:b+1≤t.length
  ·exact(yV hp (by unfold pkB;dsimp only;rw[if_pos (by omega)];exact(jX t b).1)).1.symm
  ·rw[if_neg hl]at h;cases h
theorem vB {p:Pos}{a c:Int}(hp:p= .ok a)(h:adv t 1 p= .error c):pkB t p= -1∧rdU t 1 p=0:=by
 subst hp
 unfold adv exb at h
 unfold pkB rdU
 dsimp only at h⊢
 by_cases hl:a+1≤t.length
 ·rw[if_pos hl]at h;cases h
 ·rw[if_neg (by omega),if_neg hl];exact⟨rfl,rfl⟩
def wa:Shz:=(0,0,0,false,0,())
theorem FF {at0:Int}(hl:(t.length:Int)≤1099511627776)(h0:0≤at0)(h1:at0≤t.length):
  Ret (dN ((),(t,at0,0,false,0,()),())) fun y=>aH y.2.1.2.1 y.2.1.2.2.2.2.1=p6M t (.ok at0)∧
   ∀e,p6M t (.ok at0)= .ok e→y=((zM t (.ok at0),bM t (.ok at0),()),(t,e,xM t (.ok at0),wdM t (.ok at0),0,()),()):=by
 have hq:Pos.In (.ok at0) t:=fun a ha=>by cases ha;exact⟨h0,h1⟩
 obtain⟨q,hqq⟩:∃q:Pos,q= .ok at0:=⟨_,rfl⟩
 unfold dN
 obtain⟨a1,c1,e1,g1⟩:=ka (t:=t) (a:=at0) (c:=0) (x:=0) (w:=false) hl hq
 rw[e1,aa]
 dsimp only
 rw[dx]at g1⊢
 rw[←hqq]at g1 hq⊢
 refine Ret.iter (fun x=>(∃a c,x=((rdU t 1 q,()),(t,a,0,false,c,()),wa,())∧aH a c=adv t 1 q)∨
   (∃a c,x=((rdU t 1 (p1M t q),()),(t,a,0,true,c,()),wa,())∧aH a c=adv t 1 (p1M t q)∧wdM t q=true)∨
   (∃a,x=((0,()),(t,a,0,true,10,()),wa,())∧p2M t q= .error 10))
  (fun x=>(if x.2.1.2.2.2.1=true then 0 else 2)+(if x.2.1.2.2.2.2.1=0 then 1 else 0)) ?_ F _ (.inl ⟨a1,c1,rfl,g1⟩) (by unfold F;dsimp only;split<;>split<;>omega)
 intro x rec hI hrec
 have hcase:(∃a c w,x=((rdU t 1 (p2M t q),()),(t,a,0,w,c,()),wa,())∧aH a c=adv t 1 (p2M t q)∧(∀e,p2M t q= .ok e→w=wdM t q)∧(c=0→¬rdU t 1 (p2M t q)∈px))∨
   (∃a w p,x=((rdU t 1 p,()),(t,a,0,w,0,()),wa,())∧p.In t∧aH a 0=adv t 1 p∧rdU t 1 p∈px∧(w=false∧p=q∨w=true∧p=p1M t q∧wdM t q=true)):=by
  rcases hI with ⟨a,c,rfl,h⟩|⟨a,c,rfl,h,hw⟩|⟨a,rfl,h⟩
  ·by_cases hs:c=0∧rdU t 1 q∈px
   ·obtain⟨rfl,hs⟩:=hs
    exact .inr ⟨a,false,q,rfl,hq,h,hs,.inl ⟨rfl,rfl⟩⟩
   ·have hpk:¬pkB t q∈px:=by
     by_cases hc:c=0
     ·subst hc
      rw[nG hq h.symm];exact fun g=>hs ⟨rfl,g⟩
     ·rw[cV hc]at h
      rw[(vB hqq h.symm).1];decide
    have hw:wdM t q=false:=decide_eq_false fun g=>hpk (by rw[g];decide)
    have e1:p1M t q=q:=by unfold p1M;rw[hw,if_neg (by decide)]
    have e2:p2M t q=q:=by
     unfold p2M;rw[e1,hqq];unfold exb;dsimp only;rw[if_neg (by rw[hqq]at hpk;exact hpk)]
    refine .inl ⟨a,c,false,by rw[e2],by rw[e2];exact h,fun _ _=>hw.symm,fun hc=>?_⟩
    rw[e2];exact fun g=>hs ⟨hc,g⟩
  ·by_cases hs:c=0∧rdU t 1 (p1M t q)∈px
   ·obtain⟨rfl,hs⟩:=hs
    exact .inr ⟨a,true,p1M t q,rfl,yS hq,h,hs,.inr ⟨rfl,rfl,hw⟩⟩
   ·have hp1:p1M t q=adv t 1 q:=by unfold p1M;rw[hw,if_pos rfl]
    have hpk:¬pkB t (p1M t q)∈px:=by
     by_cases hc:c=0
     ·subst hc
      rw[nG (yS hq) h.symm];exact fun g=>hs ⟨rfl,g⟩
     ·rw[cV hc]at h
      cases hp:p1M t q with
      |error _=>unfold pkB;dsimp only;decide
      |ok a'=>rw[(vB rfl (hp▸h.symm)).1];decide
    have e2:p2M t q=p1M t q:=by
     unfold p2M
     cases hp:p1M t q with
     |error _=>rfl
     |ok a'=>rw[hp]at hpk;unfold exb;dsimp only;rw[if_neg hpk]
    refine .inl ⟨a,c,true,by rw[e2],by rw[e2];exact h,fun _ _=>hw.symm,fun hc=>?_⟩
    rw[e2];exact fun g=>hs ⟨hc,g⟩
  ·refine .inl ⟨a,10,true,by rw[h];rfl,by rw[h];rfl,fun e he=>?_,fun hc=>?_⟩
   ·rw[h]at he;cases he
   ·cases hc
 rcases hcase with ⟨a,c,w,rfl,hpos,hw,hend⟩|⟨a,w,p,rfl,hpin,hpos,hpf,hS⟩
 ·have hb2:=dQ t (p2M t q) (oV hq)
  have hb3:=dQ t (p3M t q) (yT hq)
  dsimp only
  refine Ret.bnd (Q:=fun y=>y=false) ?_ ?_
  ·by_cases hc:c=0
   ·have hn:=hend hc
    rw[bc hc,aI,ar (fun g=>hn (by rw[g];decide)),aj,oR hb2.1 hb2.2,aa,aa,decide_eq_false (fun g=>hn g.1)]
    exact Ret.some rfl
   ·rw[ar hc,aj];exact Ret.some rfl
  rintro _ rfl
  rw[aj]
  refine Ret.bnd (Q:=fun y=>y=hxM t q) ?_ ?_
  ·by_cases hc:c=0
   ·subst hc
    rw[bc rfl,aI,gQ hb2.1 (by decide) (by omega)]
    refine Ret.some ?_
    unfold hxM
    rw[nG (oV hq) hpos.symm,Bool.eq_iff_iff,oL,decide_eq_true_eq]
    omega
   ·rw[ar hc,aj]
    refine Ret.some ?_
    symm
    refine decide_eq_false fun g=>?_
    obtain⟨_,_,_,_,hk⟩:=yV (oV hq) (show 0≤pkB t (p2M t q)by omega)
    rw[hk,cV hc]at hpos
    cases hpos
  rintro _ rfl
  refine Ret.bnd (Q:=fun y=>∃a c,y=Sum.inl ((rdU t 1 (p3M t q),()),(t,a,xM t q,w,c,()),wa,())∧aH a c=adv t 1 (p3M t q)) ?_ ?_
  ·cases hh:hxM t q with
   |true=>
    have hg:64≤pkB t (p2M t q)∧pkB t (p2M t q)≤79:=of_decide_eq_true hh
    obtain⟨hk,_⟩:=yV (oV hq) (show 0≤pkB t (p2M t q)by omega)
    have hin:(aH a c).In t:=by rw[hpos];exact(oV hq).adv (by decide)
    obtain⟨a3,c3,e3,g3⟩:=ka (x:=rdU t 1 (p2M t q)) (w:=w) hl hin
    have e4:p3M t q=adv t 1 (p2M t q):=by unfold p3M;rw[hh,if_pos rfl]
    have e5:xM t q=rdU t 1 (p2M t q):=by unfold xM;rw[hh,if_pos rfl,hk]
    rw[aI,e3,aa]
    exact Ret.some ⟨a3,c3,by rw[e4,e5,hpos],by rw[e4,g3,hpos]⟩
   |false=>
    have e4:p3M t q=p2M t q:=by unfold p3M;rw[hh,if_neg (by decide)]
    have e5:xM t q=0:=by unfold xM;rw[hh,if_neg (by decide)]
    rw[aj]
    exact Ret.some ⟨a,c,by rw[e4,e5],by rw[e4,hpos]⟩
  rintro _ ⟨a3,c3,rfl,h3⟩
  rw[ag]
  dsimp only
  have hin3:(aH a3 c3).In t:=by rw[h3];exact vu hq
  refine Ret.bnd (Q:=fun y=>y=t3 t q) ?_ ?_
  ·by_cases hc:c3=0
   ·rw[bc hc,aI];exact Ret.some rfl
   ·rw[ar hc,aj]
    refine Ret.some ?_
    symm
    refine decide_eq_false fun g=>?_
    obtain⟨b,hb⟩:=rd_ok (t:=t) (p:=p3M t q) (n:=1) (by omega)
    exact hc (lQ (h3.trans hb)).2
  rintro _ rfl
  refine Ret.bnd (Q:=fun y=>∃a c,y=Sum.inl ((bM t q,t3 t q,()),(t,a,xM t q,w,c,()),wa,())∧aH a c=p5M t q) ?_ ?_
  ·unfold bM p5M
   cases hs:t3 t q with
   |true=>
    obtain⟨a4,c4,e4,g4⟩:=ka (x:=xM t q) (w:=w) hl hin3
    rw[aI,e4,aa,if_pos rfl,if_pos rfl]
    exact Ret.some ⟨a4,c4,by rw[h3],by rw[g4,h3]⟩
   |false=>
    rw[aj,if_neg (by decide),if_neg (by decide)]
    exact Ret.some ⟨a3,c3,rfl,h3⟩
  rintro _ ⟨a5,c5,rfl,h5⟩
  rw[ag]
  dsimp only
  have hbr:=jW hq
  have hS:=wW (t3 t q) (show(bM t q).toNat<256 by omega)
  rw[Int.toNat_of_nonneg hbr.1]at hS
  rw[hS,aa]
  dsimp only
  have h6:aH a5 (if(zM t q).2.1=0 then(if c5=0 then 11 else c5)else c5)=p6M t q:=by
   unfold p6M
   rw[←h5]
   by_cases hc:c5=0
   ·subst hc
    by_cases hz:(zM t q).2.1=0
    ·rw[if_pos hz,if_pos rfl,dx];unfold exb;dsimp only;rw[if_pos hz];rfl
    ·rw[if_neg hz,dx];unfold exb;dsimp only;rw[if_neg hz]
   ·rw[if_neg hc,cV hc]
    split<;>exact cV hc
  refine Ret.bnd (Q:=fun y=>y=Sum.inl ((bM t q,()),(t,a5,xM t q,w,(if(zM t q).2.1=0 then(if c5=0 then 11 else c5)else c5),()),wa,(zM t q,()))) ?_ ?_
  ·by_cases hz:(zM t q).2.1=0
   ·have hz':(shz (t3 t q) (bM t q).toNat).2.1=0:=hz
    rw[bc hz',aI,pB,aa,if_pos hz]
    exact Ret.some rfl
   ·have hz':¬(shz (t3 t q) (bM t q).toNat).2.1=0:=hz
    rw[ar hz',aj,if_neg hz]
    exact Ret.some rfl
  rintro _ rfl
  rw[ag]
  refine Ret.some ⟨h6,fun e he=>?_⟩
  rw[he]at h6
  obtain⟨ha,hc⟩:=lQ h6
  have hwe:w=wdM t q:=by
   cases hp:p2M t q with
   |ok e'=>exact hw e' hp
   |error k=>
    exfalso
    have:p3M t q= .error k:=by unfold p3M hxM;rw[hp];rw[show pkB t (.error k)= -1 from rfl,if_neg (by decide)]
    rw[Gt this]at he
    cases he
  dsimp only
  rw[hc,ha,hwe]
 ·have hb:=dQ t p hpin
  dsimp only at hrec⊢
  refine Ret.bnd (Q:=fun y=>y=true) ?_ ?_
  ·rw[bc rfl,aI]
   by_cases h102:rdU t 1 p=102
   ·rw[bc h102,aI,aa];exact Ret.some rfl
   ·rw[ar h102,aj,oR hb.1 hb.2,aa,aa,decide_eq_true ⟨hpf,h102⟩];exact Ret.some rfl
  rintro _ rfl
  rw[aI]
  have hpk:pkB t p=rdU t 1 p:=nG hpin hpos.symm
  by_cases hgo:rdU t 1 p=102∧w=false
  ·
   obtain⟨h102,rfl⟩:=hgo
   obtain rfl:p=q:=by
    rcases hS with ⟨_,g⟩|⟨g,_⟩
    ·exact g
    ·cases g
   have hwd:wdM t p=true:=decide_eq_true (by rw[hpk];exact h102)
   have e1:p1M t p=adv t 1 p:=by unfold p1M;rw[hwd,if_pos rfl]
   have hin:(aH a 0).In t:=by rw[hpos];exact hpin.adv (by decide)
   obtain⟨a3,c3,e3,g3⟩:=ka (x:=0) (w:=true) hl hin
   rw[bc h102,cf,aj,aa,aj,aa,ag]
   dsimp only
   rw[e3,aa]
   refine hrec _ (.inr (.inl ⟨a3,c3,by rw[e1,hpos],by rw[g3,hpos,e1],hwd⟩)) ?_
   dsimp only
   rw[if_pos rfl,if_neg (show ¬false=true by decide),if_pos rfl]
   split<;>omega
  ·refine Ret.bnd (Q:=fun y=>y=true) ?_ ?_
   ·by_cases h102:rdU t 1 p=102
    ·have hw:w=true:=by
      cases w with
      |true=>rfl
      |false=>exact absurd ⟨h102,rfl⟩ hgo
     rw[bc h102,cf,aj]
     exact Ret.some hw
    ·rw[ar h102,dw,aI];exact Ret.some rfl
   rintro _ rfl
   rw[aI,pB,aa,aa,ag,if_pos rfl]
   dsimp only
   have h2:p2M t q= .error 10:=by
    rcases hS with ⟨rfl,rfl⟩|⟨rfl,rfl,hwd⟩
    ·have hwd:wdM t p=false:=decide_eq_false fun g=>hgo ⟨by rw[←hpk];exact g,rfl⟩
     have e1:p1M t p=p:=by unfold p1M;rw[hwd,if_neg (by decide)]
     unfold p2M
     rw[e1,hpk,hqq]
     rw[hqq]at hpf
     unfold exb
     dsimp only
     rw[if_pos hpf]
    ·unfold p2M
     rw[hpk]
     cases hp:p1M t q with
     |error k=>rw[hp]at hpos;cases hpos
     |ok e=>rw[hp]at hpf;unfold exb;dsimp only;rw[if_pos hpf]
   obtain⟨a3,c3,e3,g3⟩:=ka (t:=t) (a:=a) (c:=10) (x:=0) (w:=true) hl (fun e he=>by cases he)
   rw[e3,aa]
   have hc3:c3=10:=(lP (g3.trans (show adv t 1 (aH a 10)= .error 10 from rfl))).1
   subst hc3
   refine hrec _ (.inr (.inr ⟨a3,rfl,h2⟩)) ?_
   dsimp only
   rw[if_pos rfl,if_neg (show ¬(10:Int)=0 by decide),if_pos rfl]
   split<;>omega
end
section
variable {t:List UInt8}{a c x:Int}{w:Bool}
theorem mD {f:Int}(h:0≤f∧f<18):cR ((f,()),())=some (ns f,()):=by
 obtain⟨n,rfl⟩:=Int.eq_ofNat_of_zero_le h.1
 exact Bx n (by omega)
theorem sw4 {α β γ:Type}{a b:Bool}{r:α}{y:γ}:br a (some (Sum.inl ((y,a,()),r):Sum ((γ×Bool×Unit)×α) β)) (some (Sum.inl ((y,b,()),r)))=some (Sum.inl ((y,a||b,()),r)):=by cases a<;>rfl
theorem Ga (op:Int):(eqI op 29||(eqI op 30||(eqI op 31||eqI op 32)))=cU op:=by rw[Bool.eq_iff_iff];simp[cU,eqI]
theorem F9 (op:Int):(eqI op 33||(eqI op 34||(eqI op 37||(eqI op 38||(eqI op 43||eqI op 44)))))=eI op:=by rw[Bool.eq_iff_iff];simp[eI,eqI]
theorem bit3 {x:Int}(hx:mZ x):aN ((x,3,()),())=some (x/8%2,()):=by
 rw[lF _ _ (by decide) (by decide)]
 have h1:x%2^64=x:=Int.emod_eq_of_lt (by unfold mZ at hx;omega) (by unfold mZ at hx;omega)
 rw[h1];rfl
theorem FJ (z:Shz)(op:Int)(hx:mZ x):dO ((z,op,()),(t,a,x,w,c,()),())=some (szM z.2.2.2.1 op w x,(t,a,x,w,c,()),()):=by
 unfold dO
 dsimp only
 simp only[sw4,aa,ag,Ga]
 unfold szM
 cases h8:cU op with
 |true=>rw[aI,if_pos rfl]
 |false=>
  rw[aj,if_neg (by decide)]
  simp only[sw1,aa,ag,F9]
  cases h0:eI op with
  |true=>rw[aI,aa,oW,if_pos rfl]
  |false=>
   rw[aj,aa,ag,if_neg (by decide)]
   dsimp only
   cases hb:z.2.2.2.1 with
   |true=>rw[aI,if_pos rfl]
   |false=>
    rw[aj,if_neg (by decide),bit3 hx,aa]
    by_cases h3:x/8%2=1
    ·rw[if_pos h3,bc h3,aI]
    ·rw[if_neg h3,ar h3,aj]
     cases w<;>rfl
theorem FO (z:Shz)(op:Int):fL ((z,op,()),())=some (!(cU op||eI op||z.2.2.2.1),()):=by
 unfold fL
 dsimp only
 simp only[sw1,aa,ag]
 have e:(eqI op 29||(eqI op 30||(eqI op 31||(eqI op 32||(eqI op 33||(eqI op 34||(eqI op 37||(eqI op 38||(eqI op 43||eqI op 44)))))))))=(cU op||eI op):=by
  rw[←Ga,←F9];simp only[Bool.or_assoc]
 rw[e]
 cases h:(cU op||eI op)with
 |true=>rw[aI,aa,oW];rfl
 |false=>rw[aj,aa,ag];rfl
theorem CY (y:Ins)(z:Shz)(hf:z.2.2.2.2.1=0∨z.2.2.2.2.1=1∨z.2.2.2.2.1=2∨z.2.2.2.2.1=4)(m:Int):
  eX ((y,z,w,()),())=some (decide (pi w z.2.2.2.1 z.2.2.2.2.1 y.op y.size m≠10),()):=by
 unfold eX
 dsimp only
 refine(Ret.bnd (Q:=fun u=>u=(w&&(cU y.op||eI y.op||z.2.2.2.1))) ?_ ?_).eq
 ·cases w with
  |true=>rw[aI,FO,aa];exact Ret.some (by rw[jq];simp)
  |false=>rw[aj];exact Ret.some rfl
 rintro _ rfl
 unfold pi
 have e3:(w&&(cU y.op||eI y.op||z.2.2.2.1))=true↔(w=true∧(cU y.op=true∨eI y.op=true∨z.2.2.2.1=true)):=by simp[or_assoc]
 by_cases p:(w&&(cU y.op||eI y.op||z.2.2.2.1))=true
 ·rw[p,aI,if_pos (.inl (e3.1 p))]
  exact Ret.some rfl
 ·rw[Bool.not_eq_true]at p
  rw[p,aj]
  have p':¬(w=true∧(cU y.op=true∨eI y.op=true∨z.2.2.2.1=true)):=fun g=>by rw[e3.2 g]at p;cases p
  by_cases h4:z.2.2.2.2.1=4
  ·rw[af (bc h4)]
   refine Ret.some ?_
   congr 1
   by_cases h8:y.size=8
   ·rw[if_neg (fun g=>g.elim p' (by omega)),bc h8]
    split<;>rfl
   ·rw[if_pos (.inr (.inl ⟨h4,h8⟩)),ar h8];rfl
  ·rw[an (ar h4)]
   by_cases h0:z.2.2.2.2.1=0
   ·rw[af (bc h0),aa,if_neg (fun g=>g.elim p' (by omega))]
    refine Ret.some ?_
    congr 1
    split<;>rfl
   ·rw[an (ar h0),aa]
    refine Ret.some ?_
    congr 1
    by_cases hs:y.size≤z.2.2.2.2.1
    ·rw[if_pos (.inr (.inr ⟨by omega,hs⟩)),gH (by omega)];rfl
    ·rw[if_neg (fun g=>g.elim p' (by omega)),ij (by omega)]
     split<;>rfl
theorem DO {w by':Bool}{frm op z m:Int}(h:pi w by' frm op z m≠10):pi w by' frm op z m=if op=25∧m/64=3 then 12 else 0:=by
 unfold pi at h⊢
 split
 ·rename_i g;rw[if_pos g]at h;exact absurd rfl h
 ·rfl
end
section
variable {t:List UInt8}
theorem uQ {at0:Int}(hl:(t.length:Int)≤1099511627776)(h0:0≤at0)(h1:at0≤t.length):d8 ((t,at0,()),())=some (((mN t at0).1,(mN t at0).2,()),()):=by
 have hq:Pos.In (.ok at0) t:=fun a ha=>by cases ha;exact⟨h0,h1⟩
 have bad:∀ {c},p9M t (.ok at0)= .error c→(some (((sH,c,()),()):(Ins×Int×Unit)×Unit))=some (((mN t at0).1,(mN t at0).2,()),()):=fun h=>by rw[yh h]
 have hz:=of_decide_eq_true (rc hq)
 have hm:=kX hq
 have hb:=jW hq
 have hx:=Fy t (.ok at0)
 unfold d8
 dsimp only
 obtain⟨y2,e2,g2,k2⟩:=FF hl h0 h1
 refine(Ret.bnd (Q:=fun y=>y=y2) (Ret.of_eq e2 rfl) ?_).eq
 rintro _ rfl
 cases h6:p6M t (.ok at0)with
 |error c=>
  rw[h6]at g2
  obtain⟨rfl,n2⟩:=lP g2
  rw[i9 n2,aI]
  exact Ret.of_eq (bad (vw (Cv h6))) rfl
 |ok a2=>
 obtain rfl:=k2 a2 h6
 have hin6:(aH a2 0).In t:=by rw[dx,←h6];exact vv hq
 dsimp only
 rw[show aY (eqI 0 0)=false from rfl,aj,mD ⟨hz.2.2.1,hz.2.2.2.1⟩,aa]
 dsimp only
 refine Ret.bnd (Q:=fun y=>∃a c o,y=Sum.inl ((at0,bM t (.ok at0),mM t (.ok at0),()),(0,0,0,0,0,0,0,0,0,0,0,0,0,0,0,0,0,0,0,()),(t,a,xM t (.ok at0),wdM t (.ok at0),c,()),zM t (.ok at0),(o,0,0,(zM t (.ok at0)).2.2.2.2.1,0,0,0,0,0,0,0,0,0,0,0,0,0,0,0,()),())∧aH a c=p8M t (.ok at0)∧(c=0→o=opM t (.ok at0))) ?_ ?_
 ·cases hM:ns (zM t (.ok at0)).2.1 with
  |false=>
   have hg:wK (zM t (.ok at0))=false:=decide_eq_false fun g=>by
    have:=(hz.2.2.2.2.2.2.2.2.1 g).1
    rw[hM]at this;cases this
   have e1:mM t (.ok at0)=0:=by unfold mM;rw[hM,if_neg (by decide)]
   have e2:opM t (.ok at0)=(zM t (.ok at0)).1:=by unfold opM;rw[hg,if_neg (by decide)]
   have e3:p8M t (.ok at0)= .ok a2:=by unfold p8M p7M;rw[hM,hg,if_neg (by decide),h6];simp[exb]
   rw[aj]
   exact Ret.some ⟨a2,0,opM t (.ok at0),by rw[e1,e2],by rw[e3];rfl,fun _=>rfl⟩
  |true=>
   obtain⟨a4,c4,e4,g4⟩:=ka (x:=xM t (.ok at0)) (w:=wdM t (.ok at0)) hl hin6
   have e1:mM t (.ok at0)=rdU t 1 (aH a2 0):=by unfold mM;rw[hM,if_pos rfl,h6];rfl
   have e7:p7M t (.ok at0)=aH a4 c4:=by unfold p7M;rw[hM,if_pos rfl,h6,g4];rfl
   rw[aI,e4,←e1,aa]
   dsimp only
   rw[gQ hm.1 (by decide) (by omega),ej (by omega)]
   by_cases hg:0<(zM t (.ok at0)).2.2.1
   ·have hgB:wK (zM t (.ok at0))=true:=decide_eq_true hg
    have e8:p8M t (.ok at0)=exb (aH a4 c4) fun a=>if opM t (.ok at0)=0 then .error 11 else .ok a:=by
     unfold p8M;rw[e7,hgB];simp only[true_and]
    have eo:grp (zM t (.ok at0)).2.2.1.toNat (mM t (.ok at0)/8%8).toNat=opM t (.ok at0):=by unfold opM;rw[hgB,if_pos rfl]
    by_cases hc:c4=0
    ·subst hc
     have hgo:=wV (zM t (.ok at0)).2.2.1.toNat (by omega) (by omega) (mM t (.ok at0)/8%8).toNat (by omega)
     rw[Int.toNat_of_nonneg (by omega),Int.toNat_of_nonneg (by omega),eo]at hgo
     rw[bc rfl,aI,aa,ij hg,aI,hgo,aa]
     dsimp only
     rw[dx]at e8
     unfold exb at e8
     dsimp only at e8
     by_cases ho:opM t (.ok at0)=0
     ·rw[if_pos ho]at e8
      rw[bc ho,aI,pB,aa,aa,ag,if_pos rfl]
      exact Ret.some ⟨a4,11,opM t (.ok at0),rfl,by rw[e8];rfl,fun _=>rfl⟩
     ·rw[if_neg ho]at e8
      rw[ar ho,aj,aa,ag]
      exact Ret.some ⟨a4,0,opM t (.ok at0),rfl,by rw[e8];rfl,fun _=>rfl⟩
    ·rw[cV hc]at e8
     unfold exb at e8
     dsimp only at e8
     rw[ar hc,aj,aa,aj,aa,ag]
     exact Ret.some ⟨a4,c4,(zM t (.ok at0)).1,rfl,by rw[e8,cV hc],fun g=>absurd g hc⟩
   ·have hgB:wK (zM t (.ok at0))=false:=decide_eq_false hg
    have e2:opM t (.ok at0)=(zM t (.ok at0)).1:=by unfold opM;rw[hgB,if_neg (by decide)]
    have e8:p8M t (.ok at0)=aH a4 c4:=by
     unfold p8M;rw[e7,hgB]
     cases aH a4 c4<;>simp[exb]
    refine Ret.bnd (Q:=fun y=>y=false) ?_ ?_
    ·rw[gH hg]
     cases eqI c4 0
     ·rw[aj];exact Ret.some rfl
     ·rw[aI];exact Ret.some rfl
    rintro _ rfl
    rw[aj,aa,ag]
    exact Ret.some ⟨a4,c4,opM t (.ok at0),by rw[e2],by rw[e8],fun _=>rfl⟩
 rintro _ ⟨a8,c8,o8,rfl,g8,k8⟩
 rw[ag]
 dsimp only
 cases h8:p8M t (.ok at0)with
 |error c=>
  rw[h8]at g8
  obtain⟨rfl,n3⟩:=lP g8
  rw[i9 n3,aI]
  exact Ret.of_eq (bad (vw h8)) rfl
 |ok a3=>
 rw[h8]at g8
 obtain⟨rfl,rfl⟩:=lQ g8
 obtain rfl:=k8 rfl
 rw[show aY (eqI 0 0)=false from rfl,aj,FJ _ _ hx,aa]
 dsimp only
 rw[CY _ _ (by omega) (mM t (.ok at0)),aa]
 have h9:p9M t (.ok at0)=if pi (wdM t (.ok at0)) (zM t (.ok at0)).2.2.2.1 (zM t (.ok at0)).2.2.2.2.1 (opM t (.ok at0)) (zsM t (.ok at0)) (mM t (.ok at0))≠0 then .error (pi (wdM t (.ok at0)) (zM t (.ok at0)).2.2.2.1 (zM t (.ok at0)).2.2.2.2.1 (opM t (.ok at0)) (zsM t (.ok at0)) (mM t (.ok at0)))else .ok a8:=by unfold p9M;rw[h8];rfl
 have hsz:szM (zM t (.ok at0)).2.2.2.1 (opM t (.ok at0)) (wdM t (.ok at0)) (xM t (.ok at0))=zsM t (.ok at0):=rfl
 rw[hsz]
 dsimp only
 by_cases hb10:pi (wdM t (.ok at0)) (zM t (.ok at0)).2.2.2.1 (zM t (.ok at0)).2.2.2.2.1 (opM t (.ok at0)) (zsM t (.ok at0)) (mM t (.ok at0))=10
 ·rw[hb10,if_pos (by decide)]at h9
  rw[decide_eq_false (fun g=>g hb10),dw,aI]
  exact Ret.of_eq (bad h9) rfl
 rw[DO hb10]at h9
 rw[decide_eq_true hb10,cf,aj,gQ hm.1 (by decide) (by omega)]
 refine Ret.bnd (Q:=fun y=>y=decide (opM t (.ok at0)=25∧mM t (.ok at0)/64=3)) ?_ ?_
 ·by_cases ho:opM t (.ok at0)=25
  ·rw[bc ho,aI];exact Ret.some (by simp[eqI,ho])
  ·rw[ar ho,aj];exact Ret.some (by simp[ho])
 rintro _ rfl
 by_cases hlea:opM t (.ok at0)=25∧mM t (.ok at0)/64=3
 ·rw[if_pos hlea,if_pos (by decide)]at h9
  rw[decide_eq_true hlea,aI]
  exact Ret.of_eq (bad h9) rfl
 rw[if_neg hlea,if_neg (by decide)]at h9
 rw[decide_eq_false hlea,aj]
 have hin9:(aH a8 0).In t:=by rw[dx,←h9];exact sf hq
 simp only[AP,aa]
 refine Ret.bnd (Q:=fun y=>y=Sum.inl ((at0,bM t (.ok at0),mM t (.ok at0),()),(0,0,0,0,0,0,0,0,0,0,0,0,0,0,0,0,0,0,0,()),(t,a8,xM t (.ok at0),wdM t (.ok at0),0,()),zM t (.ok at0),(opM t (.ok at0),zsM t (.ok at0),cdM t (.ok at0),(zM t (.ok at0)).2.2.2.2.1,0,0,0,0,0,0,0,0,0,0,0,0,0,0,0,()),())) ?_ ?_
 ·unfold cdM
  by_cases ho:opM t (.ok at0)=33∨opM t (.ok at0)=35∨opM t (.ok at0)=36
  ·rw[if_pos ho,show(eqI (opM t (.ok at0)) 33||eqI (opM t (.ok at0)) 35||eqI (opM t (.ok at0)) 36)=true by simp[eqI];omega,aI,ej hb.1]
   exact Ret.some rfl
  ·rw[if_neg ho,show(eqI (opM t (.ok at0)) 33||eqI (opM t (.ok at0)) 35||eqI (opM t (.ok at0)) 36)=false by simp[eqI];omega,aj]
   exact Ret.some rfl
 rintro _ rfl
 rw[ag]
 dsimp only
 rw[mD ⟨hz.2.2.1,hz.2.2.2.1⟩,aa]
 dsimp only
 refine Ret.bnd (Q:=fun y=>∃a c,y=Sum.inl ((at0,()),(0,0,0,0,0,0,0,0,0,0,0,0,0,0,0,0,0,0,0,()),(t,a,xM t (.ok at0),wdM t (.ok at0),c,()),dT ⟨opM t (.ok at0),zsM t (.ok at0),cdM t (.ok at0),(zM t (.ok at0)).2.2.2.2.1,(oM t (.ok at0)).1,(oM t (.ok at0)).2.1,0⟩ (),())∧aH a c=(oM t (.ok at0)).2.2) ?_ ?_
 ·unfold oM
  have e9:p9M t (.ok at0)=aH a8 0:=h9
  rw[e9]
  cases hM:ns (zM t (.ok at0)).2.1 with
  |true=>
   obtain⟨a5,c5,e5,g5⟩:=CU (w:=wdM t (.ok at0)) (z:=zsM t (.ok at0)) (f:=(zM t (.ok at0)).2.1) (frm:=(zM t (.ok at0)).2.2.2.2.1) (op:=opM t (.ok at0)) (cd:=cdM t (.ok at0)) hx hm.1 hm.2 (bM t (.ok at0)) (zM t (.ok at0)).1 (zM t (.ok at0)).2.2.1 (zM t (.ok at0)).2.2.2.1 hM (fun h=>na hq (by omega)) hl hin9
   rw[aI]
   refine Ret.bnd (Q:=fun y=>y=_) (Ret.of_eq e5 rfl) ?_
   rintro _ rfl
   exact Ret.some ⟨a5,c5,rfl,g5⟩
  |false=>
   obtain⟨a5,c5,e5,g5⟩:=CV (w:=wdM t (.ok at0)) (m:=mM t (.ok at0)) (z:=zsM t (.ok at0)) (f:=(zM t (.ok at0)).2.1) (frm:=(zM t (.ok at0)).2.2.2.2.1) (op:=opM t (.ok at0)) (cd:=cdM t (.ok at0)) hx hb.1 (zM t (.ok at0)).1 (zM t (.ok at0)).2.2.1 (zM t (.ok at0)).2.2.2.1 hM (fun h=>na hq (by omega)) hl hin9
   rw[aj]
   refine Ret.bnd (Q:=fun y=>y=_) (Ret.of_eq e5 rfl) ?_
   rintro _ rfl
   exact Ret.some ⟨a5,c5,rfl,g5⟩
 rintro _ ⟨a5,c5,rfl,g5⟩
 rw[ag]
 dsimp only
 by_cases n5:c5≠0
 ·rw[i9 n5,aI]
  rw[cV n5]at g5
  refine Ret.some ?_
  unfold mN
  rw[←g5]
  rfl
 obtain rfl:c5=0:=Decidable.not_not.1 n5
 rw[dx]at g5
 have hin5:0≤a5∧a5≤t.length:=(xo (sf hq) (na hq)) a5 g5.symm
 rw[show aY (eqI 0 0)=false from rfl,aj,wt g5.symm,cE (by omega) (by omega)]
 exact Ret.some rfl
end
def Pos.Bd (p:Pos)(lo hi:Int):Prop:=∀a,p= .ok a→lo≤a∧a≤hi
section
variable {t:List UInt8}{lo hi:Int}
theorem Pos.Bd.adv {p:Pos}(h:p.Bd lo hi)(n:Int):Pos.Bd (Go.Den.G.adv t n p) (lo+n) (hi+n):=by
 intro a ha
 cases p with
 |error _=>cases ha
 |ok b=>
  obtain⟨h1,h2⟩:=h b rfl
  unfold Go.Den.G.adv exb at ha
  dsimp only at ha
  split at ha
  ·cases ha;omega
  ·cases ha
theorem Pos.Bd.mono {p:Pos}(h:p.Bd lo hi){lo' hi':Int}(h1:lo'≤lo)(h2:hi≤hi'):p.Bd lo' hi':=fun a ha=>by
 have:=h a ha;omega
theorem yn {p:Pos}{q:Int→Prop}[DecidablePred q]{k:Int}(h:p.Bd lo hi):Pos.Bd (exb p fun a=>if q a then .error k else .ok a) lo hi:=by
 intro a ha
 cases p with
 |error c=>cases ha
 |ok b=>
  unfold exb at ha
  dsimp only at ha
  split at ha
  ·cases ha
  ·exact h a (by cases ha;rfl)
theorem p1M_bd {q:Pos}(h:q.Bd lo hi):(p1M t q).Bd lo (hi+1):=by
 unfold p1M;split
 ·exact(h.adv 1).mono (by omega) (by omega)
 ·exact h.mono (by omega) (by omega)
theorem p3M_bd {q:Pos}(h:q.Bd lo hi):(p3M t q).Bd lo (hi+2):=by
 have h2:(p2M t q).Bd lo (hi+1):=yn (q:=fun _=>pkB t (p1M t q)∈px) (p1M_bd h)
 unfold p3M;split
 ·exact(h2.adv 1).mono (by omega) (by omega)
 ·exact h2.mono (by omega) (by omega)
theorem p6M_bd {q:Pos}(h:q.Bd lo hi):(p6M t q).Bd (lo+1) (hi+4):=by
 refine yn (q:=fun _=>(zM t q).2.1=0) ?_
 have h3:=p3M_bd (t:=t) h
 unfold p5M;split
 ·exact((h3.adv 1).adv 1).mono (by omega) (by omega)
 ·exact(h3.adv 1).mono (by omega) (by omega)
theorem p9M_bd {q:Pos}(h:q.Bd lo hi):(p9M t q).Bd (lo+1) (hi+5):=by
 refine yn (q:=fun _=>pi (wdM t q) (zM t q).2.2.2.1 (zM t q).2.2.2.2.1 (opM t q) (zsM t q) (mM t q)≠0) (yn (q:=fun _=>wK (zM t q)=true∧opM t q=0) ?_)
 have h6:=p6M_bd (t:=t) h
 unfold p7M;split
 ·exact(h6.adv 1).mono (by omega) (by omega)
 ·exact h6.mono (by omega) (by omega)
theorem A9 (mod rm b:Int):0≤ko mod rm b∧ko mod rm b≤4:=by unfold ko;(repeat' split)<;>decide
theorem wy {w:Int}{p:Pos}(h:p.Bd lo hi)(hw:0≤w∧w≤4):(A7 t w p).Bd lo (hi+4):=by
 unfold A7;split
 ·exact h.mono (by omega) (by omega)
 ·exact(h.adv w).mono (by omega) (by omega)
theorem lN {x m z:Int}{p:Pos}(h:p.Bd lo hi):(plM t x m z p).2.Bd lo (hi+5):=by
 unfold plM Av
 split
 ·exact h.mono (by omega) (by omega)
 ·split
  ·exact(wy (h.adv 1) (A9 ..)).mono (by omega) (by omega)
  ·split
   ·exact(wy (w:=4) h (by decide)).mono (by omega) (by omega)
   ·exact(wy h (A9 ..)).mono (by omega) (by omega)
theorem wM {z:Int}(h:fw z):1≤iG 4 z∧iG 4 z≤4:=by
 unfold fw at h
 rcases h with rfl|rfl|rfl|rfl<;>decide
theorem opsM_bd {f frm op z x b m:Int}{p:Pos}(h:p.Bd lo hi)(hz:(f=3∨f=5∨f=6∨f=8)→fw z):(nF t f frm op z x b m p).2.2.Bd lo (hi+9):=by
 unfold nF
 by_cases f1:f=1
 ·rw[if_pos f1]
  exact(lN h).mono (by omega) (by omega)
 rw[if_neg f1]
 by_cases f2:f=2
 ·rw[if_pos f2]
  exact(lN h).mono (by omega) (by omega)
 rw[if_neg f2]
 by_cases f17:f=17
 ·rw[if_pos f17]
  exact(lN h).mono (by omega) (by omega)
 rw[if_neg f17]
 by_cases f3:f=3
 ·rw[if_pos f3]
  have:=wM (hz (.inl f3))
  exact(h.adv (iG 4 z)).mono (by omega) (by omega)
 rw[if_neg f3]
 by_cases f4:f=4
 ·rw[if_pos f4]
  exact((lN h).adv 1).mono (by omega) (by omega)
 rw[if_neg f4]
 by_cases f5:f=5
 ·rw[if_pos f5]
  have:=wM (hz (.inr (.inl f5)))
  exact((lN h).adv (iG 4 z)).mono (by omega) (by omega)
 rw[if_neg f5]
 by_cases f6:f=6
 ·rw[if_pos f6]
  unfold my
  cases Ah op
  ·rw[if_neg (by decide)]
   by_cases ho:op=10
   ·rw[if_pos ho]
    have:=wM (hz (.inr (.inr (.inl f6))))
    exact((lN h).adv (iG 4 z)).mono (by omega) (by omega)
   ·rw[if_neg ho]
    exact(lN h).mono (by omega) (by omega)
  ·rw[if_pos rfl]
   exact(lN h).mono (by omega) (by omega)
 rw[if_neg f6]
 by_cases f7:f=7
 ·rw[if_pos f7]
  by_cases ho:op=29
  ·rw[if_pos ho]
   exact h.mono (by omega) (by omega)
  ·rw[if_neg ho]
   exact h.mono (by omega) (by omega)
 rw[if_neg f7]
 by_cases f8:f=8
 ·rw[if_pos f8]
  have:=sz18 (hz (.inr (.inr (.inr f8))))
  exact(h.adv z).mono (by omega) (by omega)
 rw[if_neg f8]
 by_cases f9:f=9
 ·rw[if_pos f9]
  exact(h.adv 1).mono (by omega) (by omega)
 rw[if_neg f9]
 by_cases f15:f=15
 ·rw[if_pos f15]
  exact(h.adv 1).mono (by omega) (by omega)
 rw[if_neg f15]
 by_cases f10:f=10∨f=16
 ·rw[if_pos f10]
  exact(h.adv 4).mono (by omega) (by omega)
 rw[if_neg f10]
 by_cases f11:f=11
 ·rw[if_pos f11]
  exact((lN h).adv 1).mono (by omega) (by omega)
 rw[if_neg f11]
 by_cases f12:f=12
 ·rw[if_pos f12]
  exact(lN h).mono (by omega) (by omega)
 rw[if_neg f12]
 by_cases f13:f=13
 ·rw[if_pos f13]
  exact(lN h).mono (by omega) (by omega)
 rw[if_neg f13]
 exact h.mono (by omega) (by omega)
theorem decLen {at0 e:Int}(h0:0≤at0)(h1:at0≤t.length)(h:(oM t (.ok at0)).2.2= .ok e):at0+1≤e∧e≤at0+14∧e≤t.length:=by
 have hq:Pos.In (.ok at0) t:=fun a ha=>by cases ha;exact⟨h0,h1⟩
 have hb:Pos.Bd (.ok at0) at0 at0:=fun a ha=>by cases ha;omega
 have:=opsM_bd (p9M_bd (t:=t) hb) (na hq) e h
 have:=xo (sf hq) (na hq) e h
 omega
end
theorem xQ (m:Nat):((2^m:Nat):Int)=(2:Int)^m:=by simp
theorem FP (m:Nat)(hm:m≤63)(v:Int): -(2:Int)^m≤sx m v∧sx m v<2^m:=by
 unfold sx
 have hp:(0:Int)<2^(m+1):=Int.pow_pos (by decide)
 have h1:=Int.emod_nonneg v (Int.ne_of_gt hp)
 have h2:=Int.emod_lt_of_pos v hp
 have hd:(2:Int)^(m+1)=2^m*2:=Int.pow_succ 2 m
 have hb:v%2^64/2^m%2=v%2^(m+1)/2^m:=by
  have h64:(2:Int)^(m+1)*2^(63-m)=2^64:=by rw[←Int.pow_add];congr 1;omega
  have h1:v%2^(m+1)=v%2^64%2^(m+1):=by
   rw[Int.emod_emod_of_dvd]
   exact⟨2^(63-m),h64.symm⟩
  rw[h1,Int.pow_succ 2 m]
  have hu:=bn v
  rw[←hu]
  rw[←xQ m]
  have h2:((2^m:Nat):Int)*2=((2^m*2:Nat):Int):=by simp
  rw[h2]
  rw[←Int.natCast_ediv,←Int.natCast_emod,←Int.natCast_ediv,Nat.mod_mul_right_div_self]
  simp
 rw[hb]
 have hpm:(0:Int)<2^m:=Int.pow_pos (by decide)
 generalize v%2^(m+1)=r at*
 by_cases hs:(2:Int)^m≤r
 ·have hq:r/2^m=1:=by
   rw[Int.ediv_eq_iff_of_pos hpm];omega
  rw[hq,if_pos rfl];omega
 ·have hq:r/2^m=0:=Int.ediv_eq_zero_of_lt h1 (by omega)
  rw[hq,if_neg (by decide)];omega
theorem sx7_id {u:Int}(h0: -128≤u)(h1:u<128):sx 7 u=u:=by
 unfold sx;rw[show(2:Int)^(7+1)=256 from rfl,show(2:Int)^7=128 from rfl,show(2:Int)^64=18446744073709551616 from rfl];split<;>omega
theorem sx15_id {u:Int}(h0: -32768≤u)(h1:u<32768):sx 15 u=u:=by
 unfold sx;rw[show(2:Int)^(15+1)=65536 from rfl,show(2:Int)^15=32768 from rfl,show(2:Int)^64=18446744073709551616 from rfl];split<;>omega
theorem Db {u:Int}(h0: -2147483648≤u)(h1:u<2147483648):sx 31 u=u:=by
 unfold sx;rw[show(2:Int)^(31+1)=4294967296 from rfl,show(2:Int)^31=2147483648 from rfl,show(2:Int)^64=18446744073709551616 from rfl];split<;>omega
section
variable {t:List UInt8}
theorem CF {w:Int}(hw:w=1∨w=2∨w=4)(p:Pos): -(2:Int)^(8*w-1).toNat≤rdS t w p∧rdS t w p<2^(8*w-1).toNat:=FP _ (by omega) _
theorem xr (p:Pos): -128≤rdS t 1 p∧rdS t 1 p<128:=CF (.inl rfl) p
theorem rdS2_bd (p:Pos): -32768≤rdS t 2 p∧rdS t 2 p<32768:=CF (.inr (.inl rfl)) p
theorem xu (p:Pos): -2147483648≤rdS t 4 p∧rdS t 4 p<2147483648:=CF (.inr (.inr rfl)) p
theorem wH {u z:Int}(hz:fw z):wG u z=true↔(z=1∧ -128≤u∧u<128)∨(z=2∧ -32768≤u∧u<32768)∨((z=4∨z=8)∧ -2147483648≤u∧u<2147483648):=by
 unfold wG fitsB
 rw[oL]
 have h7: -128≤sx 7 u∧sx 7 u<128:=FP 7 (by decide) u
 have h15: -32768≤sx 15 u∧sx 15 u<32768:=FP 15 (by decide) u
 have h31: -2147483648≤sx 31 u∧sx 31 u<2147483648:=FP 31 (by decide) u
 rcases hz with rfl|rfl|rfl|rfl
 ·show sx 7 u=u↔_
  constructor
  ·intro h;omega
  ·intro h;exact sx7_id (by omega) (by omega)
 ·show sx 15 u=u↔_
  constructor
  ·intro h;omega
  ·intro h;exact sx15_id (by omega) (by omega)
 ·show sx 31 u=u↔_
  constructor
  ·intro h;omega
  ·intro h;exact Db (by omega) (by omega)
 ·show sx 31 u=u↔_
  constructor
  ·intro h;omega
  ·intro h;exact Db (by omega) (by omega)
theorem mP {z:Int}(hz:fw z)(p:Pos):wG (rdS t (iG 4 z) p) z=true:=by
 rw[wH hz]
 have h1:=xr (t:=t) p
 have h2:=rdS2_bd (t:=t) p
 have h4:=xu (t:=t) p
 rcases hz with rfl|rfl|rfl|rfl
 ·exact .inl ⟨rfl,h1⟩
 ·exact .inr (.inl ⟨rfl,h2⟩)
 ·exact .inr (.inr ⟨.inl rfl,h4⟩)
 ·exact .inr (.inr ⟨.inr rfl,h4⟩)
theorem sT {z:Int}(hz:fw z)(p:Pos):wG (rdS t 1 p) z=true:=by
 rw[wH hz]
 have h1:=xr (t:=t) p
 unfold fw at hz
 omega
theorem rP {z:Int}(hz:fw z):wG 0 z=true:=by
 rw[wH hz]
 unfold fw at hz
 omega
def oOK (x z:Int)(o:Opd):Prop:=qE o z∧(x=0→¬rA o z)∧(x≠0→¬DA o)
theorem xi {x n z:Int}(h0:0≤n)(h15:n≤15)(h7:x=0→n≤7):oOK x z (pd (jT x n z)):=by
 unfold oOK qE rA DA opB Gw noP qM pd jT
 dsimp only
 split<;>refine⟨?_,?_,?_⟩<;>omega
theorem xg {x n z:Int}(h0:0≤n)(h15:n≤15)(h7:x=0→n≤7)(hz:z≠1∨n≤3):oOK x z (pd n):=by
 unfold oOK qE rA DA opB Gw noP qM pd
 dsimp only
 refine⟨?_,?_,?_⟩<;>omega
theorem jc {x n z:Int}:oOK x z (uI n):=by
 unfold oOK qE rA DA opB Gw noP qM uI Aw
 dsimp only
 refine⟨?_,?_,?_⟩<;>omega
theorem lK {x z:Int}:oOK x z noD:=by
 unfold oOK qE rA DA opB Gw noP qM noD Aw
 dsimp only
 refine⟨?_,?_,?_⟩<;>omega
theorem xh {x z b i s d:Int}(h1:Aw 2 0 b i s d 0)(h2:x=0→(b≤7∨b=16)∧i≤7):oOK x z (memD b i s d):=by
 refine⟨.inr (.inl h1),fun hx hr=>?_,fun _ hn=>?_⟩
 ·have:=h2 hx
  clear h1
  unfold rA Gw memD at hr
  dsimp only at hr
  omega
 ·unfold DA noP memD at hn
  dsimp only at hn
  omega
theorem A8 {mod rm b:Int}(p:Pos): -2147483648≤Au t (ko mod rm b) p∧Au t (ko mod rm b) p≤2147483647:=by
 have h1:=xr (t:=t) p
 have h4:=xu (t:=t) p
 have hw:ko mod rm b=0∨ko mod rm b=1∨ko mod rm b=4:=by unfold ko;(repeat' split)<;>decide
 unfold Au
 rcases hw with h|h|h<;>rw[h]
 ·rw[if_pos rfl];omega
 ·rw[if_neg (by decide)];omega
 ·rw[if_neg (by decide)];omega
theorem CA {b:Int}(h0:0≤b)(h1:b<256):(2:Int)^(b/64).toNat=1∨(2:Int)^(b/64).toNat=2∨(2:Int)^(b/64).toNat=4∨(2:Int)^(b/64).toNat=8:=by
 have:b/64=0∨b/64=1∨b/64=2∨b/64=3:=by omega
 rcases this with h|h|h|h<;>rw[h]<;>decide
theorem memM_ok {x mod rm z:Int}{p:Pos}(hp:p.In t)(hrm:0≤rm∧rm≤7):oOK x z (Av t x mod rm p).1:=by
 have hb:=dQ t p hp
 obtain⟨e0,e8,ez⟩:=jY (x:=x) (k:=0) (by decide)
 obtain⟨f0,f8,fz⟩:=jY (x:=x) (k:=1) (by decide)
 have e2:=pQ (x:=x) (k:=1) (by decide)
 have hpw:=CA hb.1 hb.2
 unfold Av
 split
 ·refine xh ?_ ?_
  ·have hd:=A8 (t:=t) (mod:=mod) (rm:=rm) (b:=rdU t 1 p) (adv t 1 p)
   generalize Au t (ko mod rm (rdU t 1 p)) (adv t 1 p)=d at hd⊢
   generalize (2:Int)^(rdU t 1 p/64).toNat=s at hpw⊢
   unfold Aw
   split<;>split<;>omega
  ·intro h
   split<;>split<;>omega
 ·split
  ·refine xh ?_ (fun _=>by omega)
   have h4: -2147483648≤Au t 4 p∧Au t 4 p≤2147483647:=by
    have:=xu (t:=t) p
    unfold Au;rw[if_neg (by decide)];omega
   generalize Au t 4 p=d at h4⊢
   unfold Aw;omega
  ·refine xh ?_ (fun _=>by omega)
   have hd:=A8 (t:=t) (mod:=mod) (rm:=rm) (b:=0) p
   generalize Au t (ko mod rm 0) p=d at hd⊢
   unfold Aw;omega
theorem plM_ok {x m z:Int}{p:Pos}(hp:p.In t):oOK x z (plM t x m z p).1:=by
 obtain⟨e0,e8,ez⟩:=jY (x:=x) (k:=0) (by decide)
 unfold plM
 split
 ·exact xi (by omega) (by omega) (by omega)
 ·exact memM_ok hp (by omega)
theorem yW (t:List UInt8)(x m z:Int)(p:Pos):((plM t x m z p).1.kind=1∨(plM t x m z p).1.kind=2)∧(plM t x m z p).1.imm=0∧(m/64≠3→(plM t x m z p).1.kind=2):=by
 unfold plM Av
 split
 ·exact⟨.inl rfl,rfl,fun h=>absurd (by assumption) h⟩
 ·split
  ·exact⟨.inr rfl,rfl,fun _=>rfl⟩
  ·split
   ·exact⟨.inr rfl,rfl,fun _=>rfl⟩
   ·exact⟨.inr rfl,rfl,fun _=>rfl⟩
end
def Aj (f op:Int)(by':Bool):Prop:=
 (f=1∧(1≤op∧op≤10∨op=28))∨(f=2∧(1≤op∧op≤9∨(op=17∨op=25∨op=36)∧by'=false))∨(f=3∧(1≤op∧op≤8∨op=10))∨(f=4∧1≤op∧op≤8)∨(f=5∧1≤op∧op≤9)
def Ak (f op:Int)(by':Bool)(frm:Int):Prop:=
 (f=17∧by'=false∧(op=26∧(frm=1∨frm=2)∨op=27∧(frm=1∨frm=2∨frm=4)))∨(f=6∧(10≤op∧op≤16∨op=18∨op=19∨29≤op∧op≤32∨op=35∧by'=true))∨(f=7∧(op=29∨op=30))∨(f=8∧op=9)
def Al (f op:Int):Prop:=
 (f=9∧(op=32∨op=33))∨(f=15∧(op=29∨op=44))∨(f=10∧31≤op∧op≤33)∨(f=16∧op=29)∨((f=11∨f=12∨f=13)∧20≤op∧op≤24)
def Am (f op:Int)(by':Bool):Prop:=
 f=14∧(op=34∨op=37∨op=38∨op=43∨(op=39∨op=40)∧by'=false∨(op=41∨op=42)∧by'=true)
instance (f op:Int) (b:Bool):Decidable (Aj f op b):=by unfold Aj;infer_instance
instance (f op:Int) (b:Bool) (r:Int):Decidable (Ak f op b r):=by unfold Ak;infer_instance
instance (f op:Int):Decidable (Al f op):=by unfold Al;infer_instance
instance (f op:Int) (b:Bool):Decidable (Am f op b):=by unfold Am;infer_instance
def tabB (f op:Int)(by':Bool)(frm:Int):Bool:=decide ((Aj f op by'∨Ak f op by' frm∨Al f op∨Am f op by')∧(f≠17→frm=0))
def tabC (sec:Bool)(n:Nat):Bool:=
 decide ((shz sec n).2.1=0)||(if 0<(shz sec n).2.2.1 then(List.range 8).all fun d=>decide (grp (shz sec n).2.2.1.toNat d=0)||tabB (shz sec n).2.1 (grp (shz sec n).2.2.1.toNat d) (shz sec n).2.2.2.1 (shz sec n).2.2.2.2.1
  else tabB (shz sec n).2.1 (shz sec n).1 (shz sec n).2.2.2.1 (shz sec n).2.2.2.2.1)
theorem tab_F:∀n:Nat,n<256→tabC false n=true:=by decide +kernel
theorem tab_T:∀n:Nat,n<256→tabC true n=true:=by decide +kernel
theorem tab_all (sec:Bool){n:Nat}(h:n<256):tabC sec n=true:=by
 cases sec
 ·exact tab_F n h
 ·exact tab_T n h
section
variable {t:List UInt8}
theorem Be {p:Pos}{q:Int→Prop}[DecidablePred q]{k e:Int}(h:(exb p fun a=>if q a then .error k else .ok a:Except Int Int)= .ok e):p= .ok e∧¬q e:=by
 cases p with
 |error c=>cases h
 |ok b=>
  unfold exb at h
  dsimp only at h
  split at h
  ·cases h
  ·rename_i hn
   cases h;exact⟨rfl,hn⟩
theorem adv_ok {p:Pos}{n e:Int}(h:adv t n p= .ok e):∃b,p= .ok b∧b+n≤t.length∧e=b+n:=by
 cases p with
 |error c=>cases h
 |ok b=>
  unfold adv exb at h
  dsimp only at h
  split at h
  ·cases h;exact⟨b,rfl,by assumption,rfl⟩
  ·cases h
theorem AW {q:Pos}{e:Int}(hq:q.In t)(h:(oM t q).2.2= .ok e):
  tabB (zM t q).2.1 (opM t q) (zM t q).2.2.2.1 (zM t q).2.2.2.2.1=true∧pi (wdM t q) (zM t q).2.2.2.1 (zM t q).2.2.2.2.1 (opM t q) (zsM t q) (mM t q)=0:=by
 have hb:=jW hq
 have hm:=kX hq
 cases h9:p9M t q with
 |error c=>rw[show(oM t q).2.2= .error c from yR h9]at h;cases h
 |ok a9=>
  obtain⟨h8,hbad⟩:=Be (q:=fun _=>pi (wdM t q) (zM t q).2.2.2.1 (zM t q).2.2.2.2.1 (opM t q) (zsM t q) (mM t q)≠0) h9
  obtain⟨h7,hop⟩:=Be (q:=fun _=>wK (zM t q)=true∧opM t q=0) h8
  have h6:∃b,p6M t q= .ok b:=by
   unfold p7M at h7
   split at h7
   ·obtain⟨b,hb,_⟩:=adv_ok h7;exact⟨b,hb⟩
   ·exact⟨_,h7⟩
  obtain⟨b6,h6⟩:=h6
  obtain⟨_,hf⟩:=Be (q:=fun _=>(zM t q).2.1=0) h6
  refine⟨?_,Decidable.not_not.1 hbad⟩
  have ht:=tab_all (t3 t q) (show(bM t q).toNat<256 by omega)
  unfold tabC at ht
  have hf':¬(shz (t3 t q) (bM t q).toNat).2.1=0:=hf
  rw[decide_eq_false hf',Bool.false_or]at ht
  change (if 0<(zM t q).2.2.1 then _ else tabB (zM t q).2.1 (zM t q).1 (zM t q).2.2.2.1 (zM t q).2.2.2.2.1)=true at ht
  by_cases hg:0<(zM t q).2.2.1
  ·rw[if_pos hg]at ht
   have hgB:wK (zM t q)=true:=decide_eq_true hg
   have eo:opM t q=grp (zM t q).2.2.1.toNat (mM t q/8%8).toNat:=by unfold opM;rw[hgB,if_pos rfl]
   have:=List.all_eq_true.1 ht (mM t q/8%8).toNat (List.mem_range.2 (by omega))
   change (decide (grp (zM t q).2.2.1.toNat _=0)||tabB (zM t q).2.1 (grp (zM t q).2.2.1.toNat _) (zM t q).2.2.2.1 (zM t q).2.2.2.2.1)=true at this
   rw[←eo,decide_eq_false (fun g=>hop ⟨hgB,g⟩),Bool.false_or]at this
   exact this
  ·rw[if_neg hg]at ht
   have hgB:wK (zM t q)=false:=decide_eq_false hg
   have eo:opM t q=(zM t q).1:=by unfold opM;rw[hgB,if_neg (by decide)]
   rw[eo];exact ht
theorem szM_val (by' w:Bool)(op x:Int):(cU op=true→szM by' op w x=8)∧(cU op=false→eI op=true→szM by' op w x=0)∧(cU op=false→eI op=false→(by'=true→szM by' op w x=1)∧(by'=false→szM by' op w x=2∨szM by' op w x=4∨szM by' op w x=8∧x≠0)):=by
 unfold szM
 refine⟨fun h=>by rw[if_pos h],fun h g=>by rw[if_neg (by rw[h];decide),if_pos g],fun h g=>⟨fun k=>?_,fun k=>?_⟩⟩
 ·rw[if_neg (by rw[h];decide),if_neg (by rw[g];decide),if_pos k]
 ·rw[if_neg (by rw[h];decide),if_neg (by rw[g];decide),if_neg (by rw[k];decide)]
  split
  ·right;right;exact⟨rfl,by rintro rfl;omega⟩
  ·split
   ·exact .inl rfl
   ·exact .inr (.inl rfl)
def kOK (n:Nat)(kd ks:Int):Bool:=(prK n).any (vA kd ks)
theorem k_f1:∀n,n<45→(1≤n∧n≤10∨n=28)→kOK n 1 1=true∧kOK n 2 1=true:=by decide +kernel
theorem k_f2:∀n,n<45→(1≤n∧n≤9∨n=17∨n=36∨n=26∨n=27)→kOK n 1 1=true∧kOK n 1 2=true:=by decide +kernel
theorem k_lea:kOK 25 1 2=true:=by decide +kernel
theorem k_ri:∀n,n<45→(1≤n∧n≤10∨20≤n∧n≤24)→kOK n 1 3=true∧kOK n 2 3=true:=by decide +kernel
theorem k_sh:∀n,n<45→20≤n→n≤24→kOK n 1 1=true∧kOK n 2 1=true:=by decide +kernel
theorem k_r0:∀n,n<45→(n=11∨n=12∨n=18∨n=19∨n=30∨n=35)→kOK n 1 0=true∧kOK n 2 0=true:=by decide +kernel
theorem k_0r:∀n,n<45→(13≤n∧n≤16∨n=29∨n=31∨n=32)→kOK n 0 1=true∧kOK n 0 2=true:=by decide +kernel
theorem k_0i:∀n,n<45→(n=29∨n=31∨n=32∨n=33∨n=44)→kOK n 0 3=true:=by decide +kernel
theorem k_00:∀n,n<45→(n=34∨37≤n∧n≤43)→kOK n 0 0=true:=by decide +kernel
end
theorem sd {x:Ins}{n:Nat}(h:n≤8∨n=10):wc x n=wG x.src.imm x.size:=by unfold wc;rw[if_pos h]
theorem yN {x:Ins}:wc x 9=(decide (x.size=8∧x.dst.kind=1)||wG x.src.imm x.size):=by unfold wc;rw[if_neg (by decide),if_pos rfl]
theorem xf {x:Ins}{n:Nat}(h:20≤n∧n≤24):wc x n=decide (¬(x.src.kind=1∧x.src.reg≠1)∧0≤x.src.imm∧x.src.imm≤255):=by
 unfold wc;rw[if_neg (by omega),if_neg (by omega),if_pos h]
theorem numB_26 {x:Ins}:wc x 26=decide (x.frm=1∨x.frm=2∧2<x.size):=rfl
theorem numB_27 {x:Ins}:wc x 27=decide (x.frm=1∨x.frm=2∧2<x.size∨x.frm=4∧x.size=8):=rfl
theorem ow {x:Ins}{n:Nat}(h:n=29∨n=31∨n=32∨n=33):wc x n=wG x.src.imm 4:=by rcases h with rfl|rfl|rfl|rfl<;>rfl
theorem numB_44 {x:Ins}:wc x 44=decide (0≤x.src.imm∧x.src.imm≤255):=rfl
theorem oT {x:Ins}{n:Nat}(h:11≤n∧n≤19∨n=25∨n=28∨n=30∨34≤n∧n≤43):wc x n=true:=by
 unfold wc;rw[if_neg (by omega),if_neg (by omega),if_neg (by omega),if_neg (by omega),if_neg (by omega),if_neg (by omega),if_neg (by omega)]
structure SzV (z op:Int)(by':Bool)(x:Int):Prop where
 ve:29≤op∧op≤32→z=8
 vz:op=33∨op=34∨op=37∨op=38∨op=43∨op=44→z=0
 vb:¬(29≤op∧op≤34∨op=37∨op=38∨op=43∨op=44)→by'=true→z=1
 vn:¬(29≤op∧op≤34∨op=37∨op=38∨op=43∨op=44)→by'=false→z=2∨z=4∨z=8∧x≠0
theorem szV (by' w:Bool)(op x:Int):SzV (szM by' op w x) op by' x:=by
 obtain⟨h1,h2,h3⟩:=szM_val by' w op x
 have e8:cU op=true↔29≤op∧op≤32:=by unfold cU;rw[decide_eq_true_eq];omega
 have e0:eI op=true↔(op=33∨op=34∨op=37∨op=38∨op=43∨op=44):=by unfold eI;rw[decide_eq_true_eq]
 have n8:cU op=false↔¬(29≤op∧op≤32):=by rw[←e8,Bool.not_eq_true]
 have n0:eI op=false↔¬(op=33∨op=34∨op=37∨op=38∨op=43∨op=44):=by rw[←e0,Bool.not_eq_true]
 rw[e8]at h1
 rw[n8,e0]at h2
 rw[n8,n0]at h3
 refine⟨fun h=>h1 (by omega),fun h=>h2 (by omega) (by omega),fun h k=>?_,fun h k=>?_⟩
 ·exact(h3 (by omega) (by omega)).1 k
 ·exact(h3 (by omega) (by omega)).2 k
theorem sz_mem {f frm z x:Int}{by':Bool}{n:Nat}(h:tabB f n by' frm=true)(V:SzV z n by' x)(hn:1≤n)(hn2:n<45):z∈szL (szK n):=by
 have T:=(of_decide_eq_true h).1
 obtain⟨v1,v2,v3,v4⟩:=V
 unfold Aj Ak Al Am at T
 unfold szK szL
 cases by' with
 |true=>
  have v3:=fun g=>v3 g rfl
  clear v4
  simp only[Bool.true_eq_false,and_false,false_and,or_false,and_true,false_or]at T
  by_cases c0:n≤16∨n=18∨n=19∨(20≤n∧n≤24)∨n=28
  ·rw[if_pos c0,if_pos rfl];simp only[List.mem_cons,List.not_mem_nil,or_false];omega
  rw[if_neg c0]
  by_cases c1:n=17∨n=25∨n=26∨n=27∨n=36∨n=39∨n=40
  ·omega
  rw[if_neg c1]
  by_cases c2:29≤n∧n≤32
  ·rw[if_pos c2,if_neg (by decide),if_neg (by decide),if_pos rfl];simp only[List.mem_cons,List.not_mem_nil,or_false];omega
  rw[if_neg c2]
  by_cases c3:n=35∨n=41∨n=42
  ·rw[if_pos c3,if_neg (by decide),if_neg (by decide),if_neg (by decide),if_pos rfl];simp only[List.mem_cons,List.not_mem_nil,or_false];omega
  rw[if_neg c3,if_neg (by decide),if_neg (by decide),if_neg (by decide),if_neg (by decide)];simp only[List.mem_cons,List.not_mem_nil,or_false];omega
 |false=>
  have v4:=fun g=>v4 g rfl
  clear v3
  simp only[Bool.false_eq_true,and_false,or_false,and_true,true_and]at T
  by_cases c0:n≤16∨n=18∨n=19∨(20≤n∧n≤24)∨n=28
  ·rw[if_pos c0,if_pos rfl];simp only[List.mem_cons,List.not_mem_nil,or_false];omega
  rw[if_neg c0]
  by_cases c1:n=17∨n=25∨n=26∨n=27∨n=36∨n=39∨n=40
  ·rw[if_pos c1,if_neg (by decide),if_pos rfl];simp only[List.mem_cons,List.not_mem_nil,or_false];omega
  rw[if_neg c1]
  by_cases c2:29≤n∧n≤32
  ·rw[if_pos c2,if_neg (by decide),if_neg (by decide),if_pos rfl];simp only[List.mem_cons,List.not_mem_nil,or_false];omega
  rw[if_neg c2]
  by_cases c3:n=35∨n=41∨n=42
  ·omega
  rw[if_neg c3,if_neg (by decide),if_neg (by decide),if_neg (by decide),if_neg (by decide)];simp only[List.mem_cons,List.not_mem_nil,or_false];omega
theorem insP_of {op z cd frm len x:Int}{D S:Opd}{n:Nat}(hlen:0≤len∧len≤15)(hcd:0≤cd∧cd≤15)(hcz:(n=33∨n=35∨n=36)∨cd=0)(hfrm:(n=26∨n=27)∨frm=0)(hsz:z∈szL (szK n))
  (hk:kOK n D.kind S.kind=true) (hnum:wc ⟨op,z,cd,frm,D,S,len⟩ n=true) (hD:oOK x z D) (hS:oOK x (sSz ⟨op,z,cd,frm,D,S,len⟩ n) S) (hx:x=0→z≠8∨29≤n∧n≤32):Ge ⟨op,z,cd,frm,D,S,len⟩ n:=by
 refine⟨hlen.1,hlen.2,?_,hfrm,hcz,hcd.1,hcd.2,hD.1,hS.1,?_⟩
 ·unfold shB
  rw[hnum,decide_eq_true hsz]
  show(true&&(kOK n D.kind S.kind&&true))=true
  rw[hk];rfl
 ·by_cases h0:x=0
  ·exact .inr ⟨hD.2.1 h0,hS.2.1 h0,hx h0⟩
  ·exact .inl fun g=>g.elim (hD.2.2 h0) (hS.2.2 h0)
section
variable {t:List UInt8}
theorem AK {w by':Bool}{frm op z m:Int}(h:pi w by' frm op z m=0):(frm=4→z=8)∧((frm=1∨frm=2)→frm<z)∧¬(op=25∧m/64=3):=by
 unfold pi at h
 split at h
 ·omega
 ·rename_i g
  split at h
  ·omega
  ·rename_i g2
   refine⟨fun h4=>?_,fun h4=>?_,g2⟩
   ·by_cases h8:z=8
    ·exact h8
    ·exact absurd (.inr (.inl ⟨h4,h8⟩)) g
   ·by_cases h8:z≤frm
    ·exact absurd (.inr (.inr ⟨h4,h8⟩)) g
    ·omega
theorem CJ {x:Ins}{n:Nat}(h:¬(20≤n∧n≤24))(hf:x.frm=0):sSz x n=x.size:=by unfold sSz;rw[if_neg h,hf,if_neg (by decide)]
theorem sSz_f {x:Ins}{n:Nat}(h:¬(20≤n∧n≤24))(hf:0<x.frm):sSz x n=x.frm:=by unfold sSz;rw[if_neg h,if_pos hf]
theorem sSz_8 {x:Ins}{n:Nat}(h:20≤n∧n≤24):sSz x n=8:=by unfold sSz;rw[if_pos h]
theorem FH {z x op:Int}{by':Bool}(V:SzV z op by' x)(h:¬(op=33∨op=34∨op=37∨op=38∨op=43∨op=44)):fw z:=by
 obtain⟨v1,_,v3,v4⟩:=V
 unfold fw
 by_cases h8:29≤op∧op≤32
 ·have:=v1 h8;omega
 ·cases hb:by' with
  |true=>have:=v3 (by omega) hb;omega
  |false=>have:=v4 (by omega) hb;omega
theorem EV {f frm z x b m cd len:Int}{w by':Bool}{n:Nat}{p:Pos}(hp:p.In t)(hn:1≤n)(hn2:n<45)(hT:tabB f n by' frm=true)(V:SzV z n by' x)(hm0:0≤m)(hm:m<256)
  (hbad:pi w by' frm n z m=0) (hlen:0≤len∧len≤15) (hcd:0≤cd∧cd≤15) (hcz:(n=33∨n=35∨n=36)∨cd=0):
  Ge ⟨n,z,cd,frm,(nF t f frm n z x b m p).1,(nF t f frm n z x b m p).2.1,len⟩ n:=by
 have hsz:=sz_mem hT V hn hn2
 obtain⟨T,hfr⟩:=of_decide_eq_true hT
 obtain⟨b4,b12,blea⟩:=AK hbad
 obtain⟨e0,e8,ez⟩:=jY (x:=x) (k:=0) (by decide)
 obtain⟨g0,g8,gz⟩:=jY (x:=x) (k:=2) (by decide)
 have hrg:∀z,oOK x z (pd (jT x (m/8%8+iW x 2) z)):=fun z=>xi (by omega) (by omega) (by omega)
 have hpl:∀z,oOK x z (plM t x m z p).1:=fun z=>plM_ok hp
 have hpk:=fun z=>yW t x m z p
 have hx8:x=0→z≠8∨29≤n∧n≤32:=fun h0=>by
  obtain⟨v1,v2,v3,v4⟩:=V
  by_cases h8:29≤n∧n≤32
  ·exact .inr h8
  ·left
   by_cases hz:(n:Int)=33∨(n:Int)=34∨(n:Int)=37∨(n:Int)=38∨(n:Int)=43∨(n:Int)=44
   ·have:=v2 hz;omega
   ·cases hby:by' with
    |true=>have:=v3 (by omega) hby;omega
    |false=>have:=v4 (by omega) hby;omega
 have hP:¬(n=33∨n=34∨n=37∨n=38∨n=43∨n=44)→fw z:=fun h=>FH V (by omega)
 have f26:f≠17→(n=26∨n=27)∨frm=0:=fun h=> .inr (hfr h)
 have key:∀(D S:Opd) (q:Pos),nF t f frm n z x b m p=(D,S,q)→kOK n D.kind S.kind=true→wc ⟨n,z,cd,frm,D,S,len⟩ n=true→oOK x z D→oOK x (sSz ⟨n,z,cd,frm,D,S,len⟩ n) S→((n=26∨n=27)∨frm=0)→
   Ge ⟨n,z,cd,frm,(nF t f frm n z x b m p).1,(nF t f frm n z x b m p).2.1,len⟩ n:=fun D S q e k1 k2 k3 k4 k5=>by
  rw[e]
  exact insP_of hlen hcd hcz k5 hsz k1 k2 k3 k4 hx8
 rcases T with T|T|T|T
 ·unfold Aj at T
  rcases T with ⟨rfl,T⟩|⟨rfl,T⟩|⟨rfl,T⟩|⟨rfl,T⟩|⟨rfl,T⟩
  ·have hk:=k_f1 n hn2 (by omega)
   refine key _ _ _ rfl ?_ ?_ (hpl z) (by rw[CJ (by omega) (hfr (by decide))];exact hrg z) (f26 (by decide))
   ·rcases(hpk z).1 with e|e<;>rw[e]
    ·exact hk.1
    ·exact hk.2
   ·by_cases h9:n=9
    ·subst h9;rw[yN];simp[pd,rP (hP (by decide))]
    ·by_cases h28:n=28
     ·exact oT (by omega)
     ·rw[sd (by omega)];exact rP (hP (by omega))
  ·by_cases hl:n=25
   ·subst hl
    have hk2:=(hpk z).2.2 (fun g=>blea ⟨rfl,g⟩)
    refine key _ _ _ rfl ?_ (oT (by omega)) (hrg z) (by rw[CJ (by omega) (hfr (by decide))];exact hpl z) (f26 (by decide))
    rw[hk2];exact k_lea
   ·have hk:=k_f2 n hn2 (by omega)
    refine key _ _ _ rfl ?_ ?_ (hrg z) (by rw[CJ (by omega) (hfr (by decide))];exact hpl z) (f26 (by decide))
    ·rcases(hpk z).1 with e|e<;>rw[e]
     ·exact hk.1
     ·exact hk.2
    ·by_cases h9:n=9
     ·subst h9;rw[yN,(hpk z).2.1,rP (hP (by decide)),Bool.or_true]
     ·by_cases h8:n≤8
      ·rw[sd (.inl h8),(hpk z).2.1];exact rP (hP (by omega))
      ·by_cases h17:n=17
       ·exact oT (by omega)
       ·have:n=36:=by omega
        exact oT (by omega)
  ·have hk:=k_ri n hn2 (by omega)
   refine key _ _ _ rfl hk.1 ?_ (xg (by omega) (by omega) (by omega) (.inr (by decide))) jc (f26 (by decide))
   rw[sd (by omega)];exact mP (hP (by omega)) _
  ·have hk:=k_ri n hn2 (by omega)
   refine key _ _ _ rfl ?_ ?_ (hpl z) jc (f26 (by decide))
   ·rcases(hpk z).1 with e|e<;>rw[e]
    ·exact hk.1
    ·exact hk.2
   ·rw[sd (by omega)];exact sT (hP (by omega)) _
  ·have hk:=k_ri n hn2 (by omega)
   refine key _ _ _ rfl ?_ ?_ (hpl z) jc (f26 (by decide))
   ·rcases(hpk z).1 with e|e<;>rw[e]
    ·exact hk.1
    ·exact hk.2
   ·by_cases h9:n=9
    ·subst h9
     rw[yN]
     show(_||wG (rdS t (iG 4 z) _) z)=true
     rw[mP (hP (by decide)),Bool.or_true]
    ·rw[sd (by omega)];exact mP (hP (by omega)) _
 ·unfold Ak at T
  rcases T with ⟨rfl,hby,T⟩|⟨rfl,T⟩|⟨rfl,T⟩|⟨rfl,T⟩
  ·have hk:=k_f2 n hn2 (by omega)
   refine key _ _ _ rfl ?_ ?_ (hrg z) (by rw[sSz_f (by omega) (show 0<frm by omega)];exact hpl frm) (.inl (by omega))
   ·rcases(hpk frm).1 with e|e<;>rw[e]
    ·exact hk.1
    ·exact hk.2
   ·by_cases h26:n=26
    ·subst h26;rw[numB_26];exact decide_eq_true (by dsimp only;omega)
    ·obtain rfl:n=27:=by omega
     rw[numB_27];exact decide_eq_true (by dsimp only;omega)
  ·by_cases hs:Ah n=true
   ·have hs2:=of_decide_eq_true hs
    have hk:=k_0r n hn2 (by omega)
    refine key _ _ (plM t x m z p).2 (show my t n z (plM t x m z p)=_ by unfold my;rw[if_pos hs]) ?_ ?_ lK (by rw[CJ (by omega) (hfr (by decide))];exact hpl z) (f26 (by decide))
    ·rcases(hpk z).1 with e|e<;>rw[e]
     ·exact hk.1
     ·exact hk.2
    ·by_cases h16:n≤16
     ·exact oT (by omega)
     ·rw[ow (by omega),(hpk z).2.1];exact rP (.inr (.inr (.inl rfl)))
   ·have hs2:=of_decide_eq_false (by rw[Bool.not_eq_true]at hs;exact hs)
    by_cases h10:n=10
    ·subst h10
     have hk:=k_ri 10 hn2 (by omega)
     refine key _ _ _ (show my t 10 z (plM t x m z p)=(_,uI (rdS t (iG 4 z) (plM t x m z p).2),adv t (iG 4 z) (plM t x m z p).2)from rfl) ?_ ?_ (hpl z) jc (f26 (by decide))
     ·rcases(hpk z).1 with e|e<;>rw[e]
      ·exact hk.1
      ·exact hk.2
     ·rw[sd (by omega)];exact mP (hP (by omega)) _
    ·have hk:=k_r0 n hn2 (by omega)
     refine key _ _ (plM t x m z p).2 (show my t n z (plM t x m z p)=_ by unfold my;rw[if_neg hs,if_neg (by omega)]) ?_ (oT (by omega)) (hpl z) lK (f26 (by decide))
     rcases(hpk z).1 with e|e<;>rw[e]
     ·exact hk.1
     ·exact hk.2
  ·have z8:z=8:=V.ve (by omega)
   have hr:oOK x z (pd (b%8+iW x 0)):=xg (by omega) (by omega) (by omega) (.inl (by omega))
   by_cases h29:n=29
   ·subst h29
    refine key _ _ p rfl (k_0r 29 (by decide) (by decide)).1 (by rw[ow (by omega)];exact rP (.inr (.inr (.inl rfl)))) lK (by rw[CJ (by omega) (hfr (by decide))];exact hr) (f26 (by decide))
   ·obtain rfl:n=30:=by omega
    exact key _ _ p rfl (k_r0 30 (by decide) (by decide)).1 (oT (by omega)) hr lK (f26 (by decide))
  ·obtain rfl:n=9:=by omega
   refine key _ _ _ rfl (k_ri 9 (by decide) (by decide)).1 ?_ (xi (by omega) (by omega) (by omega)) jc (f26 (by decide))
   rw[yN]
   by_cases z8:z=8
   ·rw[Bool.or_eq_true];exact .inl (decide_eq_true ⟨z8,rfl⟩)
   ·show(_||wG (rdS t z p) z)=true
    have e:iG 4 z=z:=by have:=hP (by decide);unfold fw at this;rcases this with rfl|rfl|rfl|rfl<;>first|rfl|exact absurd rfl z8
    have:=mP (t:=t) (hP (by decide)) p
    rw[e]at this
    rw[this,Bool.or_true]
 ·unfold Al at T
  rcases T with ⟨rfl,T⟩|⟨rfl,T⟩|⟨rfl,T⟩|⟨rfl,T⟩|⟨T',T⟩
  ·refine key _ _ _ rfl (k_0i n hn2 (by omega)) ?_ lK jc (f26 (by decide))
   rw[ow (by omega)];exact sT (.inr (.inr (.inl rfl))) _
  ·by_cases h44:n=44
   ·subst h44
    have hr:=dQ t p hp
    refine key _ _ _ rfl (k_0i 44 hn2 (by omega)) ?_ lK jc (f26 (by decide))
    rw[numB_44];exact decide_eq_true (by show 0≤rdU t 1 p∧rdU t 1 p≤255;omega)
   ·obtain rfl:n=29:=by omega
    refine key _ _ _ rfl (k_0i 29 hn2 (by omega)) ?_ lK jc (f26 (by decide))
    rw[ow (by omega)];exact sT (.inr (.inr (.inl rfl))) _
  ·refine key _ _ _ rfl (k_0i n hn2 (by omega)) ?_ lK jc (f26 (by decide))
   rw[ow (by omega)];exact mP (z:=4) (.inr (.inr (.inl rfl))) _
  ·refine key _ _ _ rfl (k_0i n hn2 (by omega)) ?_ lK jc (f26 (by decide))
   rw[ow (by omega)];exact mP (z:=4) (.inr (.inr (.inl rfl))) _
  ·have hk:=k_ri n hn2 (by omega)
   have hkr:=k_sh n hn2 (by omega) (by omega)
   rcases T' with rfl|rfl|rfl
   ·have hr:=dQ t (plM t x m z p).2 (i5 hp)
    refine key _ _ _ rfl ?_ ?_ (hpl z) jc (f26 (by decide))
    ·rcases(hpk z).1 with e|e<;>rw[e]
     ·exact hk.1
     ·exact hk.2
    ·rw[xf (by omega)]
     refine decide_eq_true ⟨fun g=>?_,?_⟩
     ·exact absurd g.1 (by show ¬(3:Int)=1;decide)
     ·show 0≤rdU t 1 _∧rdU t 1 _≤255;omega
   ·refine key _ _ _ rfl ?_ ?_ (hpl z) jc (f26 (by decide))
    ·rcases(hpk z).1 with e|e<;>rw[e]
     ·exact hk.1
     ·exact hk.2
    ·rw[xf (by omega)]
     exact decide_eq_true ⟨fun g=>absurd g.1 (by show ¬(3:Int)=1;decide),by show(0:Int)≤1∧(1:Int)≤255;decide⟩
   ·refine key _ _ _ rfl ?_ ?_ (hpl z) (by rw[sSz_8 (by omega)];exact xg (by decide) (by decide) (by omega) (.inl (by decide))) (f26 (by decide))
    ·rcases(hpk z).1 with e|e<;>rw[e]
     ·exact hkr.1
     ·exact hkr.2
    ·rw[xf (by omega)]
     exact decide_eq_true ⟨fun g=>absurd rfl g.2,by show(0:Int)≤0∧(0:Int)≤255;decide⟩
 ·unfold Am at T
  obtain⟨rfl,T⟩:=T
  exact key _ _ p rfl (k_00 n hn2 (by omega)) (oT (by omega)) lK lK (f26 (by decide))
theorem DU {at0 e:Int}(h0:0≤at0)(h1:at0≤t.length)(h:(oM t (.ok at0)).2.2= .ok e):
  ∃n:Nat,1≤n∧n<45∧(mN t at0).1.op=n∧Ge (mN t at0).1 n∧(mN t at0).2=0∧(mN t at0).1.len=e-at0∧1≤e-at0∧e≤t.length:=by
 have hq:Pos.In (.ok at0) t:=fun a ha=>by cases ha;exact⟨h0,h1⟩
 obtain⟨hT,hbad⟩:=AW hq h
 have ho:=vq hq
 have hb:=jW hq
 have hm:=kX hq
 have hl:=decLen h0 h1 h
 obtain⟨n,hn⟩:=Int.eq_ofNat_of_zero_le ho.1
 have hT1:=(of_decide_eq_true hT).1
 have hn1:1≤n:=by
  unfold Aj Ak Al Am at hT1
  omega
 rw[wt h]
 refine⟨n,hn1,by omega,hn,?_,rfl,rfl,by omega,hl.2.2⟩
 have hp9:(p9M t (.ok at0)).In t:=sf hq
 unfold oM
 rw[hn]at hT hbad⊢
 refine EV hp9 hn1 (by omega) hT ?_ hm.1 hm.2 hbad (by omega) ?_ ?_
 ·unfold zsM;rw[hn];exact szV ..
 ·unfold cdM;split<;>omega
 ·unfold cdM;rw[hn];split<;>omega
def Ne0 (p:Pos):Prop:=∀c,p= .error c→c≠0
theorem iU {n:Int}{p:Pos}(h:Ne0 p):Ne0 (adv t n p):=fun c hc=>by
 cases p with
 |error k=>cases hc;exact h _ rfl
 |ok b=>
  unfold adv exb at hc
  dsimp only at hc
  split at hc
  ·cases hc
  ·cases hc;decide
theorem yp {p:Pos}{q:Int→Prop}[DecidablePred q]{k:Int}(h:Ne0 p)(hk:(∃a,q a)→k≠0):Ne0 (exb p fun a=>if q a then .error k else .ok a):=fun c hc=>by
 cases p with
 |error k=>cases hc;exact h _ rfl
 |ok b=>
  unfold exb at hc
  dsimp only at hc
  split at hc
  ·rename_i g;cases hc;exact hk ⟨b,g⟩
  ·cases hc
theorem wA {w:Int}{p:Pos}(h:Ne0 p):Ne0 (A7 t w p):=by
 unfold A7;split
 ·exact h
 ·exact iU h
theorem lO {x m z:Int}{p:Pos}(h:Ne0 p):Ne0 (plM t x m z p).2:=by
 unfold plM Av
 split
 ·exact h
 ·split
  ·exact wA (iU h)
  ·split
   ·exact wA (w:=4) h
   ·exact wA h
theorem opsM_ne {f frm op z x b m:Int}{p:Pos}(h:Ne0 p):Ne0 (nF t f frm op z x b m p).2.2:=by
 unfold nF
 by_cases f1:f=1
 ·rw[if_pos f1]
  exact lO h
 rw[if_neg f1]
 by_cases f2:f=2
 ·rw[if_pos f2]
  exact lO h
 rw[if_neg f2]
 by_cases f17:f=17
 ·rw[if_pos f17]
  exact lO h
 rw[if_neg f17]
 by_cases f3:f=3
 ·rw[if_pos f3]
  exact iU h
 rw[if_neg f3]
 by_cases f4:f=4
 ·rw[if_pos f4]
  exact iU (lO h)
 rw[if_neg f4]
 by_cases f5:f=5
 ·rw[if_pos f5]
  exact iU (lO h)
 rw[if_neg f5]
 by_cases f6:f=6
 ·rw[if_pos f6]
  unfold my
  cases Ah op
  ·rw[if_neg (by decide)]
   by_cases ho:op=10
   ·rw[if_pos ho]
    exact iU (lO h)
   ·rw[if_neg ho]
    exact lO h
  ·rw[if_pos rfl]
   exact lO h
 rw[if_neg f6]
 by_cases f7:f=7
 ·rw[if_pos f7]
  by_cases ho:op=29
  ·rw[if_pos ho]
   exact h
  ·rw[if_neg ho]
   exact h
 rw[if_neg f7]
 by_cases f8:f=8
 ·rw[if_pos f8]
  exact iU h
 rw[if_neg f8]
 by_cases f9:f=9
 ·rw[if_pos f9]
  exact iU h
 rw[if_neg f9]
 by_cases f15:f=15
 ·rw[if_pos f15]
  exact iU h
 rw[if_neg f15]
 by_cases f10:f=10∨f=16
 ·rw[if_pos f10]
  exact iU h
 rw[if_neg f10]
 by_cases f11:f=11
 ·rw[if_pos f11]
  exact iU (lO h)
 rw[if_neg f11]
 by_cases f12:f=12
 ·rw[if_pos f12]
  exact lO h
 rw[if_neg f12]
 by_cases f13:f=13
 ·rw[if_pos f13]
  exact lO h
 rw[if_neg f13]
 exact h
theorem p9_ne {q:Pos}(h:Ne0 q):Ne0 (p9M t q):=by
 refine yp (q:=fun _=>pi (wdM t q) (zM t q).2.2.2.1 (zM t q).2.2.2.2.1 (opM t q) (zsM t q) (mM t q)≠0) (yp (q:=fun _=>wK (zM t q)=true∧opM t q=0) ?_ (fun _=>by decide)) (fun⟨_,g⟩=>g)
 have h1:Ne0 (p1M t q):=by unfold p1M;split;exact iU h;exact h
 have h2:Ne0 (p2M t q):=yp (q:=fun _=>pkB t (p1M t q)∈px) h1 (fun _=>by decide)
 have h3:Ne0 (p3M t q):=by unfold p3M;split;exact iU h2;exact h2
 have h5:Ne0 (p5M t q):=by unfold p5M;split;exact iU (iU h3);exact iU h3
 have h6:Ne0 (p6M t q):=yp (q:=fun _=>(zM t q).2.1=0) h5 (fun _=>by decide)
 unfold p7M;split;exact iU h6;exact h6
theorem DT {at0:Int}(h0:0≤at0)(h1:at0≤t.length):((∃n:Nat,1≤n∧n<45∧(mN t at0).1.op=n∧Ge (mN t at0).1 n)∧(mN t at0).2=0∧1≤(mN t at0).1.len∧at0+(mN t at0).1.len≤t.length)∨((mN t at0).1=sH∧(mN t at0).2≠0):=by
 cases h:(oM t (.ok at0)).2.2 with
 |ok e=>
  obtain⟨n,a1,a2,a3,a4,a5,a6,a7,a8⟩:=DU h0 h1 h
  exact .inl ⟨⟨n,a1,a2,a3,a4⟩,a5,by omega,by omega⟩
 |error c=>
  have hne:c≠0:=opsM_ne (p9_ne (t:=t) (q:= .ok at0) (fun c hc=>by cases hc)) c h
  have e:mN t at0=(sH,c):=by unfold mN;rw[h]
  rw[e]
  exact .inr ⟨rfl,hne⟩
end
section
variable {t:List UInt8}
theorem rdU_I64 (n:Int)(p:Pos):I64 (rdU t n p):=by
 unfold rdU
 cases p with
 |error _=>show I64 0;decide
 |ok a=>
  dsimp only
  split
  ·exact EA t a n
  ·decide
theorem rdS_I64 (n:Int)(h:n≤8)(p:Pos):I64 (rdS t n p):=gS _ (by omega) _
theorem EU {f frm op z x b m:Int}{p:Pos}(hz:z≤8):I64 (nF t f frm op z x b m p).1.imm∧I64 (nF t f frm op z x b m p).2.1.imm:=by
 have i0:I64 0:=by decide
 have pl:∀z,I64 (plM t x m z p).1.imm:=fun z=>by rw[(yW t x m z p).2.1];decide
 have h4:iG 4 z≤8:=by unfold iG;split<;>omega
 have rs:∀(n:Int),n≤8→∀q,I64 (rdS t n q):=fun n h q=>rdS_I64 n h q
 have ru:∀q,I64 (rdU t 1 q):=rdU_I64 1
 unfold nF
 by_cases f1:f=1
 ·rw[if_pos f1]
  exact⟨(pl z),i0⟩
 rw[if_neg f1]
 by_cases f2:f=2
 ·rw[if_pos f2]
  exact⟨i0,(pl z)⟩
 rw[if_neg f2]
 by_cases f17:f=17
 ·rw[if_pos f17]
  exact⟨i0,(pl frm)⟩
 rw[if_neg f17]
 by_cases f3:f=3
 ·rw[if_pos f3]
  exact⟨i0,rs _ (by omega) _⟩
 rw[if_neg f3]
 by_cases f4:f=4
 ·rw[if_pos f4]
  exact⟨(pl z),rs _ (by omega) _⟩
 rw[if_neg f4]
 by_cases f5:f=5
 ·rw[if_pos f5]
  exact⟨(pl z),rs _ (by omega) _⟩
 rw[if_neg f5]
 by_cases f6:f=6
 ·rw[if_pos f6]
  unfold my
  cases Ah op
  ·rw[if_neg (by decide)]
   by_cases ho:op=10
   ·rw[if_pos ho]
    exact⟨(pl z),rs _ (by omega) _⟩
   ·rw[if_neg ho]
    exact⟨(pl z),i0⟩
  ·rw[if_pos rfl]
   exact⟨i0,(pl z)⟩
 rw[if_neg f6]
 by_cases f7:f=7
 ·rw[if_pos f7]
  by_cases ho:op=29
  ·rw[if_pos ho]
   exact⟨i0,i0⟩
  ·rw[if_neg ho]
   exact⟨i0,i0⟩
 rw[if_neg f7]
 by_cases f8:f=8
 ·rw[if_pos f8]
  exact⟨i0,rs _ (by omega) _⟩
 rw[if_neg f8]
 by_cases f9:f=9
 ·rw[if_pos f9]
  exact⟨i0,rs _ (by omega) _⟩
 rw[if_neg f9]
 by_cases f15:f=15
 ·rw[if_pos f15]
  refine⟨i0,?_⟩
  show I64 (if op=44 then rdU t 1 p else rdS t 1 p)
  split
  ·exact ru _
  ·exact rs _ (by omega) _
 rw[if_neg f15]
 by_cases f10:f=10∨f=16
 ·rw[if_pos f10]
  exact⟨i0,rs _ (by omega) _⟩
 rw[if_neg f10]
 by_cases f11:f=11
 ·rw[if_pos f11]
  exact⟨(pl z),ru _⟩
 rw[if_neg f11]
 by_cases f12:f=12
 ·rw[if_pos f12]
  exact⟨(pl z),by show I64 1;decide⟩
 rw[if_neg f12]
 by_cases f13:f=13
 ·rw[if_pos f13]
  exact⟨(pl z),i0⟩
 rw[if_neg f13]
 exact⟨i0,i0⟩
theorem dec_imm (at0:Int):I64 (mN t at0).1.dst.imm∧I64 (mN t at0).1.src.imm:=by
 have hz:zsM t (.ok at0)≤8:=by
  unfold zsM szM
  (repeat' split)<;>decide
 have h:=EU (t:=t) (f:=(zM t (.ok at0)).2.1) (frm:=(zM t (.ok at0)).2.2.2.2.1) (op:=opM t (.ok at0)) (x:=xM t (.ok at0)) (b:=bM t (.ok at0)) (m:=mM t (.ok at0)) (p:=p9M t (.ok at0)) hz
 unfold mN
 split
 ·exact h
 ·exact⟨(by decide:I64 0),(by decide:I64 0)⟩
end
noncomputable section
theorem iterP {σ α β:Type}{f:(σ→Option α)→σ→Option α}{g:(σ→Option β)→σ→Option β}(I:σ→Prop)(μ:σ→Nat)(R:Option α→Option β→Prop)
  (h:∀x r1 r2,I x→(∀y,I y→μ y<μ x→R (r1 y) (r2 y))→R (f r1 x) (g r2 x)):∀(n:Nat) (x:σ),I x→μ x<n→R (iter n f x) (iter n g x)
 |0,x,_,hm=>absurd hm (Nat.not_lt_zero _)
 |n+1,x,hI,hm=>h x (iter n f) (iter n g) hI fun y hy hlt=>iterP I μ R h n y hy (by omega)
theorem Bh {m:List Page}(hm:MemR m){a p:Int}(h:dS m a p 1 0=0):¬fnd m a<0:=by
 have:=lx hm 1 0 h 0 (Nat.le_refl 0) (by omega)
 rwa [show a+((0:Nat):Int)=a by omega]at this
theorem fnd_lo {m:List Page}(hm:MemR m){a:Int}(h:¬fnd m a<0):0≤a∧a≤65535:=by
 rcases me hm a with h0|⟨i,hi,h0,b1,b2,r0,r1,_⟩
 ·rw[h0]at h;exact absurd (by decide) h
 ·exact⟨r0,r1⟩
theorem zA {m:List Page}(hT:MemT m){a:Int}(ha:I64 a):
  ∃(t:List UInt8) (k:Int),t.length≤15∧eT (((m,()),(a,())),())=some ((t,(k,())),())∧fy (((m,()),(a,())),())=some ((t,(k,())),()):=by
 have hm:=hT.r
 have hl:=hT.len
 unfold eT fy
 dsimp only
 have f1:=jr m hm a 4 1 (by decide) (by decide) ha
 have f2:=jn m hm a 4 1 (by decide) ha (by decide) (by decide)
 have f1:bE (((m,()),(a,(1,(4,())))),())=_:=f1
 have f2:be (((m,()),(a,(1,(4,())))),())=_:=f2
 rw[lk m (by omega) (by unfold F;omega),hT.ok,aa]
 dsimp only
 rw[cf,aj,f1,f2,aa,aa]
 dsimp only
 by_cases hf:dS m a 4 1 0=0
 rotate_left
 ·rw[ar hf,dw,aI,aI]
  exact⟨[],_,by simp,rfl,rfl⟩
 rw[hf,bc rfl,cf,aj,aj]
 have hr:=fnd_lo hm (Bh hm hf)
 refine iterP (fun x=>∃n:Nat,1≤n∧n≤15∧(∀k,k<n→¬fnd m (a+(k:Nat))<0)∧x=((a,((n:Int),())),((m,()),()))) (fun x=>15-x.1.2.1.toNat)
  (fun o1 o2=>∃(t:List UInt8) (k:Int),t.length≤15∧o1=some ((t,(k,())),())∧o2=some ((t,(k,())),())) ?_ F _ ⟨1,by decide,by decide,fun k hk=>by rw[show k=0 by omega,show a+((0:Nat):Int)=a by omega];exact Bh hm hf,rfl⟩ (by unfold F;simp)
 rintro _ r1 r2 ⟨n,n1,n2,hok,rfl⟩ hrec
 dsimp only
 have hI:I64 (a+n):=by unfold I64;omega
 have fin:∃(t:List UInt8) (k:Int),t.length≤15∧(bnd (dC (((m,()),(a,((n:Int),()))),())) (fun x7=>some ((x7.1,(0,())),())))=some ((t,(k,())),())∧(bnd (bN (((m,()),(a,((n:Int),()))),())) (fun x7=>some ((x7.1,((0:Int),())),())))=some ((t,(k,())),()):=by
  rw[Gc m hm a n (by omega) ha hok,yf m hm a n (by omega) ha hok]
  exact⟨_,0,by rw[q5];simp;omega,rfl,rfl⟩
 by_cases hn:n<15
 ·have g1:=jr m hm (a+n) 4 1 (by decide) (by decide) hI
  have g2:=jn m hm (a+n) 4 1 (by decide) hI (by decide) (by decide)
  have g1:bE (((m,()),(a+n,(1,(4,())))),())=_:=g1
  have g2:be (((m,()),(a+n,(1,(4,())))),())=_:=g2
  rw[ij (show(n:Int)<15 by omega),aI,aI,bg (by omega) (by omega),g1,g2,aa,aa]
  dsimp only
  simp only[aa]
  by_cases hg:dS m (a+n) 4 1 0=0
  ·rw[bc hg,aI,aI,bg (by omega) (by omega)]
   refine hrec _ ⟨n+1,by omega,by omega,fun k hk=>?_,rfl⟩ (by dsimp only;omega)
   by_cases hkn:k=n
   ·rw[hkn];exact Bh hm hg
   ·exact hok k (by omega)
  ·rw[ar hg,aj,aj]
   exact fin
 ·rw[gH (show ¬(n:Int)<15 by omega),aj,aj]
  simp only[aa,aj]
  exact fin
theorem exM_rip {g:List Int}{rip fl:Int}{m:List Page}{x:Ins}{n z:Nat}(hm:MemT m)(hg:jf g)(hx:ExV x n):I64 (exM g rip fl m x n z).2.1:=by
 have hs:(MS.mk g m 0 []).ok 0:=⟨hm,Nat.le_refl 0,hg⟩
 have hnx:I64 (aE .i64 rip x.len):=au _
 unfold exM
 dsimp only
 split
 ·exact hnx
 split
 ·exact hnx
 split
 rotate_left
 ·exact hnx
 have h8:(n=31∨n=32∨n=29)→OpV x.src 8:=fun h=>by
  have hsv:=hx.sv
  rwa [show sSz x n=x.size from by unfold sSz;rw[if_neg (by omega),hx.fr.2 (by omega),if_neg (by decide)],hx.szs.2.2.1 (by omega)]at hsv
 unfold MS.flow
 by_cases h29:n=29
 ·rw[if_pos h29];exact hnx
 rw[if_neg h29]
 by_cases h30:n=30
 ·rw[if_pos h30];exact hnx
 rw[if_neg h30]
 by_cases h31:n=31
 ·rw[if_pos h31];exact(hs.go _ (h8 (by omega))).2
 rw[if_neg h31]
 by_cases h34:n=34
 ·rw[if_pos h34];exact hs.po.2.1
 rw[if_neg h34]
 by_cases h32:n=32
 ·rw[if_pos h32];exact(hs.go _ (h8 (by omega))).2
 rw[if_neg h32]
 by_cases h33:n=33
 ·rw[if_pos h33]
  have hk3:=hx.kd.2.2.2.2.2.2.2.1 h33
  split
  ·unfold MS.go;rw[if_pos hk3];exact au _
  ·exact hnx
 rw[if_neg h33]
 repeat' split
 all_goals exact hnx
theorem yQ {o:Opd}{z:Int}(h:qE o z):I64 o.disp:=by
 unfold qE opB Aw at h
 unfold I64
 omega
structure StOK (g:List Int)(p f:Int)(m:List Page):Prop where
 mT:MemT m
 gT:jf g
 fT:I64 f
 bT:bV f=true
 pT:I64 p
theorem CZ {g:List Int}{rip fl:Int}{m:List Page}(hS:StOK g rip fl m):
  ∃(g':List Int) (p' f':Int) (m':List Page) (l':List Acc) (k':Int),StOK g' p' f' m'∧l'.length≤1000∧
   fQ (((g,(rip,(fl,()))),((m,()),())),())=some (((g',(p',(f',()))),((m',()),(l',(k',())))),())∧
   iK (((g,(rip,(fl,()))),((m,()),())),())=some (((g',(p',(f',()))),((),(k',()))),(m',(l',()))):=by
 obtain⟨t,k,ht,e1,e2⟩:=zA hS.mT hS.pT
 have hlen:=hS.mT.len
 have hcopy:=pL m (by omega)
 unfold fQ iK
 dsimp only
 rw[e1,e2,aa,aa]
 dsimp only
 by_cases hk:k=0
 rotate_left
 ·rw[ar hk,dw,aI,aI,aa,ag]
  dsimp only
  rw[show eqI 15 0=false from rfl,aj,aa,ag]
  dsimp only
  rw[show aY (eqI 15 0)=true from rfl,aI,hcopy,aa]
  exact⟨g,rip,fl,m,_,15,hS,by simp,rfl,rfl⟩
 subst hk
 rw[show eqI 0 0=true from rfl,cf,aj,aj,aa,ag]
 dsimp only
 have E1:=uQ (t:=t) (at0:=0) (by omega) (by omega) (by omega)
 have E2:=AX (t:=t) (at0:=0) (by omega) (by omega) (by omega)
 have hdis:=DT (t:=t) (at0:=0) (by omega) (by omega)
 have him:=dec_imm (t:=t) 0
 rw[show eqI 0 0=true from rfl,aI,E1,E2,aa,aa,aa,ag]
 dsimp only[p5,p18]
 rw[BE]
 generalize mN t 0=D at hdis him⊢
 obtain⟨x,c⟩:=D
 dsimp only at hdis him⊢
 rcases hdis with ⟨⟨n,n1,n2,hn,hP⟩,hc,_,_⟩|⟨_,hc⟩
 rotate_left
 ·rw[ar hc,dw,aI,aI,hcopy,aa]
  exact⟨g,rip,fl,m,_,c,hS,by simp,rfl,rfl⟩
 subst hc
 rw[show eqI 0 0=true from rfl,cf,aj,aj]
 have hPd:=hP
 obtain⟨_,_,_,_,_,_,_,hd,hsr,_⟩:=hPd
 have hV:=ExV_of hn n1 n2 hP ⟨yQ hd,him.1,yQ hsr,him.2⟩
 obtain⟨z,hz⟩:∃z:Nat,x.size=z:=⟨x.size.toNat,by
  have hs:=hP.2.2.1
  unfold shB at hs
  simp only[Bool.and_eq_true,decide_eq_true_eq]at hs
  have:=szN_all n n2 n1 _ hs.1
  omega⟩
 obtain⟨x1,ok,fb,fI⟩:=exec_m (rip:=rip) hS.mT hS.gT hS.fT hS.bT hV hz
 have x2:=exec_r (rip:=rip) hS.mT hS.gT hS.fT hS.bT hV hz
 have hp:=exM_rip (rip:=rip) (fl:=fl) (z:=z) hS.mT hS.gT hV
 rw[x1,x2,aa,aa]
 generalize exM g rip fl m x n z=e at ok fb fI hp
 have ok2:=ok.l
 unfold exR exS
 have hfit:∀a:Acc,ii [a] e.1.l=true:=fun a=>kT (by simp;omega)
 by_cases hc:e.1.code=0
 ·rw[if_neg (by simpa using hc),if_neg (by simpa using hc)]
  dsimp only
  simp only[hfit,aI]
  exact⟨e.1.g,e.2.1,e.2.2,e.1.m,_,0,⟨ok.m,ok.g,fI,fb,hp⟩,by simp[jv];omega,rfl,rfl⟩
 ·rw[if_pos hc,if_pos hc]
  dsimp only
  simp only[hfit,aI]
  exact⟨g,rip,fl,m,_,e.1.code,hS,by simp[jv];omega,rfl,rfl⟩
end
theorem xb (n:Int)(h0:1≤n)(h1:n≤274877906944):∃t,cw ((n,()),())=some (t,()):=by
 unfold cw
 dsimp only
 rw[an (jR (by omega))]
 refine mf (fun x=>0≤x.1.1∧(x.1.2.1.length:Int)+x.1.1≤n) (fun x=>x.1.1.toNat) (fun _ r=>∃t,r=some (t,())) ?_ F _ ⟨by show(0:Int)≤n;omega,by show((0:Nat):Int)+n≤n;omega⟩ (by show n.toNat<F;unfold F;omega)
 rintro⟨⟨x,s,_⟩,_⟩ rec ⟨h2,h3⟩ hrec
 dsimp only at h2 h3 hrec⊢
 by_cases hx:0<x
 ·have hq:jS .i64 x 10=x/10:=by
   unfold jS
   rw[Int.tdiv_eq_ediv_of_nonneg h2]
   exact dB (by unfold I64;omega)
  rw[af (ij hx),af (by unfold ii lim kr;simp;omega),hq]
  exact hrec _ ⟨by dsimp only;omega,by dsimp only;unfold jv kr;simp;omega⟩ (by dsimp only;omega)
 ·rw[an (gH hx),af (by unfold ii lim;simp;omega)]
  exact⟨_,rfl⟩
noncomputable def mt (n:Int):List UInt8:=match cw ((n,()),())with
 |some x=>x.1
 |none=>[]
theorem qq (n:Int)(h0:1≤n)(h1:n≤274877906944):cw ((n,()),())=some (mt n,()):=by
 obtain⟨t,h⟩:=xb n h0 h1
 unfold mt;rw[h]
theorem uA {α:Type}{l:List α}{i:Nat}(h:i<l.length)(v d:α):aP (cF l (i:Int) v) (i:Int) d=v:=by
 unfold aP cF
 rw[Int.toNat_natCast,List.getD_eq_getElem?_getD,List.getElem?_set_self h];rfl
theorem vP {α:Type}(l:List α)(i:Int)(v w:α):cF (cF l i v) i w=cF l i w:=by
 unfold cF;rw[List.set_set]
theorem y5 {α:Type}(l:List α)(i:Int)(v:α):(cF l i v).length=l.length:=by unfold cF;rw[List.length_set]
theorem yG {α:Type}(f:Nat→α){l:List α}{j:Nat}(h:j<l.length):cF ((List.range j).map f++l.drop j) (j:Int) (f j)=(List.range (j+1)).map f++l.drop (j+1):=by
 unfold cF
 rw[Int.toNat_natCast,List.set_append,if_neg (by simp),List.length_map,List.length_range,Nat.sub_self,List.drop_eq_getElem_cons h,List.set_cons_zero,List.range_succ,List.map_append,List.append_assoc]
 rfl
noncomputable def mkP (m:Int)(i:Nat):Page:=Page.mk (m+3*(i:Int)) (m+3*(i:Int)+1) (mt (m+3*(i:Int)+2))
noncomputable def EF (m:Int)(n:Nat):List Page:=(List.range n).map (mkP m)
theorem EH (m:Int)(n:Nat):(EF m n).length=n:=by simp[EF]
theorem va (m:Int)(l:List Page)(h0:1≤m)(h1:m≤68719476736)(hl:l.length≤1073741824):
  dX ((m,()),(l,()))=some (m+3*l.length,(EF m l.length,())):=by
 unfold dX
 dsimp only
 refine(Ret.iter (fun y=>∃j:Nat,j≤l.length∧y=((m+3*(j:Int),((j:Int),())),((List.range j).map (mkP m)++l.drop j,()))) (fun y=>l.length-y.1.2.1.toNat) ?_ F _ ⟨0,by omega,by simp⟩ (by unfold F;simp;omega)).eq
 rintro _ rec ⟨j,hj,rfl⟩ hrec
 dsimp only
 have hlen:((List.range j).map (mkP m)++l.drop j).length=l.length:=by rw[List.length_append,List.length_map,List.length_range,List.length_drop];omega
 obtain⟨a,ha⟩:∃a,a=(List.range j).map (mkP m)++l.drop j:=⟨_,rfl⟩
 rw[←ha]at hlen⊢
 simp only[bx,y5,hlen]
 by_cases h:j<l.length
 ·have hja:j<a.length:=by omega
  have e1:aE .i64 (m+3*(j:Int)) 1=m+3*j+1:=bg (by omega) (by omega)
  have e2:aE .i64 (m+3*(j:Int)+1) 1=m+3*j+2:=by rw[bg (by omega) (by omega)];omega
  have e3:aE .i64 (m+3*(j:Int)+2) 1=m+3*((j+1:Nat):Int):=by rw[bg (by omega) (by omega)];omega
  have hr:inR (j:Int) (l.length:Int)=true:=cI (by omega) (by omega)
  rw[af (ij (by omega)),hr,aI,aI,e1,e2,qq (m+3*(j:Int)+2) (by omega) (by omega),aa,aI,e3,bg (by omega) (by omega)]
  simp only[vP,uA hja]
  refine hrec _ ⟨j+1,by omega,?_⟩ (by dsimp only;omega)
  have:=yG (mkP m) h
  rw[←ha]at this
  rw[←this]
  rfl
 ·have:j=l.length:=by omega
  subst this
  rw[an (gH (by omega)),ha]
  exact Ret.some (by rw[List.drop_length,List.append_nil];rfl)
theorem EG (m:Int){n j:Nat}(h:j<n):aP (EF m n) (j:Int) (aB .page)=mkP m j:=by
 unfold aP EF
 rw[Int.toNat_natCast,List.getD_eq_getElem?_getD,List.getElem?_map,List.getElem?_range h];rfl
theorem uE (m:Int)(n:Nat)(h0:1≤m)(h1:m≤68719476736)(hl:n≤1073741824):dW ((EF m n,(m,())),())=some (m+3*n,()):=by
 unfold dW
 dsimp only
 refine(Ret.iter (fun y=>∃j:Nat,j≤n∧y=((EF m n,(m+3*(j:Int),((j:Int),()))),())) (fun y=>n-y.1.2.2.1.toNat) ?_ F _ ⟨0,by omega,by simp⟩ (by unfold F;simp;omega)).eq
 rintro _ rec ⟨j,hj,rfl⟩ hrec
 dsimp only
 simp only[bx,EH]
 by_cases h:j<n
 ·have e1:aE .i64 (m+3*(j:Int)) 1=m+3*j+1:=bg (by omega) (by omega)
  have e2:aE .i64 (m+3*(j:Int)+1) 1=m+3*j+2:=by rw[bg (by omega) (by omega)];omega
  have e3:aE .i64 (m+3*(j:Int)+2) 1=m+3*((j+1:Nat):Int):=by rw[bg (by omega) (by omega)];omega
  have hr:inR (j:Int) (n:Int)=true:=cI (by omega) (by omega)
  rw[af (ij (by omega)),hr,aI,aI,aI,EG m h]
  dsimp only[mkP]
  rw[bc rfl,cf,aj,e1,bc rfl,cf,aj,e2,qq (m+3*(j:Int)+2) (by omega) (by omega),aa,show∀t:List UInt8,eqS t t=true from fun t=>decide_eq_true rfl,cf,aj,e3,bg (by omega) (by omega)]
  exact hrec _ ⟨j+1,by omega,rfl⟩ (by dsimp only;omega)
 ·have:j=n:=by omega
  subst this
  rw[an (gH (by omega))]
  exact Ret.some rfl
theorem nA (m:Int)(l:List Page)(h0:1≤m)(h1:m≤68719476736)(hl:l.length≤1073741824):
  da (((),(m,())),(l,()))=some (m+3*l.length,(EF m l.length,())):=by
 unfold da
 dsimp only
 rw[va m l h0 h1 hl,aa]
theorem sY (m:Int)(n:Nat)(h0:1≤m)(h1:m≤68719476736)(hl:n≤1073741824):c9 (((EF m n,()),(m,())),())=some (m+3*n,()):=by
 unfold c9
 dsimp only
 rw[uE m n h0 h1 hl,aa]
 dsimp only
 rw[an (gH (by omega))]
theorem Df (x:Page)(left:Int)(h0:0≤left)(h1:left≤1048576)(hd:x.data.length≤maxLen):gk ((x,(left,())),())=some (if left-x.data.length<0 then -1 else left-x.data.length,()):=by
 unfold gk
 simp only[bx]
 rw[ig (by unfold I64 maxLen at *;omega)]
 by_cases h:left-(x.data.length:Int)<0
 ·rw[af (ij h),if_pos h]
 ·rw[an (gH h),if_neg h]
theorem Ai (xs:List Page)(hx:xs.length≤maxLen)(hd:∀x∈xs,x.data.length≤maxLen):∃r:Int,fE ((xs,(1048576,())),())=some (r,())∧(0≤r→xs.length≤1048576):=by
 unfold fE
 simp only[bx]
 rw[ig (by unfold I64 maxLen at *;omega)]
 by_cases h:1048576-(xs.length:Int)<0
 ·rw[af (ij h)]
  exact⟨-1,rfl,fun h=>absurd h (by decide)⟩
 ·rw[an (gH h)]
  refine mf (fun x=>x.1.1=xs∧0≤x.1.2.1∧x.1.2.1≤1048576∧0≤x.1.2.2.1∧x.1.2.2.1≤(xs.length:Int)) (fun x=>xs.length-x.1.2.2.1.toNat) (fun _ o=>∃r:Int,o=some (r,())∧(0≤r→xs.length≤1048576)) ?_ F _ ?_ ?_
  ·rintro⟨⟨ys,left,i,_⟩,_⟩ rec ⟨h2,h3,h4,h0,h1⟩ hrec
   dsimp only at h0 h1 h2 h3 h4 hrec⊢
   subst h2
   by_cases hi:i<ys.length
   ·obtain⟨n,rfl⟩:=Int.eq_ofNat_of_zero_le h0
    have hn:n<ys.length:=by omega
    rw[af (ij hi),af (cI h0 hi),iS hn,Df _ _ h3 h4 (hd _ (List.getElem_mem hn)),aa]
    dsimp only
    by_cases hl:left-(ys[n].data.length:Int)<0
    ·rw[if_pos hl]
     exact⟨-1,rfl,fun h=>absurd h (by decide)⟩
    ·rw[if_neg hl,an (gH hl),fa (by unfold I64;omega)]
     exact hrec _ ⟨rfl,by dsimp only;omega,by dsimp only;omega,by dsimp only;omega,by dsimp only;omega⟩ (by dsimp only;omega)
   ·rw[an (gH hi)]
    exact⟨left,rfl,fun _=>by omega⟩
  ·exact⟨rfl,by dsimp only;omega,by dsimp only;omega,by simp,by simp⟩
  ·simp[F];omega
theorem xN (xs:List Page)(hx:xs.length≤maxLen)(hd:∀x∈xs,x.data.length≤maxLen):∃r:Int,eP (((xs,()),(1048576,())),())=some (r,())∧(0≤r→xs.length≤1048576):=by
 obtain⟨r,h1,h2⟩:=Ai xs hx hd
 unfold eP
 dsimp only
 rw[h1,aa]
 by_cases h:r<0
 ·rw[af (ij h)];exact⟨-1,rfl,fun h=>absurd h (by decide)⟩
 ·rw[an (gH h)];exact⟨r,rfl,h2⟩
theorem Ao (xs:List Page)(hx:xs.length≤1048576):fF ((xs,()),())=some ((),(xs,())):=by
 unfold fF ip
 simp only[bx]
 rw[af (oh (by omega) (Int.le_refl _)),af (wO (by omega))]
 refine fv (fun x=>x.1.1=xs∧0≤x.1.2.1∧x.1.2.1≤(xs.length:Int)∧x.2.1=xs.take x.1.2.1.toNat++List.replicate (xs.length-x.1.2.1.toNat) (aB .page)) (fun x=>xs.length-x.1.2.1.toNat) (fun _=>some ((),(xs,()))) ?_ F _ ?_ ?_
 ·rintro⟨⟨ys,i,_⟩,out,_⟩ rec ⟨h2,h0,h1,h3⟩ hrec
  dsimp only at h0 h1 h2 h3 hrec⊢
  subst h2
  by_cases hi:i<ys.length
  ·obtain⟨n,rfl⟩:=Int.eq_ofNat_of_zero_le h0
   have hn:n<ys.length:=by omega
   rw[Int.toNat_natCast]at h3
   have hol:out.length=ys.length:=by rw[h3];simp;omega
   rw[af (ij hi),af (cI h0 hi),aa,af (cI h0 (by rw[hol];exact hi)),fa (by unfold I64;omega)]
   refine hrec _ ⟨rfl,by dsimp only;omega,by dsimp only;omega,?_⟩ (by dsimp only;omega)
   dsimp only
   rw[iS hn,show((n:Int)+1).toNat=n+1 by omega,h3]
   unfold cF
   rw[Int.toNat_natCast,List.set_append_right _ _ (by simp;omega),List.length_take,Nat.min_eq_left (by omega),Nat.sub_self,show ys.length-n=(ys.length-(n+1))+1 by omega,List.replicate_succ,←List.take_append_getElem hn,List.append_assoc]
   rfl
  ·have:i=ys.length:=by omega
   subst this
   rw[an (gH hi),h3,Int.toNat_natCast];simp
 ·exact⟨rfl,by simp,by simp,by simp[tZ]⟩
 ·simp[F];omega
theorem xP (xs:List Page)(hx:xs.length≤1048576):cP (((xs,()),()),())=some ((),(xs,())):=by
 unfold cP
 dsimp only
 rw[Ao xs hx,aa]
theorem wC (x:Page):gj ((x,(x,())),())=some (true,()):=by
 unfold gj
 dsimp only
 rw[bc rfl,bc rfl,show eqS x.data x.data=true from decide_eq_true rfl]
 rfl
theorem uv (xs:List Page)(hx:xs.length≤1048576):fD ((xs,(xs,())),())=some (true,()):=by
 unfold fD
 simp only[bx]
 rw[bc rfl,cf,aj]
 refine fv (fun x=>x.1.1=xs∧x.1.2.1=xs∧0≤x.1.2.2.1∧x.1.2.2.1≤(xs.length:Int)) (fun x=>xs.length-x.1.2.2.1.toNat) (fun _=>some (true,())) ?_ F _ ?_ ?_
 ·rintro⟨⟨ys,zs,i,_⟩,_⟩ rec ⟨h2,h3,h0,h1⟩ hrec
  dsimp only at h0 h1 h2 h3 hrec⊢
  subst h2
  subst h3
  by_cases hi:i<zs.length
  ·rw[af (ij hi),af (cI h0 hi),af (cI h0 hi),wC,aa,cf,aj,fa (by unfold I64;omega)]
   exact hrec _ ⟨rfl,rfl,by dsimp only;omega,by dsimp only;omega⟩ (by dsimp only;omega)
  ·rw[an (gH hi)]
 ·exact⟨rfl,rfl,by simp,by simp⟩
 ·simp[F];omega
theorem nq (xs:List Page)(hx:xs.length≤1048576):cN (((xs,()),((xs,()),())),())=some (true,()):=by
 unfold cN
 dsimp only
 rw[uv xs hx,aa,cf,aj]
theorem vZ (a0 a1 a2 a3 a4 a5 a6 a7 a8 a9 a10 a11 a12 a13 a14 a15:Int):eQ ((([a0,a1,a2,a3,a4,a5,a6,a7,a8,a9,a10,a11,a12,a13,a14,a15],()),()),())=some (([a0,a1,a2,a3,a4,a5,a6,a7,a8,a9,a10,a11,a12,a13,a14,a15],()),()):=by kernel_rfl
theorem xO {c:List Int}(h:c.length=16):eQ (((c,()),()),())=some ((c,()),()):=by
 match c,h with
 |[a0,a1,a2,a3,a4,a5,a6,a7,a8,a9,a10,a11,a12,a13,a14,a15],_=>exact vZ a0 a1 a2 a3 a4 a5 a6 a7 a8 a9 a10 a11 a12 a13 a14 a15
theorem FR {c:List Int}(p f:Int)(h:c.length=16):fm (((c,(p,(f,()))),()),())=some ((c,(p,(f,()))),()):=by
 unfold fm
 dsimp only
 rw[xO h,aa]
theorem sN (c:List Int):eO (((c,()),((c,()),())),())=some (true,()):=by
 unfold eO
 dsimp only
 refine(Ret.iter (fun y=>∃i:Nat,i≤16∧y=(((i:Int),()),((c,()),((c,()),())))) (fun y=>16-y.1.1.toNat) ?_ F _ ⟨0,by omega,rfl⟩ (by unfold F;simp)).eq
 rintro _ rec ⟨i,hi,rfl⟩ hrec
 dsimp only
 by_cases h:i<16
 ·rw[af (ij (by omega)),af (by simp[inR];omega),af (by simp[inR];omega),bc rfl,cf,an rfl,bg (by omega) (by omega)]
  exact hrec _ ⟨i+1,by omega,rfl⟩ (by simp;omega)
 ·rw[an (gH (by omega))]
  exact Ret.some rfl
theorem zy (c:List Int)(p f:Int):fk (((c,(p,(f,()))),((c,(p,(f,()))),())),())=some (true,()):=by
 unfold fk
 dsimp only
 rw[sN,aa]
 dsimp only
 rw[cf,aj,bc rfl,bc rfl,cf,aj,aj]
theorem elWf_i {x:Int}(h:wB .i x):I64 x:=by
 obtain⟨⟨n,e,w⟩,_⟩:=h
 have e:x=n:=by injection e
 rw[e];exact wf64 w
theorem regs_wf {c:List Int}(w:∀x∈c,wB .i x):∀i,I64 (aP c i (aB .i)):=fun i=>by
 unfold aP
 rw[List.getD_eq_getElem?_getD]
 cases hci:c[i.toNat]? with
 |none=>exact(by unfold I64;decide:I64 (0:Int))
 |some v=>exact elWf_i (w v (List.mem_of_getElem? hci))
def mkA (m:Int)(i:Nat):Acc:=Acc.mk (m+4*(i:Int)) (m+4*(i:Int)+1) (m+4*(i:Int)+2) (m+4*(i:Int)+3)
def mkAs (m:Int)(n:Nat):List Acc:=(List.range n).map (mkA m)
theorem ED (m:Int)(n:Nat):(mkAs m n).length=n:=by simp[mkAs]
theorem ry (m:Int)(l:List Acc)(h0:1≤m)(h1:m≤68719476736)(hl:l.length≤1073741824):
  dp ((m,()),(l,()))=some (m+4*l.length,(mkAs m l.length,())):=by
 unfold dp
 dsimp only
 refine(Ret.iter (fun y=>∃j:Nat,j≤l.length∧y=((m+4*(j:Int),((j:Int),())),((List.range j).map (mkA m)++l.drop j,()))) (fun y=>l.length-y.1.2.1.toNat) ?_ F _ ⟨0,by omega,by simp⟩ (by unfold F;simp;omega)).eq
 rintro _ rec ⟨j,hj,rfl⟩ hrec
 dsimp only
 have hlen:((List.range j).map (mkA m)++l.drop j).length=l.length:=by rw[List.length_append,List.length_map,List.length_range,List.length_drop];omega
 obtain⟨a,ha⟩:∃a,a=(List.range j).map (mkA m)++l.drop j:=⟨_,rfl⟩
 rw[←ha]at hlen⊢
 simp only[bx,y5,hlen]
 by_cases h:j<l.length
 ·have hja:j<a.length:=by omega
  have e1:aE .i64 (m+4*(j:Int)) 1=m+4*j+1:=bg (by omega) (by omega)
  have e2:aE .i64 (m+4*(j:Int)+1) 1=m+4*j+2:=by rw[bg (by omega) (by omega)];omega
  have e3:aE .i64 (m+4*(j:Int)+2) 1=m+4*j+3:=by rw[bg (by omega) (by omega)];omega
  have e4:aE .i64 (m+4*(j:Int)+3) 1=m+4*((j+1:Nat):Int):=by rw[bg (by omega) (by omega)];omega
  have hr:inR (j:Int) (l.length:Int)=true:=cI (by omega) (by omega)
  rw[af (ij (by omega)),hr,aI,aI,aI,aI,e1,e2,e3,e4,bg (by omega) (by omega)]
  simp only[vP,uA hja]
  refine hrec _ ⟨j+1,by omega,?_⟩ (by dsimp only;omega)
  have:=yG (mkA m) h
  rw[←ha]at this
  rw[←this]
  rfl
 ·have:j=l.length:=by omega
  subst this
  rw[an (gH (by omega)),ha]
  exact Ret.some (by rw[List.drop_length,List.append_nil];rfl)
theorem EC (m:Int){n j:Nat}(h:j<n):aP (mkAs m n) (j:Int) (aB .acc)=mkA m j:=by
 unfold aP mkAs
 rw[Int.toNat_natCast,List.getD_eq_getElem?_getD,List.getElem?_map,List.getElem?_range h];rfl
theorem ro (m:Int)(n:Nat)(h0:1≤m)(h1:m≤68719476736)(hl:n≤1073741824):cO ((mkAs m n,(m,())),())=some (m+4*n,()):=by
 unfold cO
 dsimp only
 refine(Ret.iter (fun y=>∃j:Nat,j≤n∧y=((mkAs m n,(m+4*(j:Int),((j:Int),()))),())) (fun y=>n-y.1.2.2.1.toNat) ?_ F _ ⟨0,by omega,by simp⟩ (by unfold F;simp;omega)).eq
 rintro _ rec ⟨j,hj,rfl⟩ hrec
 dsimp only
 simp only[bx,ED]
 by_cases h:j<n
 ·have e1:aE .i64 (m+4*(j:Int)) 1=m+4*j+1:=bg (by omega) (by omega)
  have e2:aE .i64 (m+4*(j:Int)+1) 1=m+4*j+2:=by rw[bg (by omega) (by omega)];omega
  have e3:aE .i64 (m+4*(j:Int)+2) 1=m+4*j+3:=by rw[bg (by omega) (by omega)];omega
  have e4:aE .i64 (m+4*(j:Int)+3) 1=m+4*((j+1:Nat):Int):=by rw[bg (by omega) (by omega)];omega
  have hr:inR (j:Int) (n:Int)=true:=cI (by omega) (by omega)
  rw[af (ij (by omega)),hr,aI,aI,aI,aI,EC m h]
  dsimp only[mkA]
  rw[bc rfl,cf,aj,e1,bc rfl,cf,aj,e2,bc rfl,cf,aj,e3,bc rfl,cf,aj,e4,bg (by omega) (by omega)]
  exact hrec _ ⟨j+1,by omega,rfl⟩ (by dsimp only;omega)
 ·have:j=n:=by omega
  subst this
  rw[an (gH (by omega))]
  exact Ret.some rfl
theorem sM (x:Acc):eM ((x,(x,())),())=some (true,()):=by
 unfold eM
 dsimp only
 rw[bc rfl,bc rfl,bc rfl,bc rfl]
 rfl
theorem rk (xs:List Acc)(hx:xs.length≤1048576):cX ((xs,(xs,())),())=some (true,()):=by
 unfold cX
 simp only[bx]
 rw[bc rfl,cf,aj]
 refine(Ret.iter (fun y=>∃j:Nat,j≤xs.length∧y=((xs,(xs,((j:Int),()))),())) (fun y=>xs.length-y.1.2.2.1.toNat) ?_ F _ ⟨0,by omega,rfl⟩ (by unfold F;simp;omega)).eq
 rintro _ rec ⟨j,hj,rfl⟩ hrec
 dsimp only
 by_cases h:j<xs.length
 ·have hr:inR (j:Int) (xs.length:Int)=true:=cI (by omega) (by omega)
  rw[af (ij (by omega)),hr,aI,aI,sM,aa,cf,aj,bg (by omega) (by omega)]
  exact hrec _ ⟨j+1,by omega,rfl⟩ (by dsimp only;omega)
 ·rw[an (gH (by omega))]
  exact Ret.some rfl
noncomputable section
theorem t6 {g:List Int}{rip fl:Int}{m:List Page}(hg:jf g)(hI:I64 fl)(hp:I64 rip)(hm:m.length≤1048576):
  ∃(g':List Int) (p' f':Int) (m':List Page) (l':List Acc) (k':Int),m'.length≤1048576∧l'.length≤1000∧
   fG (((g,(rip,(fl,()))),((m,()),())),())=some (((g',(p',(f',()))),((m',()),(l',(k',())))),())∧
   eu (((g,(rip,(fl,()))),((m,()),())),())=some (((g',(p',(f',()))),((),(k',()))),(m',(l',()))):=by
 have hmM:(m.length:Int)<4611686018427387904:=by omega
 have hmF:m.length<F:=by unfold F;omega
 unfold fG eu
 dsimp only
 rw[CI hI,DC,aa,aa]
 dsimp only
 by_cases h1:bV fl=true
 rotate_left
 ·simp only[Bool.eq_false_iff.2 h1,dw,aa,aI]
  exact⟨[],0,0,[],[],1,by simp,by simp,rfl,rfl⟩
 rw[h1,cf,aj,aj,pf m hmM,lk m hmM hmF,aa,aa]
 dsimp only
 by_cases h2:qr m=true
 rotate_left
 ·simp only[Bool.eq_false_iff.2 h2,dw,aa,aI]
  exact⟨[],0,0,[],[],1,by simp,by simp,rfl,rfl⟩
 simp only[h2,cf,aa,aj]
 obtain⟨g',p',f',m',l',k',ok,hl,e1,e2⟩:=CZ ⟨memOK_t h2,hg,hI,h1,hp⟩
 have hm':=ok.mT.len
 rw[e1,e2,aa,aa]
 dsimp only
 rw[Gs m' (by omega),aa]
 exact⟨g',p',f',m',l',k',by omega,hl,rfl,rfl⟩
theorem vE (y:VTL.Ty [.agg [.arr .i 16,.int .i64,.int .i64],.agg [.list .page]])(h:VTL.wf [.agg [.arr .i 16,.int .i64,.int .i64],.agg [.list .page]] y):ce (y,())=some (true,()):=by
 obtain⟨⟨c,p,f,_⟩,⟨ms,_⟩,_⟩:=y
 obtain⟨⟨⟨w0,w1⟩,w2,w3,_⟩,⟨⟨w4,w5⟩,_⟩,_⟩:=h
 have w0:c.length=16:=w0
 have w4:ms.length≤maxLen:=w4
 have hg:jf c:=regs_wf w1
 have hf:I64 f:=wf64 w3
 have hp:I64 p:=wf64 w2
 unfold ce
 dsimp only
 obtain⟨r,e,hr⟩:=xN ms w4 (fun x hx=>(Bb (w5 x hx)).2.2)
 rw[e,aa]
 dsimp only
 by_cases h0:r<0
 ·rw[af (ij h0)]
 rw[an (gH h0)]
 have hm:=hr (by omega)
 obtain⟨g',p',f',m',l',k',hm',hl',e1,e2⟩:=t6 hg hf hp hm
 have hc:=FR p f w0
 have ht:=xP ms hm
 have hmm:=nA 1 ms (by decide) (by decide) (by omega)
 have hmm':=nA 1 m' (by decide) (by decide) (by omega)
 have hhm':=sY 1 m'.length (by decide) (by decide) (by omega)
 have hma:=ry (1+3*(m'.length:Int)) l' (by omega) (by omega) (by omega)
 have hha:=ro (1+3*(m'.length:Int)) l'.length (by omega) (by omega) (by omega)
 have q1:ltI (1+3*(m'.length:Int)) 0=false:=gH (by omega)
 have q2:ltI (1+3*(m'.length:Int)+4*(l'.length:Int)) 0=false:=gH (by omega)
 have q3:ltI (1+3*(ms.length:Int)) 0=false:=gH (by omega)
 have hcc:∀a:Int,eqI a a=true:=fun a=>bc rfl
 rw[hc,aa,ht,aa]
 dsimp only
 rw[e1,aa]
 simp only[aa,e2,zy,nq m' hm',nq ms hm,rk l' (by omega),hcc,cf,aj,hmm,hmm',hma,hhm',hha,q1,q2,q3]
end
end Go.Den.G
