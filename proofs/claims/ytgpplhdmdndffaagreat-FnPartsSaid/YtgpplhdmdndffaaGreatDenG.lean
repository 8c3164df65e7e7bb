/- Theory for the proofs of this claim: see its last text. -/
import Derived.Test.YtgpplhdmdndffaaGreatDenE
import Derived.Test.YtgpplhdmdndffaaGreatDenA
set_option linter.unusedSimpArgs false
namespace Go.Den
open Go.RowKit (Below)
section
variable {C C':Cx}
end
section
variable {B:Bs}{nt:Nat}{s s':St}{C:Cx}{a:Act}{w:World}
end
def lkL {α:Type}:List (Int×α)->Int->Option α
 |[],_=>none
 |e::r,k=>if e.1=k then some e.2 else lkL r k
def Cont (ops:List Oper)(L:Nat->Prop)(m:Tmp)(tg:Tag)(es:List (Int×El tg)):Prop:=
 ∀k v,lkL es k=some v↔∃j o t c,L j/\ops[j]? =some o/\yq o=some (t,m,k,c)/\dec tg [ofValue c]=some v
end Go.Den
namespace Go.Den
open Go.RowKit (Below)
section
variable {T:Tr TI}{ops:List Oper}{prs:List (List Nat)}
inductive StepC (T:Tr TI)(ops:List Oper)(prs:List (List Nat))(i:Nat)(o:Oper)(s s':St):Prop
 |ins {t:TypeId} {m:Tmp} {k:Int} {c:Value} {tg:Tag} {b:Nat} {es:List (Int×El tg)} (ho:yq o=some (t,m,k,c)) (ht:rt T t=some tg) (hm:s.get m= .mapr b) (hb:s.blk b= .map tg es) (hr:KE ops (prOf prs i) m=true) (e:s'=s)
 |mk {t:TypeId} {d:Tmp} {tg:Tag} {es:List (Int×El tg)} (hn:yq o=none) (ho:o.op= .makeMap t none) (hd:o.dst=some d) (ht:rt T t=some tg) (hf:zG tg d ops=some es) (e:s'=s.apply (some d) ⟨.mapr s.n,[],[.map tg es]⟩)
 |mv {x:Operand} (hn:yq o=none) (ho:o.op= .move x\/o.op= .assign x) (e:s'=s.put o.dst (s.ev x))
 |look {t:TypeId} {m key:Operand} {b:Nat} {v:AV} (hn:yq o=none) (ho:o.op= .lookup t m key false) (hm:s.ev m= .mapr b) (hin:insIn s (prOf prs i) b 0 ops=true) (hl:BD T s t (.mapr b) (s.ev key) false=val v) (e:s'=s.put o.dst v)
structure StepR (o:Oper)(s s':St):Prop where
 slot:∀x,o.dst≠some x->s'.get x=s.get x
 n:s.n<=s'.n
 lo:∀b,b<s.n->s'.blk b=s.blk b
 hi:∀b,s'.n<=b->s'.blk b=s.blk b
 np:s'.np=s.np
 al:s'.al=s.al
 made:∀b,s.n<=b->b<s'.n->b=s.n/\∃d,zT o=some d
theorem StepC.rel {i:Nat}{o:Oper}{s s':St}(h:StepC T ops prs i o s s'):StepR o s s':=by
 have putR:∀v,StepR o s (s.put o.dst v):=fun v=>
  ⟨fun x hx=>by rw[lW,ae hx],by rw[yM];exact bV _,fun b _=>by rw[gV],fun b _=>by rw[gV],ry ..,rv ..,fun b h1 h2=>by rw[yM]at h2;omega⟩
 cases h with
 |ins _ _ _ _ _ e=>subst e;exact⟨fun _ _=>rfl,bV _,fun _ _=>rfl,fun _ _=>rfl,rfl,rfl,fun b h1 h2=>by omega⟩
 |mv _ _ e=>subst e;exact putR _
 |look _ _ _ _ _ e=>subst e;exact putR _
 | @mk t d tg es hn ho hd ht hf e=>
  subst e
  have hN:(s.apply (some d) ⟨.mapr s.n,[],[.map tg es]⟩).n=s.n+1:=by rw[mZ];rfl
  refine⟨fun x hx=>by rw[lF,ae (hd▸hx)],by rw[hN];omega,fun b hb=>by rw[mg,ae (by omega)],fun b hb=>by rw[hN]at hb;rw[mg,ae (by omega)],mh ..,mf ..,fun b h1 h2=>?_⟩
  rw[hN]at h2
  exact⟨by omega,d,by simp[zT,ho,hd]⟩
def zd (T:Tr TI)(ops:List Oper)(prs:List (List Nat))(S:Nat->St):Prop:=∀i o,ops[i]? =some o->o.guard=none/\StepC T ops prs i o (S i) (S (i+1))
section
variable {S:Nat->St}(hC:zd T ops prs S)
include hC
theorem zd.at {i:Nat}(h:i<ops.length):∃o,ops[i]? =some o/\StepC T ops prs i o (S i) (S (i+1)):=⟨ops[i],by simp[h],(hC i _ (by simp[h])).2⟩
theorem zd.slot {i j:Nat}(hij:i<=j)(hj:j<=ops.length){x:Tmp}(h:∀p o,i<=p->p<j->ops[p]? =some o->o.dst≠some x):(S j).get x=(S i).get x:=by
 induction hij with
 |refl=>rfl
 | @step m hm ih=>
  obtain⟨o,ho,hs⟩:=hC.at (i:=m) (by omega)
  rw[hs.rel.slot x (h m o hm (by omega) ho)]
  exact ih (by omega) fun p o h1 h2=>h p o h1 (by omega)
theorem zd.n {i j:Nat}(hij:i<=j)(hj:j<=ops.length):(S i).n<=(S j).n:=by
 induction hij with
 |refl=>exact bV _
 | @step m hm ih=>
  obtain⟨o,ho,hs⟩:=hC.at (i:=m) (by omega)
  exact dN (ih (by omega)) hs.rel.n
theorem zd.lo {i j:Nat}(hij:i<=j)(hj:j<=ops.length){b:Nat}(hb:b<(S i).n):(S j).blk b=(S i).blk b:=by
 induction hij with
 |refl=>rfl
 | @step m hm ih=>
  obtain⟨o,ho,hs⟩:=hC.at (i:=m) (by omega)
  rw[hs.rel.lo b (dB hb (hC.n hm (by omega))),ih (by omega)]
theorem zd.hi {i j:Nat}(hij:i<=j)(hj:j<=ops.length){b:Nat}(hb:(S j).n<=b):(S j).blk b=(S i).blk b:=by
 induction hij with
 |refl=>rfl
 | @step m hm ih=>
  obtain⟨o,ho,hs⟩:=hC.at (i:=m) (by omega)
  rw[hs.rel.hi b hb,ih (by omega) (dN hs.rel.n hb)]
theorem zd.np {i j:Nat}(hij:i<=j)(hj:j<=ops.length):(S j).np=(S i).np/\(S j).al=(S i).al:=by
 induction hij with
 |refl=>exact⟨rfl,rfl⟩
 | @step m hm ih=>
  obtain⟨o,ho,hs⟩:=hC.at (i:=m) (by omega)
  exact⟨hs.rel.np.trans (ih (by omega)).1,hs.rel.al.trans (ih (by omega)).2⟩
theorem zd.mk {p:Nat}{o:Oper}{d:Tmp}(ho:ops[p]? =some o)(hd:zT o=some d):∃t tg es,o.op= .makeMap t none/\o.dst=some d/\rt T t=some tg/\zG tg d ops=some es/\
  (S (p+1)).get d= .mapr (S p).n/\(S (p+1)).n=(S p).n+1/\(S (p+1)).blk (S p).n= .map tg es:=by
 have hop:∃t,o.op= .makeMap t none/\o.dst=some d:=by
  unfold zT at hd
  split at hd
  ·rename_i t h;exact⟨t,h,hd⟩
  ·cases hd
 obtain⟨t0,hop,hdst⟩:=hop
 cases (hC p o ho).2 with
 | @ins t m k c tg b es ho'=>
  unfold yq at ho'
  rw[hop]at ho'
  cases ho'
 |mv _ ho'=>rcases ho' with h|h<;>rw[hop]at h<;>cases h
 |look _ ho'=>rw[hop]at ho';cases ho'
 | @mk t d' tg es _ ho' hd' ht hf e=>
  rw[hdst]at hd';cases hd'
  rw[hop]at ho';cases ho'
  refine⟨t0,tg,es,hop,hdst,ht,hf,?_,?_,?_⟩
  ·rw[e,lF,aa rfl]
  ·rw[e,mZ];rfl
  ·rw[e,mg,aa rfl]
end
end
end Go.Den
namespace Go.Den
open Go.RowKit (Below)
section
variable {P:Program}{E:Tr Sem1}{T:Tr TI}{B:Bs}{nt:Nat}
theorem Cont.more {ops:List Oper}{L L':Nat->Prop}{m:Tmp}{tg:Tag}{es:List (Int×El tg)}(h:Cont ops L m tg es)(hs:∀j o t k c,ops[j]? =some o->yq o=some (t,m,k,c)->(L' j↔L j)):Cont ops L' m tg es:=fun k v=>
 (h k v).trans ⟨fun⟨j,o,t,c,h1,h2,h3,h4⟩=>⟨j,o,t,c,(hs j o t k c h2 h3).2 h1,h2,h3,h4⟩,fun⟨j,o,t,c,h1,h2,h3,h4⟩=>⟨j,o,t,c,(hs j o t k c h2 h3).1 h1,h2,h3,h4⟩⟩
theorem uj (hV:Env P T E B):RegD P T E B nt:=by
 intro id ops α s k ans C a w Q h hd hG hK
 unfold yO at h
 dsimp only at h
 split at h
 ·rename_i hs
  have hS:=SlotsOK.of hs
  refine wp_region_any hV.mix ?_
  have hG':Good B nt s {C with w:={w with drawn:=w.drawn+1}} a {w with drawn:=w.drawn+1}:=by
   obtain⟨h1,h2⟩:=hG.grown (w':=w.drew) (Below.drew (Below.refl _ _))
   exact⟨rfl,h1,hG.ain.moved h2 fun _=>rfl,hG.old.ext hG.inv h2,hG.fr⟩
  have hnum:∀(l:List Oper) (n:Nat),(Kg n l).map (·.1)=List.range' n l.length/\∀x∈Kg n l,n<=x.1/\l[x.1-n]? =some x.2:=by
   intro l
   induction l with
   |nil=>intro n;exact⟨rfl,by simp[Kg]⟩
   |cons o r ih=>
    intro n
    obtain⟨h1,h2⟩:=ih (n+1)
    refine⟨by simp only[Kg,jQ,h1,fa,List.range'_succ],fun x hx=>?_⟩
    rcases aN.1 hx with rfl|hx
    ·simp
    ·obtain⟨h3,h4⟩:=h2 x hx
     refine⟨by omega,?_⟩
     rw[show x.1-n=x.1-(n+1)+1 by omega]
     simpa using h4
  have hnum2:∀(l:List Oper) (n i:Nat) (o:Oper),l[i]? =some o->(n+i,o)∈Kg n l:=by
   intro l
   induction l with
   |nil=>intro n i o h;simp at h
   |cons q r ih=>
    intro n i o h
    cases i with
    |zero=>simp only[oB,Option.some.injEq]at h;subst h;exact bq ..
    |succ i=>have:=ih (n+1) i o (by simpa using h);rw[show n+1+i=n+(i+1)by omega]at this;exact bt _ this
  have hno:∀i:Nat,¬(Array.replicate ops.size false).getD i false=true:=fun i h=>by
   by_cases hi:i<ops.size<;>simp[Array.getD,hi]at h
  split at h
  ·rename_i s' hs'
   unfold mt at hs'
   cases hs'
  have hD:DInv ops.toList T s (fun i=>(Array.replicate ops.size false).getD i false=true) C.used [] [] [] (Kg 0 ops.toList) s s:=by
   refine⟨by rw[(hnum _ 0).1];exact List.nodup_range',fun x hx=>⟨by have:=((hnum _ 0).2 x hx).2;simpa using this,by simp⟩,fun i o ho=> .inr (by have:=hnum2 _ 0 i o ho;simpa using this),fun j hj=>by simp at hj,fun j hj=>ah hj (hno j),fun j hj=>ah hj (hno j),fun _ _=>rfl,fun x i o hi=>ah hi (hno i),fun _ _=>rfl,⟨rfl,rfl,fun b ⟨m,hm,_⟩=>by simp at hm,fun _ _=>rfl⟩,fun b ⟨m,hm,_⟩=>by simp at hm,fun b m hm=>by simp at hm,fun b m m' hm=>by simp at hm,fun b b' m hm=>by simp at hm,fun i hi=>by simp at hi⟩
  have hG1:Good B nt (s.atN s.n) {C with w:={w with drawn:=w.drawn+1}} a {w with drawn:=w.drawn+1}:=hG'
  obtain⟨f',dn',qs',ms',l',s',hD2,hnn,hn2,h2⟩:=qU hS _ _ _ _ _ _ h hD fun b hb=>hG1.high b hb
  exact Ek hV hS hd hK ops.size (Array.replicate ops.size false) f' dn' qs' ms' l' s' s {C with w:={w with drawn:=w.drawn+1}} a _ h2 hn2 hD2 (hG1.atN hnn) (by simp) (by
   refine dN List.countP_le_length ?_
   simp)
 ·cases h
end
end Go.Den
namespace Go.Den
open Go.RowKit (Below)
theorem z7 (σ:Nat->Option Nat)(blk:Nat->Blk):∀(t:List (Nat×AV)) (i:Nat),look (renT σ blk t) i=(look t i).map (ren σ blk)
 |[],_=>rfl
 |(k,v)::r,i=>by
  rw[renT,look_cons,look_cons,z7 σ blk r i]
  split<;>rfl
theorem z6 (σ:Nat->Option Nat)(blk:Nat->Blk):∀(t:List (Nat×Blk)) (i:Nat),look (renH σ blk t) i=(look t i).map (nV σ blk)
 |[],_=>rfl
 |(k,v)::r,i=>by
  rw[renH,look_cons,look_cons,z6 σ blk r i]
  split<;>rfl
theorem tW {i:Nat}:∀ {wr:List (Nat×Nat×Nat)},lY i wr=true->∃lo hi,(i,lo,hi)∈wr/\lo=0/\big<=hi
 |[],h=>by cases h
 |(j,lo,hi)::r,h=>by
  simp only[lY,cO,ar]at h
  rcases h with ⟨h1,h2,h3⟩|h
  ·rw[j4.1 h1]
   exact⟨lo,hi,bq ..,j4.1 h2,i9 h3⟩
  ·obtain⟨lo',hi',h1,h2⟩:=tW h
   exact⟨lo',hi',bt _ h1,h2⟩
def mvCx (C:Cx)(i n:Nat)(nb:Nat->Blk):Cx where
 w:=C.w
 loc:=fun j=>if j=n then C.loc i else C.loc j
 blk:=nb
 ok:=C.ok
 used:=fun j=>C.used j\/j=n
section
variable {B:Bs}{nt:Nat}{s:St}{C:Cx}{a:Act}{w:World}
theorem IZ (hG:Good B nt s C a w)(i:Nat):∃C',Good B nt (s.mv1 i) C' a w/\(s.mv1 i).np=s.np/\(s.mv1 i).al=s.al:=by
 unfold St.mv1
 cases hc:Kn (s.blk i)&&(lY i s.al&&Nat.blt i s.np)with
 |false=>exact⟨C,hG,rfl,rfl⟩
 |true=>
 dsimp only
 simp only[ar]at hc
 obtain⟨hrow,hwh,hlt⟩:=hc
 have hI:=hG.inv
 have hi:i<B.np:=by rw[<-hI.npn];rwa [gO]at hlt
 have hin:i<s.n:=hG.fr i (hI.pus i hi)
 have hne:i≠s.n:=by omega
 have hnu:∀j,C.used j->j≠s.n:=fun j h=>by have:=hG.fr j h;omega
 have may:∀o,j7 B i o:=fun o=>by
  obtain⟨lo,hi',h1,h2,h3⟩:=tW hwh
  rw[hI.all]at h1
  exact⟨lo,hi',h1,.inl ⟨h2,h3⟩⟩
 obtain⟨t0,xs0,f0,hr0⟩:∃t xs f,s.blk i= .row t xs f:=by
  cases hb:s.blk i with
  |row t xs f=>exact⟨t,xs,f,rfl⟩
  |_=>rw[hb]at hrow;cases hrow
 generalize hs':({s with t:=renT (mvN i s.n) s.blk s.t,h:=(i,.gone)::(s.n,s.blk i)::renH (mvN i s.n) s.blk s.h,n:=s.n+1}:St)=s'
 have hblk:∀j,s'.blk j=if j=i then .gone else if j=s.n then s.blk i else nV (mvN i s.n) s.blk (s.blk j):=fun j=>by
  subst hs'
  unfold St.blk
  dsimp only
  rw[look_cons,look_cons,z6]
  by_cases e:i=j
  ·rw[aa e,aa e.symm]
  ·have e':¬j=i:=fun h=>e h.symm
   rw[ae e,ae (c:=j=i) e']
   by_cases e2:s.n=j
   ·rw[aa e2,aa (c:=j=s.n) e2.symm]
   ·have e2':¬j=s.n:=fun h=>e2 h.symm
    rw[ae e2,ae (c:=j=s.n) e2']
    cases look s.h j<;>rfl
 have hgi:s'.blk i= .gone:=by rw[hblk,aa rfl]
 have hgn:s'.blk s.n=s.blk i:=by rw[hblk,ae (fun h=>hne h.symm),aa rfl]
 have hgo:∀j,j≠i->j≠s.n->s'.blk j=nV (mvN i s.n) s.blk (s.blk j):=fun j h1 h2=>by rw[hblk,ae h1,ae h2]
 have hget:∀k,s'.get k=ren (mvN i s.n) s.blk (s.get k):=fun k=>by
  subst hs'
  unfold St.get
  dsimp only
  rw[z7]
  cases look s.t k<;>rfl
 have hmvi:mvN i s.n i=some s.n:=by unfold mvN;rw[j4.2 rfl]
 have hmvo:∀j,j≠i->mvN i s.n j=some j:=fun j h=>by unfold mvN;rw[Fj.2 h]
 have hmv:∀j k,mvN i s.n j=some k->(j=i/\k=s.n)\/(j≠i/\k=j):=fun j k h=>by
  by_cases e:j=i
  ·rw[e,hmvi]at h;exact .inl ⟨e,(aw h).symm⟩
  ·rw[hmvo j e]at h;exact .inr ⟨e,(aw h).symm⟩
 have hloc:∀j,j≠s.n->(mvCx C i s.n s'.blk).loc j=C.loc j:=fun j h=>ae h
 have hlocn:(mvCx C i s.n s'.blk).loc s.n=C.loc i:=aa rfl
 have hM:Mv (mvN i s.n) s.blk C (mvCx C i s.n s'.blk):=
  {w:=rfl
   ok:=fun _ h=>h
   loc:=fun b k h hu=>by
    rcases hmv b k h with ⟨rfl,rfl⟩|⟨_,rfl⟩
    ·exact hlocn
    ·exact hloc _ (hnu _ hu)
   used:=fun b k h hu=>by
    rcases hmv b k h with ⟨rfl,rfl⟩|⟨_,rfl⟩
    ·exact .inr rfl
    ·exact .inl hu
   row:=fun b k h hu t ys g hg=>by
    replace hg:s'.blk k= .row t ys g:=hg
    rcases hmv b k h with ⟨rfl,rfl⟩|⟨e,rfl⟩
    ·rw[hgn]at hg;exact⟨ys,g,by rw[hI.eqb];exact hg,rfl⟩
    ·rw[hgo _ e (hnu _ hu)]at hg;exact⟨ys,g,by rw[hI.eqb];exact uF hg,rfl⟩
   rowA:=fun b k h hu ds hg=>by
    replace hg:s'.blk k= .rowA ds:=hg
    rcases hmv b k h with ⟨rfl,rfl⟩|⟨e,rfl⟩
    ·rw[hgn,hr0]at hg;cases hg
    ·rw[hgo _ e (hnu _ hu)]at hg;rw[hI.eqb];exact sF hg
   snap:=fun b h=>by
    exfalso
    by_cases e:b=i
    ·rw[e,hmvi]at h;cases h
    ·rw[hmvo b e]at h;cases h
   us:=fun b c h=>lc hI h
   br:=fun b=>by rw[hI.eqb];exact hI.bl b}
 have back:∀j,s'.blk j≠ .gone->(j=s.n/\s.blk i≠ .gone)\/(j≠s.n/\j≠i/\s.blk j≠ .gone):=fun j h=>by
  by_cases e:j=i
  ·rw[e,hgi]at h;exact ah rfl h
  ·by_cases e2:j=s.n
   ·rw[e2,hgn]at h;exact .inl ⟨e2,h⟩
   ·rw[hgo j e e2]at h;exact .inr ⟨e2,e,fun g=>h (nf.2 g)⟩
 have hri:s.blk i≠ .gone:=by rw[hr0];simp
 have hWK:∀k,k<B.np->WK (s.blk k) (s'.blk k):=fun k hk=>by
  have hkn:k≠s.n:=hnu k (hI.pus k hk)
  by_cases e:k=i
  ·rw[e,hgi,hr0];exact⟨fun cs h=>(by cases h),fun ds h=>(by cases h)⟩
  ·rw[hgo k e hkn]
   refine⟨fun cs h=>⟨_,by rw[h];rfl,gu cs⟩,fun ds h=>?_⟩
   obtain⟨cs,h1,_⟩:=mK h
   exact⟨cs,h1⟩
 have hInv:Inv B s' (mvCx C i s.n s'.blk):=
  {eqb:=fun _=>rfl
   bl:=fun j=>by
    by_cases e:j=i
    ·rw[e,hgi];trivial
    ·by_cases e2:j=s.n
     ·rw[e2,hgn]
      have:=BR.mv hM (i:=s.n) hlocn (hI.bl i)
      rwa [hr0]at this|-
     ·rw[hgo j e e2];exact BR.mv hM (hloc j e2) (hI.bl j)
   inj:=fun j k c hj hk h1 h2=>by
    rcases back j hj with ⟨rfl,g1⟩|⟨e1,e2,g1⟩
    ·rcases back k hk with ⟨rfl,g2⟩|⟨f1,f2,g2⟩
     ·rfl
     ·rw[hlocn]at h1;rw[hloc k f1]at h2
      exact ah (hI.inj i k c g1 g2 h1 h2).symm f2
    ·rcases back k hk with ⟨rfl,g2⟩|⟨f1,f2,g2⟩
     ·rw[hlocn]at h2;rw[hloc j e1]at h1
      exact ah (hI.inj j i c g1 g2 h1 h2) e2
     ·rw[hloc j e1]at h1;rw[hloc k f1]at h2
      exact hI.inj j k c g1 g2 h1 h2
   lt:=fun j c h=>by
    by_cases e:j=s.n
    ·rw[e,hlocn]at h;exact hI.lt i c h
    ·rw[hloc j e]at h;exact hI.lt j c h
   us:=fun j hu=>by
    have h1:¬C.used j:=fun h=>hu (.inl h)
    have h2:j≠s.n:=fun h=>hu (.inr h)
    have h3:j≠i:=fun h=>h1 (h▸hI.pus i hi)
    obtain⟨g1,g2⟩:=hI.us j h1
    exact⟨by rw[hgo j h3 h2];exact nf.2 g1,by rw[hloc j h2];exact g2⟩
   okd:=fun c hc=>by
    obtain⟨h1,h2⟩:=hI.okd c hc
    refine⟨h1,fun j hj h=>?_⟩
    by_cases e:j=i
    ·rw[e,hgi]at hj;cases hj
    ·by_cases e2:j=s.n
     ·rw[e2,hgn]at hj;rw[e2,hlocn]at h;exact h2 i hj h
     ·rw[hgo j e e2,li]at hj;rw[hloc j e2]at h;exact h2 j hj h
   okS:=fun c hc=>by
    rcases hI.okS c hc with h|h|⟨k,h1,h2,h3,h4⟩
    ·exact .inl h
    ·exact .inr (.inl h)
    ·refine .inr (.inr ⟨k,h1,h2,?_,h4⟩)
     by_cases e:k=i
     ·rw[e,hgi];rfl
     ·rw[hgo k e (hnu k (hI.pus k h1)),li];exact h3
   own:=fun j c hj h=>by
    rcases back j hj with ⟨rfl,g1⟩|⟨e1,e2,g1⟩
    ·rw[hlocn]at h
     rcases hI.own i c g1 h with ⟨k,k1,k2,k3⟩|h
     ·refine .inl ⟨k,k1,k2,.inr ?_⟩
      rcases k3 with rfl|k3
      ·exact may
      ·exact k3
     ·exact .inr h
    ·rw[hloc j e1]at h;exact hI.own j c g1 h
   lt0:=hI.lt0
   inj0:=hI.inj0
   pas:=fun k hk=>by rw[hloc k (hnu k (hI.pus k hk))];exact hI.pas k hk
   pus:=fun k hk=> .inl (hI.pus k hk)
   frm:=hI.frm
   prt:=hI.prt
   prt2:=hI.prt2
   stay:=fun k hk hm=>by
    have hki:k≠i:=fun e=>hm 0 (e▸may 0)
    obtain⟨a1,a2⟩:=hI.stay k hk hm
    rw[hgo k hki (hnu k (hI.pus k hk))]
    exact⟨fun h e=>a1 h (nf.1 e),fun h=>by rw[li];exact a2 h⟩
   shp:=hI.shp
   wid:=fun k hk=>(hI.wid k hk).trans (hWK k hk)
   npn:=by subst hs';exact hI.npn
   all:=by subst hs';exact hI.all}
 refine⟨mvCx C i s.n s'.blk,⟨hG.w,hInv,⟨hG.ain.dfr,hG.ain.siz,fun k=>by rw[hget];exact TR.mv hM (hG.ain.tm k)⟩,⟨fun k hk=>?_,hG.old.cell,hG.old.ok⟩,fun k hk=>?_⟩,?_,?_⟩
 ·have h1:=hG.old.keep k hk
  rw[hI.eqb]at h1
  show BK (B.hs0 k) (s'.blk k) True
  by_cases e:k=i
  ·subst e
   rw[hgi]
   rw[hr0]at h1
   cases hb:B.hs0 k with
   |gone=>rfl
   |var cs=>rw[hb]at h1;obtain⟨_,h⟩:=(show∃ds,Blk.row t0 xs0 f0= .var ds from h1);cases h
   |row t xs f=>exact .inl rfl
   |rowA cs=>exact .inl rfl
   |map t es=>rw[hb]at h1;obtain⟨_,h⟩:=(show∃ds,Blk.row t0 xs0 f0= .map t ds from h1);cases h
  ·rw[hgo k e (hnu k (hI.pus k hk))];exact ES h1
 ·rcases hk with h|rfl
  ·have:=hG.fr k h;subst hs';show k<s.n+1;omega
  ·subst hs';exact qB _
 ·subst hs';rfl
 ·subst hs';rfl
theorem Da:∀(l:List Nat) {s:St} {C:Cx},Good B nt s C a w->∃C',Good B nt (s.mvs l) C' a w/\(s.mvs l).np=s.np/\(s.mvs l).al=s.al
 |[],_,C,h=>⟨C,h,rfl,rfl⟩
 |x::r,_,_,h=>by
  obtain⟨C1,h1,h2,h3⟩:=IZ h x
  obtain⟨C2,k1,k2,k3⟩:=Da r h1
  exact⟨C2,k1,k2.trans h2,k3.trans h3⟩
end
end Go.Den
namespace Go.Den
open Go.RowKit (Below)
theorem VTL.un_tup:∀(l:List VT) (as:List AV) (x:VTL.Ty l),VTL.pack l as=some x->∀b∈VTL.un l x,∀vs,b≠ .tup vs
 |[],_,_,_=>by simp[VTL.un]
 |t::l,[],x,h=>by cases t<;>simp[VTL.pack]at h
 | .konst c::l,a::as,x,h=>by
  simp only[VTL.pack]at h
  split at h
  ·rename_i hs
   intro b hb vs
   rcases aN.1 hb with rfl|hb
   ·rintro rfl;simp[same]at hs
   ·exact VTL.un_tup l as x h b hb vs
  ·cases h
 | .bool::l,a::as,x,h=>by
  simp only[VTL.pack]at h;split at h
  ·rename_i q hq;cases h
   intro b hb vs;rcases aN.1 hb with rfl|hb
   ·simp[VT.un]
   ·exact VTL.un_tup l as _ hq b hb vs
  ·cases h
 | .int k::l,a::as,x,h=>by
  simp only[VTL.pack]at h;split at h
  ·rename_i q hq;cases h
   intro b hb vs;rcases aN.1 hb with rfl|hb
   ·simp[VT.un]
   ·exact VTL.un_tup l as _ hq b hb vs
  ·cases h
 | .str::l,a::as,x,h=>by
  simp only[VTL.pack]at h;split at h
  ·rename_i q hq;cases h
   intro b hb vs;rcases aN.1 hb with rfl|hb
   ·simp[VT.un]
   ·exact VTL.un_tup l as _ hq b hb vs
  ·cases h
 | .list t::l,a::as,x,h=>by
  simp only[VTL.pack]at h;split at h
  ·rename_i q hq;cases h
   intro b hb vs;rcases aN.1 hb with rfl|hb
   ·simp[VT.un]
   ·exact VTL.un_tup l as _ hq b hb vs
  ·cases h
 | .el t::l,a::as,x,h=>by
  simp only[VTL.pack]at h;split at h
  ·rename_i q hq;cases h
   intro b hb vs;rcases aN.1 hb with rfl|hb
   ·simp[VT.un]
   ·exact VTL.un_tup l as _ hq b hb vs
  ·cases h
 | .arr t n::l,a::as,x,h=>by
  simp only[VTL.pack]at h;split at h
  ·rename_i q hq;cases h
   intro b hb vs;rcases aN.1 hb with rfl|hb
   ·simp[VT.un]
   ·exact VTL.un_tup l as _ hq b hb vs
  ·cases h
 | .agg m::l,a::as,x,h=>by
  simp only[VTL.pack]at h;split at h
  ·rename_i q hq;cases h
   intro b hb vs;rcases aN.1 hb with rfl|hb
   ·simp[VT.un]
   ·exact VTL.un_tup l as _ hq b hb vs
  ·cases h
theorem PE.tr1 {a b:AV}(h:PE a b)(hb:∀vs,b≠ .tup vs){C:Cx}{v:Value}(hv:TR1 C a v):TR1 C b v:=by
 have ha:∀vs,a≠ .tup vs:=by rintro vs rfl;exact(hv:False)
 have h1:TR C a v:=by cases a<;>first|exact hv|exact ah rfl (ha _)
 have h2:=h.ws C v h1
 cases b<;>first|exact h2|exact ah rfl (hb _)
theorem zi:∀ {as bs:List AV},jw PE as bs->(∀b∈bs,∀vs,b≠ .tup vs)->∀ {C:Cx} {vs:List Value},jw (TR1 C) as vs->jw (TR1 C) bs vs
 |[],[],_,_,_,_,h=>h
 |[],_::_,h,_,_,_,_=>h.elim
 |_::_,[],h,_,_,_,_=>h.elim
 |_::_,_::_,_,_,_,[],hv=>hv.elim
 |_::_,_::_,h,hb,_,_::_,hv=>⟨h.1.tr1 (hb _ (bq ..)) hv.1,zi h.2 (fun c hc=>hb c (bt _ hc)) hv.2⟩
theorem RT.pack_ok (r:RT)(a:AV)(x:r.Ty)(h:r.pack a=some x):WS a (r.un x):=by
 cases r with
 |one t=>exact(VT.pack_ok t a x h).ws
 |tup l=>
  cases a<;>simp only[RT.pack]at h<;>first|(cases h;done)|skip
  intro C v hv
  obtain⟨vs,rfl,hvs⟩:=hv
  exact⟨vs,rfl,zi (VTL.pack_ok l _ x h) (VTL.un_tup l _ x h) hvs⟩
section
variable {P:Program}{T:Tr TI}{E:Tr Sem1}{A:Anns}{F:Nat}
theorem FS {B:Bs}{nt:Nat}{s:St}{C:Cx}{a:Act}{w:World}(hG:Good B nt s C a w)(σ:Sig)(np:Nat)(hnp0:np=B.np){v:AV}{x:Value}(hv:TR C v x){z:σ.r.Ty×BTL.Ty σ.ks}(h:finK σ.ownR s v (σ.packR np)=some z):
  ∃C',C'.w=w/\Inv B (AH (BTL.un σ.ks z.2) B.np B.wr) C'/\Old B C'/\(∀i,C'.used i->i<(BTL.un σ.ks z.2).length)/\TR C' (σ.r.un z.1) x:=by
 unfold finK at h
 obtain⟨hkn,hkp⟩:=rL s σ.ownR [v]
 generalize m9 s σ.ownR [v]=keep at hkn hkp h
 unfold Sig.packR at h
 split at h
 ·rename_i hok
  split at h
  ·rename_i p q hp hq
   obtain rfl:=aw h
   obtain⟨b1,b2⟩:=BTL.pack_ok _ _ _ hq
   have hlen2:(BTL.un σ.ks q).length=keep.length:=by rw[<-b1.length,qI]
   have hnp:=hG.inv.npn
   have hR:Renum B s (AH (BTL.un σ.ks q) B.np B.wr) keep:=
    {nodup:=hkn
     np:=fun i hi=>hkp i (by omega)
     blk:=fun i b hb=>by
      have:(gx (oS keep · 0) s.blk s.blk keep)[i]? =some (nV (oS keep · 0) s.blk (s.blk b)):=by rw[m5,hb];rfl
      obtain⟨y,h1,h2⟩:=xL b1 this
      rw[jZ,h1];exact h2
     out:=fun i hi=>by rw[jZ,fF (by omega)];rfl
     kept:=fun i hi hg=>by
      have hil:i<(BTL.un σ.ks q).length:=by
       have:=(bj.1 (hkp i (by omega))).1;omega
      rw[jZ,co hil]at hg
      have:=BTL.un_gone np σ.ks _ q hq hok i (by omega) (by rw[co hil];exact congrArg some hg)
      rw[m5,hkp i (by omega)]at this
      exact nf.1 (aw this)
     n:=by show lenN _=_;rw[lenN_eq,hlen2]
     nps:=hnp.symm
     als:=hG.inv.all.symm}
   exact⟨tI C keep (AH (BTL.un σ.ks q) B.np B.wr).blk,hG.w,v6 hG.inv hR,v7 hG.inv hG.old hR,fun i hi=>by rw[hlen2];exact hi,
    RT.pack_ok _ _ _ hp _ _ (TR.mv (uG hG.inv hR) hv)⟩
  ·cases h
 ·cases h
theorem JV {L:Lay}(hV0:Env0 P T E L){g:FuncId}{fn:Func}{c:Code}(hf:P.funcs[g]? =some fn)(hname:(fn.name== "runtime.NumGoroutine")=false)(hb:fn.body=some c)(hok:pB fn.ntmps c=true)
  (σ:Sig) (hts:Nat.ble (lenN σ.D.ts) fn.ntmps=true) (S:σ.D.Ty->Option (σ.r.Ty×BTL.Ty σ.ks)) (hS:∀x z,S x=some z->σ.den E T A F fn x=some z):uS P L g (σ.sem S):=by
 intro C args hs cargs hu hL hI hargs α k ans hr
 have hV:Env P T E (lT C hs.length σ.wr):=hV0.at hL
 simp only[Sig.sem]at hr
 split at hr
 ·rename_i hl
  simp only[ar]at hl
  have hl1:=j4.1 hl.1
  have hl2:=j4.1 hl.2
  split at hr
  ·rename_i x hx
   cases hz:S x with
   |none=>rw[hz]at hr;cases hr
   |some z=>
    rw[hz]at hr
    have hr:k (σ.r.un z.1) (BTL.un σ.ks z.2)=some ans:=hr
    have hd:=hS x z hz
    refine pp hf hname (by rw[hb];rfl) (calls_of_wp hf hb ?_)
    unfold Sig.den at hd
    rw[hb]at hd
    dsimp only at hd
    have hal:=hargs.length
    have hlen:args.length<=fn.ntmps:=by rw[<-lenN_eq,hl2];exact i9 hts
    have hG:Good (lT C hs.length σ.wr) fn.ntmps (argS σ.wr args hs) C {tmps:=cargs++Array.replicate (fn.ntmps-cargs.size) undef,defers:=[]} C.w:=
     {w:=rfl
      inv:=hI.same rfl (lenN_eq hs) rfl
      old:={keep:=fun i _=>BK.refl _ trivial,cell:=fun _ _ _ _ h=>h,ok:=fun _ h=>h}
      fr:=fun i hi=>by show i<lenN hs;rw[lenN_eq];exact(hu i).1 hi
      ain:={dfr:=rfl
            siz:=by simp at hal|-;omega
            tm:=fun i=>by
             show TR C (match look (Kt 0 args) i with|some v=>v|none=> .dead) _
             rw[yI,aa (iG _),Nat.sub_zero]
             cases h:args[i]? with
             |none=>trivial
             |some v=>
              obtain⟨y,h1,h2⟩:=hargs.at h
              have hi:i<cargs.size:=by have:=(bj.1 h1).1;simpa using this
              have:(cargs++Array.replicate (fn.ntmps-cargs.size) undef).getD i undef=y:=by
               have h3:cargs[i]? =some y:=by simpa using h1
               rw[sa,qm hi,h3];rfl
              rw[this];exact h2}}
    obtain⟨C1,hG1⟩:=oF hG hx {t:=[],h:=[],n:=0,np:=lenN σ.D.hs,al:=σ.wr,w:=false} hl1.symm rfl
    obtain⟨C2,hG2,_,_⟩:=Da σ.mv hG1
    refine zu hV (uj hV) c 0 _ _ _ z C2 _ C.w _ hok hd hG2 fun e s' C' a' w' g' hk=>?_
    have fin:(match HR T (uY σ.nlR s') fn.results.toList with
      |none=>none
      |some vs=>match oneV vs with
       |some v=>finK σ.ownR (uY σ.nlR s') v (σ.packR (lenN σ.D.hs))
       |none=>none)=some z->a'.defers=[]/\∃v,(results fn a'.tmps).run P w'= .ok v w'/\∃x,Ending.returned v= .returned x/\∃r hs' C',k r hs'=some ans/\C'.w=w'/\Inv (lT C hs.length σ.wr) (AH hs' hs.length σ.wr) C'/\Old (lT C hs.length σ.wr) C'/\(∀i,C'.used i->i<hs'.length)/\TR C' r x:=by
     intro hk
     obtain⟨Cd,g',_,_⟩:=qK σ.nlR g'
     split at hk
     ·cases hk
     ·rename_i vs hvs
      split at hk
      ·rename_i v hv
       obtain⟨x,h1,h2⟩:=wa (fn:=fn) hV.tok g' hvs hv
       obtain⟨C'',e1,e2,e3,e4,e5⟩:=FS g' σ _ (by rw[<-hl1,lenN_eq];rfl) h2 hk
       exact⟨g'.ain.dfr,x,h1,x,rfl,_,_,C'',hr,e1,e2,e3,e4,e5⟩
      ·cases hk
    cases e with
    |exit i=>cases hk
    |norm=>exact fin hk
    |ret=>exact fin hk
  ·cases hr
 ·cases hr
theorem HA {L:Lay}(hV:Env0 P T E L){g:FuncId}{fn:Func}(hf:P.funcs[g]? =some fn)(hname:(fn.name== "runtime.NumGoroutine")=false)(hok:(match fn.body with|some c=>pB fn.ntmps c|none=>false)=true)
  (σ:Sig) (hts:Nat.ble (lenN σ.D.ts) fn.ntmps=true) (S:σ.D.Ty->Option (σ.r.Ty×BTL.Ty σ.ks)) (hS:∀x,σ.den E T A F fn x=S x):uS P L g (σ.sem S):=by
 cases hb:fn.body with
 |none=>rw[hb]at hok;cases hok
 |some c=>
  rw[hb]at hok
  exact JV hV hf hname hb hok σ hts S fun x z h=>(hS x).trans h
end
end Go.Den
