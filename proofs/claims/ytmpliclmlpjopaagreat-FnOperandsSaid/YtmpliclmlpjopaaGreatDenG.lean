/- Theory for the proofs of this claim: see its last text. -/
import Derived.Test.YtmpliclmlpjopaaGreatDenE
import Derived.Test.YtmpliclmlpjopaaGreatDenA
namespace Go.Den
open Go.RowKit (Below)
structure Msk (C C':Cx):Prop where
 w:C'.w=C.w
 loc:C'.loc=C.loc
 ok:C'.ok=C.ok
 used:C'.used=C.used
 blk:∀b,C'.blk b=C.blk b∨C'.blk b= .gone
section
variable {C C':Cx}
theorem VP.msk (E:Msk C C'){a:AV}{v:Value}(h:VP C a v):VP C' a v:=by
 obtain⟨w,loc,blk,ok,used⟩:=C
 obtain⟨w',loc',blk',ok',used'⟩:=C'
 obtain⟨h1,h2,h3,h4,hb⟩:=E
 dsimp only at h1 h2 h3 h4 hb
 subst h1 h2 h3 h4
 cases a with
 |ptrE b t i o=>
  obtain⟨c,hc,hu,h0,hv,hk⟩:=h
  refine⟨c,hc,hu,h0,hv,fun t' xs f hx=>?_⟩
  rcases hb b with e|e
  ·exact hk t' xs f (e.symm.trans hx)
  ·rw[show blk' b= .row t' xs f from hx]at e;cases e
 |vec b=>
  obtain⟨hu,hs,h⟩:=h
  refine⟨hu,hs,?_⟩
  rcases hb b with e|e
  ·dsimp only at h⊢;rw[e];exact h
  ·dsimp only;rw[e];trivial
 |pre b n=>
  obtain⟨hu,hs,h0,h⟩:=h
  refine⟨hu,hs,h0,?_⟩
  rcases hb b with e|e
  ·dsimp only at h⊢;rw[e];exact h
  ·dsimp only;rw[e];trivial
 |suf b n=>
  obtain⟨hu,hs,h0,h⟩:=h
  refine⟨hu,hs,h0,?_⟩
  rcases hb b with e|e
  ·dsimp only at h⊢;rw[e];exact h
  ·dsimp only;rw[e];trivial
 |err b=>cases b<;>exact h
 |_=>exact h
theorem VR.msk (E:Msk C C'){a:AV}{v:Value}(h:VR C a v):VR C' a v:=by
 cases a with
 |func fn f c=>obtain⟨f',c',hv,h1,h2⟩:=h;exact⟨f',c',hv,h1.imp fun _ _ _=>VP.msk E,h2.imp fun _ _ _=>VP.msk E⟩
 |_=>simp only[VR]at h⊢;exact VP.msk E h
theorem ER.msk (E:Msk C C'){a:AV}{g:Nat→Option Value}{o:Nat}(h:ER C a g o):ER C' a g o:=by
 cases a with
 |arr t n xs=>exact h
 |_=>obtain⟨v,h1,h2⟩:=h;exact⟨v,h1,VR.msk E h2⟩
theorem CR.msk (E:Msk C C'){cs:List AV}{g:Nat→Option Value}(h:CR C cs g):CR C' cs g:=fun i a ha=>ER.msk E (h i a ha)
theorem TR1.msk (E:Msk C C'){a:AV}{v:Value}(h:TR1 C a v):TR1 C' a v:=by
 cases a with
 |agg cs=>obtain⟨l,hv,hs,hc⟩:=h;exact⟨l,hv,hs,hc.msk E⟩
 |_=>simp only[TR1]at h⊢;exact VR.msk E h
theorem TR.msk (E:Msk C C'){a:AV}{v:Value}(h:TR C a v):TR C' a v:=by
 cases a with
 |tup vs=>obtain⟨l,hv,hc⟩:=h;exact⟨l,hv,hc.imp fun _ _ _=>TR1.msk E⟩
 |_=>simp only[TR]at h⊢;exact TR1.msk E h
theorem BR.msk (E:Msk C C'){b:Nat}{x:Blk}(h:BR C b x):BR C' b x:=by
 cases x with
 |gone=>exact trivial
 |var cs=>obtain⟨c,arr,t,fr,h1,h2,h3,h4,h5⟩:=h;exact⟨c,arr,t,fr,by rw[E.loc];exact h1,by rw[E.w];exact h2,h3,h4.msk E,h5⟩
 |rowA cs=>obtain⟨c,arr,t,fr,h1,h2,h3,h4,h5⟩:=h;exact⟨c,arr,t,fr,by rw[E.loc];exact h1,by rw[E.w];exact h2,h3,h4.msk E,h5⟩
 |row t xs f=>simp only[BR]at h⊢;rw[E.loc,E.w,E.ok];exact h
 |map t es=>simp only[BR]at h⊢;rw[E.loc,E.w];exact h
end
section
variable {B:Bs}{nt:Nat}{s s':St}{C:Cx}{a:Act}{w:World}
theorem Good.masked (hG:Good B nt s C a w)(hblk:∀b,s'.blk b=s.blk b∨(s'.blk b= .gone∧B.np≤b))(hg:∀x,s'.get x=s.get x)(hn:s'.n=s.n)(hnp:s'.np=s.np)(hal:s'.al=s.al):Good B nt s' {C with blk:=s'.blk} a w:=by
 have hI:=hG.inv
 have E:Msk C {C with blk:=s'.blk}:=⟨rfl,rfl,rfl,rfl,fun b=>(hblk b).imp (fun e=>e.trans (hI.eqb b).symm) (·.1)⟩
 have hngi:∀i,s'.blk i≠ .gone→s.blk i≠ .gone∧s'.blk i=s.blk i:=fun i h=>by
  rcases hblk i with e|e
  ·exact⟨e▸h,e⟩
  ·exact absurd e.1 h
 have hlo:∀i,i<B.np→s'.blk i=s.blk i:=fun i hi=>(hblk i).elim id fun h=>absurd h.2 (Nat.not_le.2 hi)
 refine⟨hG.w,?_,⟨hG.ain.dfr,hG.ain.siz,fun i=>by rw[hg];exact(hG.ain.tm i).msk E⟩,⟨fun i hi=>by show BK _ (s'.blk i) _;rw[hlo i hi,←hI.eqb];exact hG.old.keep i hi,hG.old.cell,hG.old.ok⟩,fun i hi=>by rw[hn];exact hG.fr i hi⟩
 refine {eqb:=fun i=>rfl,bl:=fun i=>?_,inj:=fun i j k hi hj h1 h2=>hI.inj i j k (hngi i hi).1 (hngi j hj).1 h1 h2,lt:=hI.lt,us:=fun i hu=>?_,okd:=fun k hk=>?_,okS:=fun k hk=>?_,own:=fun i k hi h=>hI.own i k (hngi i hi).1 h,lt0:=hI.lt0,inj0:=hI.inj0,pas:=hI.pas,pus:=hI.pus,frm:=hI.frm,prt:=hI.prt,prt2:=hI.prt2,stay:=fun i hi hm=>?_,shp:=hI.shp,wid:=fun i hi=>?_,npn:=hnp.trans hI.npn,all:=hal.trans hI.all}
 ·rcases hblk i with e|e
  ·rw[e];exact(hI.bl i).msk E
  ·rw[e.1];trivial
 ·have:=hI.us i hu
  refine⟨?_,this.2⟩
  rcases hblk i with e|e
  ·rw[e];exact this.1
  ·exact e.1
 ·obtain⟨h1,h2⟩:=hI.okd k hk
  refine⟨h1,fun i hi h=>?_⟩
  have:=(hngi i (fun e=>by rw[e]at hi;cases hi)).2
  rw[this]at hi
  exact h2 i hi h
 ·rcases hI.okS k hk with h|h|⟨i,h1,h2,h3,h4⟩
  ·exact .inl h
  ·exact .inr (.inl h)
  ·exact .inr (.inr ⟨i,h1,h2,by rw[hlo i h1];exact h3,h4⟩)
 ·rw[hlo i hi];exact hI.stay i hi hm
 ·rw[hlo i hi];exact hI.wid i hi
end
def lkL {α:Type}:List (Int×α)→Int→Option α
 |[],_=>none
 |e::r,k=>if e.1=k then some e.2 else lkL r k
theorem pO {α:Type}(k:Int)(d:α):∀l:List (Int×α),nm l k d=(lkL l k).getD d
 |[]=>rfl
 |e::r=>by
  simp only[nm,lkL]
  split
  ·rfl
  ·exact pO k d r
theorem tV {α:Type}(k k':Int)(v:α):∀l:List (Int×α),lkL (iP l k v) k'=if k=k' then some v else lkL l k'
 |[]=>by simp[iP,lkL]
 |e::r=>by
  simp only[iP]
  split
  ·rename_i h
   simp only[lkL,h]
   by_cases e2:k=k'<;>simp[e2]
  ·rename_i h
   simp only[lkL,tV k k' v r]
   by_cases e2:k=k'
   ·subst e2;simp[h]
   ·simp[e2]
def Cont (ops:List Oper)(L:Nat→Prop)(m:Tmp)(tg:Tag)(es:List (Int×El tg)):Prop:=
 ∀k v,lkL es k=some v↔∃j o t c,L j∧ops[j]? =some o∧gr o=some (t,m,k,c)∧dec tg [ofValue c]=some v
theorem iF {m:Tmp}{k:Int}:∀ {r:List Oper},to m k r=true→∀o∈r,∀t c,gr o≠some (t,m,k,c)
 |[],_,o,ho=>by cases ho
 |p::r,h,o,ho=>by
  simp only[to,Bool.and_eq_true]at h
  rcases List.mem_cons.1 ho with rfl|ho
  ·intro t c e
   rw[e]at h
   simp at h
  ·exact iF h.2 o ho
theorem nf:∀ {ops:List Oper},ne ops=true→∀(i j:Nat) (o o':Oper) (t t':TypeId) (m:Tmp) (k:Int) (c c':Value),ops[i]? =some o→ops[j]? =some o'→gr o=some (t,m,k,c)→gr o'=some (t',m,k,c')→i=j
 |[],_,i,j,o,o',t,t',m,k,c,c',h1,_,_,_=>by simp at h1
 |p::r,h,i,j,o,o',t,t',m,k,c,c',h1,h2,h3,h4=>by
  simp only[ne,Bool.and_eq_true]at h
  cases i with
  |zero=>
   simp only[List.getElem?_cons_zero,Option.some.injEq]at h1
   subst h1
   cases j with
   |zero=>rfl
   |succ j=>
    rw[h3]at h
    exact absurd h4 (iF h.1 o' (List.mem_of_getElem? (by simpa using h2)) t' c')
  |succ i=>
   cases j with
   |zero=>
    simp only[List.getElem?_cons_zero,Option.some.injEq]at h2
    subst h2
    rw[h4]at h
    exact absurd h3 (iF h.1 o (List.mem_of_getElem? (by simpa using h1)) t c)
   |succ j=>rw[nf h.2 i j o o' t t' m k c c' (by simpa using h1) (by simpa using h2) h3 h4]
theorem gF {tg:Tag}{m:Tmp}:∀ {r:List Oper} {es:List (Int×El tg)},kN tg m r=some es→ne r=true→
  (∀o∈r,∀t k c,gr o=some (t,m,k,c)→∃y,dec tg [ofValue c]=some y)∧∀k v,lkL es k=some v↔∃o∈r,∃t c,gr o=some (t,m,k,c)∧dec tg [ofValue c]=some v
 |[],es,h,_=>by
  obtain rfl:=Option.some.inj h
  exact⟨by simp,fun k v=>by simp[lkL]⟩
 |p::r,es,h,hk=>by
  simp only[ne,Bool.and_eq_true]at hk
  simp only[kN]at h
  cases hp:gr p with
  |none=>
   rw[hp]at h
   obtain⟨h1,h2⟩:=gF h hk.2
   refine⟨fun o ho t k c e=>?_,fun k v=>(h2 k v).trans ⟨fun⟨o,ho,x⟩=>⟨o,List.mem_cons_of_mem _ ho,x⟩,fun⟨o,ho,t,c,e,x⟩=>?_⟩⟩
   ·rcases List.mem_cons.1 ho with rfl|ho
    ·rw[hp]at e;cases e
    ·exact h1 o ho t k c e
   ·rcases List.mem_cons.1 ho with rfl|ho
    ·rw[hp]at e;cases e
    ·exact⟨o,ho,t,c,e,x⟩
  |some x=>
   obtain⟨t0,m',k0,c0⟩:=x
   rw[hp]at h hk
   dsimp only at h hk
   split at h
   ·rename_i hm
    have hne:=uy.1 hm
    obtain⟨h1,h2⟩:=gF h hk.2
    refine⟨fun o ho t k c e=>?_,fun k v=>(h2 k v).trans ⟨fun⟨o,ho,x⟩=>⟨o,List.mem_cons_of_mem _ ho,x⟩,fun⟨o,ho,t,c,e,x⟩=>?_⟩⟩
    ·rcases List.mem_cons.1 ho with rfl|ho
     ·rw[hp]at e;cases e;exact absurd rfl hne
     ·exact h1 o ho t k c e
    ·rcases List.mem_cons.1 ho with rfl|ho
     ·rw[hp]at e;cases e;exact absurd rfl hne
     ·exact⟨o,ho,t,c,e,x⟩
   ·rename_i hm
    obtain rfl:=ee.1 hm
    split at h
    ·rename_i y l hy hl
     obtain rfl:=Option.some.inj h
     obtain⟨h1,h2⟩:=gF hl hk.2
     refine⟨fun o ho t k c e=>?_,fun k v=>?_⟩
     ·rcases List.mem_cons.1 ho with rfl|ho
      ·rw[hp]at e;cases e;exact⟨y,hy⟩
      ·exact h1 o ho t k c e
     ·simp only[lkL]
      by_cases hkk:k0=k
      ·subst hkk
       rw[if_pos rfl]
       refine⟨fun e=>⟨p,List.mem_cons_self ..,t0,c0,hp,hy.trans e⟩,fun⟨o,ho,t,c,e,x⟩=>?_⟩
       rcases List.mem_cons.1 ho with rfl|ho
       ·rw[hp]at e;cases e;exact hy.symm.trans x
       ·exact absurd e (iF hk.1 o ho t c)
      ·rw[if_neg hkk,h2]
       refine⟨fun⟨o,ho,x⟩=>⟨o,List.mem_cons_of_mem _ ho,x⟩,fun⟨o,ho,t,c,e,x⟩=>?_⟩
       rcases List.mem_cons.1 ho with rfl|ho
       ·rw[hp]at e;cases e;exact absurd rfl hkk
       ·exact⟨o,ho,t,c,e,x⟩
    ·cases h
end Go.Den
namespace Go.Den
open Go.RowKit (Below)
section
variable {T:Tr TI}{ops:List Oper}{prs:List (List Nat)}
theorem xN {r:OpRes}{v:AV}(h:valR r=some v):r=val v:=by
 unfold valR at h
 split at h
 ·obtain rfl:=Option.some.inj h;rfl
 ·cases h
inductive StepC (T:Tr TI)(ops:List Oper)(prs:List (List Nat))(i:Nat)(o:Oper)(s s':St):Prop
 |ins {t:TypeId} {m:Tmp} {k:Int} {c:Value} {tg:Tag} {b:Nat} {es:List (Int×El tg)} (ho:gr o=some (t,m,k,c)) (ht:gK T t=some tg) (hm:s.get m= .mapr b) (hb:s.blk b= .map tg es) (hr:rz ops (prOf prs i) m=true) (e:s'=s)
 |mk {t:TypeId} {d:Tmp} {tg:Tag} {es:List (Int×El tg)} (hn:gr o=none) (ho:o.op= .makeMap t none) (hd:o.dst=some d) (ht:gK T t=some tg) (hf:kN tg d ops=some es) (e:s'=s.apply (some d) ⟨.mapr s.n,[],[.map tg es]⟩)
 |mv {x:Operand} (hn:gr o=none) (ho:o.op= .move x∨o.op= .assign x) (e:s'=s.put o.dst (s.ev x))
 |look {t:TypeId} {m key:Operand} {b:Nat} {v:AV} (hn:gr o=none) (ho:o.op= .lookup t m key false) (hm:s.ev m= .mapr b) (hin:wx s (prOf prs i) b 0 ops=true) (hl:iq T s t (.mapr b) (s.ev key) false=val v) (e:s'=s.put o.dst v)
theorem sR {i:Nat}{o:Oper}{s s':St}(h:zH T ops prs i o s=some s'):o.guard=none∧StepC T ops prs i o s s':=by
 unfold zH at h
 split at h
 ·cases h
 ·rename_i hg
  refine⟨hg,?_⟩
  split at h
  ·rename_i t m k c ho
   split at h
   ·rename_i tg b ht hm
    split at h
    ·rename_i tg' es hb
     split at h
     ·rename_i hc
      simp only[Bool.and_eq_true]at hc
      obtain rfl:=jC.1 hc.1
      exact .ins ho ht hm hb hc.2 (Option.some.inj h).symm
     ·cases h
    ·cases h
   ·cases h
  ·rename_i hn
   split at h
   ·rename_i t ho
    split at h
    ·rename_i tg d ht hd
     split at h
     ·rename_i es hf
      exact .mk hn ho hd ht hf (Option.some.inj h).symm
     ·cases h
    ·cases h
   ·rename_i x ho;exact .mv hn (.inl ho) (Option.some.inj h).symm
   ·rename_i x ho;exact .mv hn (.inr ho) (Option.some.inj h).symm
   ·rename_i t m key ho
    split at h
    ·rename_i b hm
     split at h
     ·rename_i v hin hl
      exact .look hn ho hm hin (xN hl) (Option.some.inj h).symm
     ·cases h
    ·cases h
   ·cases h
structure StepR (o:Oper)(s s':St):Prop where
 slot:∀x,o.dst≠some x→s'.get x=s.get x
 n:s.n≤s'.n
 lo:∀b,b<s.n→s'.blk b=s.blk b
 hi:∀b,s'.n≤b→s'.blk b=s.blk b
 np:s'.np=s.np
 al:s'.al=s.al
 made:∀b,s.n≤b→b<s'.n→b=s.n∧∃d,eg o=some d
theorem StepC.rel {i:Nat}{o:Oper}{s s':St}(h:StepC T ops prs i o s s'):StepR o s s':=by
 have putR:∀v,StepR o s (s.put o.dst v):=fun v=>
  ⟨fun x hx=>by rw[fb,if_neg hx],by rw[pW];exact Nat.le_refl _,fun b _=>by rw[cZ],fun b _=>by rw[cZ],kb ..,ka ..,fun b h1 h2=>by rw[pW]at h2;omega⟩
 cases h with
 |ins _ _ _ _ _ e=>subst e;exact⟨fun _ _=>rfl,Nat.le_refl _,fun _ _=>rfl,fun _ _=>rfl,rfl,rfl,fun b h1 h2=>by omega⟩
 |mv _ _ e=>subst e;exact putR _
 |look _ _ _ _ _ e=>subst e;exact putR _
 | @mk t d tg es hn ho hd ht hf e=>
  subst e
  have hN:(s.apply (some d) ⟨.mapr s.n,[],[.map tg es]⟩).n=s.n+1:=by rw[gC];rfl
  refine⟨fun x hx=>by rw[dN,if_neg (hd▸hx)],by rw[hN];omega,fun b hb=>by rw[eY,if_neg (by omega)],fun b hb=>by rw[hN]at hb;rw[eY,if_neg (by omega)],eA ..,ez ..,fun b h1 h2=>?_⟩
  rw[hN]at h2
  exact⟨by omega,d,by simp[eg,ho,hd]⟩
theorem l4:∀(r:List Oper) (i:Nat) (s sF:St),yC T ops prs i r s=some sF→∃S:Nat→St,S i=s∧S (i+r.length)=sF∧∀k o,r[k]? =some o→zH T ops prs (i+k) o (S (i+k))=some (S (i+k+1))
 |[],i,s,sF,h=>⟨fun _=>s,rfl,Option.some.inj h,fun k o hk=>by simp at hk⟩
 |p::r,i,s,sF,h=>by
  simp only[yC]at h
  split at h
  ·rename_i s1 h1
   obtain⟨S,a,b,c⟩:=l4 r (i+1) s1 sF h
   refine⟨fun j=>if j≤i then s else S j,by simp,?_,fun k o hk=>?_⟩
   ·simp only[List.length_cons]
    rw[if_neg (by omega),←b]
    congr 1;omega
   ·cases k with
    |zero=>
     simp only[List.getElem?_cons_zero,Option.some.injEq]at hk
     subst hk
     simp only[Nat.add_zero,Nat.le_refl,if_true]
     rw[if_neg (by omega),a];exact h1
    |succ k=>
     have:=c k o (by simpa using hk)
     rw[show i+1+k=i+(k+1)by omega]at this
     dsimp only
     rw[if_neg (by omega),if_neg (by omega)];exact this
  ·cases h
def mF (T:Tr TI)(ops:List Oper)(prs:List (List Nat))(S:Nat→St):Prop:=∀i o,ops[i]? =some o→o.guard=none∧StepC T ops prs i o (S i) (S (i+1))
section
variable {S:Nat→St}(hC:mF T ops prs S)
include hC
theorem mF.at {i:Nat}(h:i<ops.length):∃o,ops[i]? =some o∧StepC T ops prs i o (S i) (S (i+1)):=⟨ops[i],by simp[h],(hC i _ (by simp[h])).2⟩
theorem mF.slot {i j:Nat}(hij:i≤j)(hj:j≤ops.length){x:Tmp}(h:∀p o,i≤p→p<j→ops[p]? =some o→o.dst≠some x):(S j).get x=(S i).get x:=by
 induction hij with
 |refl=>rfl
 | @step m hm ih=>
  obtain⟨o,ho,hs⟩:=hC.at (i:=m) (by omega)
  rw[hs.rel.slot x (h m o hm (by omega) ho)]
  exact ih (by omega) fun p o h1 h2=>h p o h1 (by omega)
theorem mF.n {i j:Nat}(hij:i≤j)(hj:j≤ops.length):(S i).n≤(S j).n:=by
 induction hij with
 |refl=>exact Nat.le_refl _
 | @step m hm ih=>
  obtain⟨o,ho,hs⟩:=hC.at (i:=m) (by omega)
  exact Nat.le_trans (ih (by omega)) hs.rel.n
theorem mF.lo {i j:Nat}(hij:i≤j)(hj:j≤ops.length){b:Nat}(hb:b<(S i).n):(S j).blk b=(S i).blk b:=by
 induction hij with
 |refl=>rfl
 | @step m hm ih=>
  obtain⟨o,ho,hs⟩:=hC.at (i:=m) (by omega)
  rw[hs.rel.lo b (Nat.lt_of_lt_of_le hb (hC.n hm (by omega))),ih (by omega)]
theorem mF.hi {i j:Nat}(hij:i≤j)(hj:j≤ops.length){b:Nat}(hb:(S j).n≤b):(S j).blk b=(S i).blk b:=by
 induction hij with
 |refl=>rfl
 | @step m hm ih=>
  obtain⟨o,ho,hs⟩:=hC.at (i:=m) (by omega)
  rw[hs.rel.hi b hb,ih (by omega) (Nat.le_trans hs.rel.n hb)]
theorem mF.np {i j:Nat}(hij:i≤j)(hj:j≤ops.length):(S j).np=(S i).np∧(S j).al=(S i).al:=by
 induction hij with
 |refl=>exact⟨rfl,rfl⟩
 | @step m hm ih=>
  obtain⟨o,ho,hs⟩:=hC.at (i:=m) (by omega)
  exact⟨hs.rel.np.trans (ih (by omega)).1,hs.rel.al.trans (ih (by omega)).2⟩
theorem mF.made {i j:Nat}(hij:i≤j)(hj:j≤ops.length){b:Nat}(h1:(S i).n≤b)(h2:b<(S j).n):∃p o d,i≤p∧p<j∧ops[p]? =some o∧eg o=some d∧b=(S p).n:=by
 induction hij with
 |refl=>omega
 | @step m hm ih=>
  obtain⟨o,ho,hs⟩:=hC.at (i:=m) (by omega)
  by_cases hb:b<(S m).n
  ·obtain⟨p,o,d,a1,a2,a3⟩:=ih (by omega) hb
   exact⟨p,o,d,a1,by omega,a3⟩
  ·obtain⟨e,d,hd⟩:=hs.rel.made b (by omega) h2
   exact⟨m,o,d,hm,by omega,ho,hd,e⟩
theorem mF.mk {p:Nat}{o:Oper}{d:Tmp}(ho:ops[p]? =some o)(hd:eg o=some d):∃t tg es,o.op= .makeMap t none∧o.dst=some d∧gK T t=some tg∧kN tg d ops=some es∧
  (S (p+1)).get d= .mapr (S p).n∧(S (p+1)).n=(S p).n+1∧(S (p+1)).blk (S p).n= .map tg es:=by
 have hop:∃t,o.op= .makeMap t none∧o.dst=some d:=by
  unfold eg at hd
  split at hd
  ·rename_i t h;exact⟨t,h,hd⟩
  ·cases hd
 obtain⟨t0,hop,hdst⟩:=hop
 cases (hC p o ho).2 with
 | @ins t m k c tg b es ho'=>
  unfold gr at ho'
  rw[hop]at ho'
  cases ho'
 |mv _ ho'=>rcases ho' with h|h<;>rw[hop]at h<;>cases h
 |look _ ho'=>rw[hop]at ho';cases ho'
 | @mk t d' tg es _ ho' hd' ht hf e=>
  rw[hdst]at hd';cases hd'
  rw[hop]at ho';cases ho'
  refine⟨t0,tg,es,hop,hdst,ht,hf,?_,?_,?_⟩
  ·rw[e,dN,if_pos rfl]
  ·rw[e,gC];rfl
  ·rw[e,eY,if_pos rfl]
end
theorem oI {s:St}{pr:List Nat}{b:Nat}:∀ {r:List Oper} {i:Nat},wx s pr b i r=true→∀k o t m q c,r[k]? =some o→gr o=some (t,m,q,c)→s.get m= .mapr b→kO pr (i+k)=true
 |[],_,_,k,o,t,m,q,c,h,_,_=>by simp at h
 |p::r,i,h,k,o,t,m,q,c,hk,ho,hm=>by
  simp only[wx,Bool.and_eq_true]at h
  cases k with
  |zero=>
   simp only[List.getElem?_cons_zero,Option.some.injEq]at hk
   subst hk
   have h1:=h.1
   rw[ho]at h1
   dsimp only at h1
   rw[hm]at h1
   simpa[ee.2 (rfl:b=b)]using h1
  |succ k=>have:=oI h.2 k o t m q c (by simpa using hk) ho hm;rwa [show i+1+k=i+(k+1)by omega]at this
theorem ky:∀ {pr:List Nat} {m:Tmp},rz ops pr m=true→∃q o,q∈pr∧ops[q]? =some o∧eg o=some m
 |[],_,h=>by cases h
 |q::r,m,h=>by
  simp only[rz,Bool.or_eq_true]at h
  rcases h with h|h
  ·split at h
   ·rename_i o ho
    split at h
    ·rename_i d hd
     rw[nth_eq]at ho
     obtain rfl:=ee.1 h
     exact⟨q,o,List.mem_cons_self ..,ho,hd⟩
    ·cases h
   ·cases h
  ·obtain⟨q',o,h1,h2⟩:=ky h
   exact⟨q',o,List.mem_cons_of_mem _ h1,h2⟩
end
structure MInv (ops:List Oper)(S:Nat→St)(L U:Nat→Prop)(sp:St):Prop where
 lsE:jZ ops L
 np:sp.np=(S 0).np
 al:sp.al=(S 0).al
 old:∀b,b<(S 0).n→sp.blk b=(S 0).blk b
 w1:∀x i o,L i→ops[i]? =some o→o.dst=some x→sp.get x=(S ops.length).get x
 w0:∀x,(∀i o,L i→ops[i]? =some o→o.dst≠some x)→sp.get x=(S 0).get x
 mp:∀p o d,L p→ops[p]? =some o→eg o=some d→∃tg es es0,kN tg d ops=some es0∧(S ops.length).blk (S p).n= .map tg es0∧sp.blk (S p).n= .map tg es∧Cont ops L d tg es
 un:∀p o d,¬L p→ops[p]? =some o→eg o=some d→¬U (S p).n
theorem q8 {T:Tr TI}{s s':St}{t:TypeId}{b:Nat}{key:AV}{ok:Bool}(h:s'.blk b=s.blk b):iq T s' t (.mapr b) key ok=iq T s t (.mapr b) key ok:=by
 unfold iq
 cases gK T t with
 |none=>rfl
 |some tg=>
  cases key with
  |int j n=>cases j<;>first|rfl|(dsimp only;rw[h])
  |_=>rfl
theorem wU {T:Tr TI}{s s':St}{t:TypeId}{b:Nat}{key:AV}{tg:Tag}{es es':List (Int×El tg)}(h:s.blk b= .map tg es)(h':s'.blk b= .map tg es')(he:∀k d,nm es' k d=nm es k d):
  iq T s' t (.mapr b) key false=iq T s t (.mapr b) key false:=by
 unfold iq
 cases gK T t with
 |none=>rfl
 |some tg=>
  cases key with
  |int j n=>cases j<;>first|rfl|(dsimp only;rw[h,h'];simp only[he])
  |_=>rfl
theorem pn (s:St)(d:Option Tmp)(v:AV)(b:Nat)(x:Blk)(i:Nat):(s.apply d ⟨v,[(b,.blk x)],[]⟩).blk i=if i=b then x else s.blk i:=by
 rw[gB,if_neg (by simp)]
 rw[iG]
 show fm ((b,x)::s.h) i=_
 simp only[fm,look_cons]
 by_cases h:b=i
 ·rw[if_pos h,if_pos h.symm]
 ·rw[if_neg h,if_neg fun e=>h e.symm];rfl
end Go.Den
namespace Go.Den
open Go.RowKit (Below)
section
variable {P:Program}{E:Tr Sem1}{T:Tr TI}{B:Bs}{nt:Nat}
theorem uX {s:St}{t:TypeId}{b:Nat}{key:AV}{ok:Bool}(h:s.blk b= .gone):iq T s t (.mapr b) key ok= .none:=by
 unfold iq
 cases gK T t with
 |none=>rfl
 |some tg=>
  cases key with
  |int j n=>cases j<;>first|rfl|(dsimp only;rw[h])
  |_=>rfl
theorem tL {o:Oper}{t:TypeId}{m:Tmp}{k:Int}{c:Value}(h:gr o=some (t,m,k,c)):o.op= .insert t (.tmp m) (.const (.int .i64 k)) (.const c)∧o.dst=none:=by
 unfold gr at h
 split at h
 ·rename_i h1 h2 _
  cases h
  exact⟨h1,h2⟩
 ·cases h
theorem uS {ops:List Oper}{o:Oper}{t:TypeId}{m:Tmp}{k:Int}{c:Value}(h:gr o=some (t,m,k,c)):m∈eI ops o:=hJ (by rw[(tL h).1];simp[Op.operands])
theorem lF {o:Oper}{d:Tmp}(h:eg o=some d):o.dst=some d∧∃t,o.op= .makeMap t none:=by
 unfold eg at h
 split at h
 ·rename_i t e;exact⟨h,t,e⟩
 ·cases h
theorem Cont.more {ops:List Oper}{L L':Nat→Prop}{m:Tmp}{tg:Tag}{es:List (Int×El tg)}(h:Cont ops L m tg es)(hs:∀j o t k c,ops[j]? =some o→gr o=some (t,m,k,c)→(L' j↔L j)):Cont ops L' m tg es:=fun k v=>
 (h k v).trans ⟨fun⟨j,o,t,c,h1,h2,h3,h4⟩=>⟨j,o,t,c,(hs j o t k c h2 h3).2 h1,h2,h3,h4⟩,fun⟨j,o,t,c,h1,h2,h3,h4⟩=>⟨j,o,t,c,(hs j o t k c h2 h3).1 h1,h2,h3,h4⟩⟩
theorem vm (hV:Env P T E B){ops:Array Oper}(hS:SlotsOK ops.toList)(hK:ne ops.toList=true)(hd:∀o∈ops.toList,∀i,o.dst=some i→i<nt){S:Nat→St}(hC:mF T ops.toList (bv ops.toList []) S)
  (hg0:∀b,(S 0).n≤b→(S 0).blk b= .gone) (hnp:(S 0).np≤(S 0).n) {Q:Exit→Act→World→Prop}
  (hQ:∀C' a' w',Good B nt ((S ops.toList.length).mask (upTo ((S ops.toList.length).n-(S 0).n) (S 0).n)) C' a' w'→Q .normal a' w'):
  ∀(fuel:Nat) (listed:Array Bool) (sp:St) (C:Cx) (a:Act) (w:World),MInv ops.toList S (fun i=>listed.getD i false=true) C.used sp→Good B nt (sp.atN (S ops.toList.length).n) C a w→
   listed.size=ops.size→listed.toList.countP (fun b=> !b)≤fuel→wpAny P .any ops Q fuel listed a w:=by
 have hN:∀ {i:Nat} {o:Oper},ops.toList[i]? =some o→i<ops.toList.length:=fun h=>(List.getElem?_eq_some_iff.1 h).1
 have hmem:∀(l:List Nat) (b:Nat),True:=fun _ _=>trivial
 have hup:∀(n i b:Nat),b∈upTo n i↔i≤b∧b<i+n:=by
  intro n
  induction n with
  |zero=>intro i b;simp[upTo]
  |succ n ih=>intro i b;simp only[upTo,List.mem_cons,ih];omega
 have root:∀p o d,ops.toList[p]? =some o→eg o=some d→(S 0).n≤(S p).n∧(S p).n<(S ops.toList.length).n∧∀j,p<j→j≤ops.toList.length→(S j).get d= .mapr (S p).n∧(S p).n<(S j).n:=by
  intro p o d hp hd
  obtain⟨t,tg,es,h1,h2,h3,h4,h5,h6,h7⟩:=hC.mk hp hd
  have key:∀j,p<j→j≤ops.toList.length→(S j).get d= .mapr (S p).n∧(S p).n<(S j).n:=fun j hj hjl=>by
   refine⟨?_,by have:=hC.n (i:=p+1) (j:=j) hj hjl;omega⟩
   rw[hC.slot (i:=p+1) (j:=j) hj hjl fun q oq hq1 hq2 hoq hdq=>?_,h5]
   have:=hS.dst p q o oq d hp hoq h2 hdq
   omega
  exact⟨hC.n (Nat.zero_le _) (Nat.le_of_lt (hN hp)),(key _ (hN hp) (Nat.le_refl _)).2,key⟩
 have inj:∀p q o o' d d',ops.toList[p]? =some o→ops.toList[q]? =some o'→eg o=some d→eg o'=some d'→(S p).n=(S q).n→p=q:=by
  intro p q o o' d d' hp hq hd hd' e
  have h1:=(root p o d hp hd).2.2
  have h2:=(root q o' d' hq hd').2.2
  by_cases h:p<q
  ·have:=(h1 q h (Nat.le_of_lt (hN hq))).2;omega
  ·by_cases h':q<p
   ·have:=(h2 p h' (Nat.le_of_lt (hN hp))).2;omega
   ·omega
 have fin:∀(listed:Array Bool) (sp:St) (C:Cx) (a:Act) (w:World),MInv ops.toList S (fun i=>listed.getD i false=true) C.used sp→Good B nt (sp.atN (S ops.toList.length).n) C a w→
   (∀i,i<ops.size→listed.getD i false=true)→Q .normal a w:=by
  intro listed sp C a w hM hG hall
  have hall':∀ {i:Nat} {o:Oper},ops.toList[i]? =some o→listed.getD i false=true:=fun h=>hall _ (by have:=hN h;simpa using this)
  have hnpN:=hC.np (Nat.zero_le _) (Nat.le_refl ops.toList.length)
  have hnN:=hC.n (Nat.zero_le _) (Nat.le_refl ops.toList.length)
  have hBnp:B.np≤(S 0).n:=by have:=hG.inv.npn;have h2:(sp.atN (S ops.toList.length).n).np=(S 0).np:=hM.np;omega
  refine hQ _ a w (hG.masked (fun b=>?_) (fun x=>?_) rfl ?_ ?_)
  ·rw[pN]
   by_cases hb:b∈upTo ((S ops.toList.length).n-(S 0).n) (S 0).n
   ·rw[if_pos hb]
    exact .inr ⟨rfl,Nat.le_trans hBnp ((hup _ _ _).1 hb).1⟩
   ·rw[if_neg hb]
    left
    show _=sp.blk b
    by_cases hlo:b<(S 0).n
    ·rw[hM.old b hlo,hC.lo (Nat.zero_le _) (Nat.le_refl _) hlo]
    ·have hhi:(S ops.toList.length).n≤b:=by
      apply Nat.le_of_not_lt
      intro h
      exact hb ((hup _ _ _).2 ⟨by omega,by omega⟩)
     rw[hC.hi (Nat.zero_le _) (Nat.le_refl _) hhi,hg0 b (by omega)]
     exact(hG.high b hhi).2.symm
  ·show(S ops.toList.length).get x=sp.get x
   by_cases hw:∃(i:Nat) (o:Oper),ops.toList[i]? =some o∧o.dst=some x
   ·obtain⟨i,o,ho,hx⟩:=hw
    exact(hM.w1 x i o (hall' ho) ho hx).symm
   ·rw[hM.w0 x fun i o _ ho hx=>hw ⟨i,o,ho,hx⟩]
    exact hC.slot (Nat.zero_le _) (Nat.le_refl _) fun p o _ _ ho hx=>hw ⟨p,o,ho,hx⟩
  ·show(S ops.toList.length).np=sp.np
   rw[hM.np,hnpN.1]
  ·show(S ops.toList.length).al=sp.al
   rw[hM.al,hnpN.2]
 intro fuel
 induction fuel with
 |zero=>
  intro listed sp C a w hM hG hsz hc
  have hall:∀i,i<ops.size→listed.getD i false=true:=by
   intro i hi
   have h0:listed.toList.countP (fun b=> !b)=0:=by omega
   rw[List.countP_eq_zero]at h0
   have hlt:i<listed.size:=by omega
   have:=h0 listed[i] (by simp)
   simp only[Array.getD,hlt,dif_pos]
   simpa using this
  refine⟨?_,fin listed sp C a w hM hG hall⟩
  cases hr:Region.ready .any ops listed with
  |nil=>rfl
  |cons i r=>
   have hmem:i∈Region.ready .any ops listed:=by rw[hr];exact List.mem_cons_self ..
   obtain⟨h0,o,ho,_⟩:=jV hmem
   have hlt:i<ops.size:=(Array.getElem?_eq_some_iff.1 ho).1
   have:=hall i hlt
   have hlt':i<listed.size:=by omega
   simp only[Array.getD,hlt',dif_pos]at this h0
   rw[this]at h0;cases h0
 |succ fuel ih=>
  intro listed sp C a w hM hG hsz hc
  refine⟨fun hr=>fin listed sp C a w hM hG (ru hS hsz hr),fun i hi=>?_⟩
  obtain⟨h0,o,ho,he⟩:=jV hi
  have ho':ops.toList[i]? =some o:=by simpa using ho
  have hlti:i<ops.size:=(Array.getElem?_eq_some_iff.1 ho).1
  have hltl:i<listed.size:=by omega
  have hiN:=hN ho'
  have hLi:¬listed.getD i false=true:=by
   simp only[Array.getD,hltl,dif_pos]at h0⊢
   rw[h0];simp
  have hdo:∀d,o.dst=some d→d<nt:=hd o (List.mem_of_getElem? ho')
  have hget:∀j,(listed.setIfInBounds i true).getD j false=true↔j=i∨listed.getD j false=true:=fun j=>by
   by_cases hj:j=i
   ·subst hj
    simp[Array.getD,hltl]
   ·rw[getD_set_ne false (Ne.symm hj)]
    simp[hj]
  have hsz':(listed.setIfInBounds i true).size=ops.size:=by rw[Array.size_setIfInBounds];exact hsz
  have hc':(listed.setIfInBounds i true).toList.countP (fun b=> !b)≤fuel:=by
   have h1:(listed.setIfInBounds i true).toList=listed.toList.set i true:=by simp
   have hb:listed.toList[i]'(by simpa using hltl)=false:=by
    simp only[Array.getD,hltl,dif_pos]at h0
    simpa using h0
   rw[h1,List.countP_set (by simpa using hltl)]
   simp only[hb,Bool.not_false,if_true,Bool.not_true,Bool.false_eq_true,if_false,Nat.add_zero]
   have:0<listed.toList.countP (fun b=> !b):=List.countP_pos_iff.2 ⟨false,by rw[←hb];exact List.getElem_mem _,rfl⟩
   omega
  have hlsE:jZ ops.toList (fun j=>(listed.setIfInBounds i true).getD j false=true):=fun j hj p hp e hep=>by
   rcases(hget j).1 hj with rfl|hj
   ·rw[ho']at hp;cases hp
    exact(hget e).2 (.inr (he e hep))
   ·exact(hget e).2 (.inr (hM.lsE j hj p hp e hep))
  have hbef:∀p,Bef ops.toList p i→listed.getD p false=true:=fun p hb=>by
   cases hb with
   |edge h1 h2=>rw[ho']at h1;cases h1;exact he p h2
   |step h1 h2 h3=>rw[ho']at h1;cases h1;exact h3.closed hM.lsE (he _ h2)
  have hlook:∀x∈eI ops.toList o,sp.get x=(S i).get x:=by
   intro x hx
   by_cases hw:∃(p:Nat) (op:Oper),ops.toList[p]? =some op∧op.dst=some x
   ·obtain⟨p,op,hp,hpd⟩:=hw
    have uniq:∀(q:Nat) (oq:Oper),ops.toList[q]? =some oq→oq.dst=some x→q=p:=fun q oq hq hqd=>hS.dst q p oq op x hq hp hqd hpd
    rcases hS.ord p i op o x hp ho' hpd hx with hb|hb
    ·rw[hM.w1 x p op (hbef p hb) hp hpd]
     refine hC.slot (Nat.le_of_lt hiN) (Nat.le_refl _) fun q oq hq1 _ hoq hdq=>?_
     have:=uniq q oq hoq hdq
     have:=hb.lt hS
     omega
    ·rw[hM.w0 x fun q oq hq hoq hdq=>?_]
     ·refine(hC.slot (Nat.zero_le _) (Nat.le_of_lt hiN) fun q oq _ hq2 hoq hdq=>?_).symm
      have:=uniq q oq hoq hdq
      have:=hb.lt hS
      omega
     ·have:=uniq q oq hoq hdq
      subst this
      exact hLi (hb.closed hM.lsE hq)
   ·rw[hM.w0 x fun p op _ hp hpd=>hw ⟨p,op,hp,hpd⟩]
    exact(hC.slot (Nat.zero_le _) (Nat.le_of_lt hiN) fun p op _ _ hp hpd=>hw ⟨p,op,hp,hpd⟩).symm
  have hev:∀x∈o.op.operands,sp.ev x=(S i).ev x:=sf fun t ht=>hlook t (hJ ht)
  obtain⟨hgd,hst⟩:=hC i o ho'
  unfold wpOp
  simp only[ho]
  rw[if_pos (by simp[Region.wanted,hgd])]
  left
  have step:∀(n:Nat) (v:AV) (u:List (Nat×WU)) (nw:List Blk),opN T (sp.atN n) o= .ret [] ⟨v,u,nw⟩→(∀j,j<lenN nw→¬C.used (n+j))→(lenN nw=0∨n+lenN nw≤(S ops.toList.length).n)→
    (∀C':Cx,(∀b,C'.used b↔C.used b∨(n≤b∧b<n+lenN nw))→MInv ops.toList S (fun j=>(listed.setIfInBounds i true).getD j false=true) C'.used ((sp.atN n).apply o.dst ⟨v,u,nw⟩))→
    o.wp P a w (wpAny P .any ops Q fuel (listed.setIfInBounds i true)) Q:=by
   intro n v u nw hr hfree hle hM'
   have hG1:Inv B (sp.atN n) C:=hG.inv.same rfl rfl rfl
   have hA1:AInv nt (sp.atN n) C a:=⟨hG.ain.dfr,hG.ain.siz,hG.ain.tm⟩
   have h1:=(pT hV.tok hV.eq hG1 hA1 hdo hr (by simp) hfree).wp
   unfold OpWp at h1
   rw[hG.w]at h1
   refine h1 _ Q fun x w' C' p=>?_
   refine ih _ ((sp.atN n).apply o.dst ⟨v,u,nw⟩) C' _ w' (hM' C' p.use) ?_ hsz' hc'
   refine⟨p.w,p.inv.same rfl rfl rfl,⟨p.ain.dfr,p.ain.siz,p.ain.tm⟩,hG.old.ext hG.inv p.ext,fun b hb=>?_⟩
   show b<(S ops.toList.length).n
   rcases(p.use b).1 hb with hu|hu
   ·exact hG.fr b hu
   ·rcases hle with h|h
    ·have h2:n≤b∧b<n+lenN nw:=hu;omega
    ·have h2:n≤b∧b<n+lenN nw:=hu;omega
  have plain:∀v:AV,gr o=none→eg o=none→opN T (sp.atN (S ops.toList.length).n) o=val v→(∀d,o.dst=some d→(S ops.toList.length).get d=v)→o.wp P a w (wpAny P .any ops Q fuel (listed.setIfInBounds i true)) Q:=by
   intro v hni hnm hr hv
   refine step _ v [] [] hr (fun j hj=>by simp[lenN]at hj) (.inl rfl) fun C' hu=>?_
   have hblk:∀b,((sp.atN (S ops.toList.length).n).apply o.dst ⟨v,[],[]⟩).blk b=sp.blk b:=fun b=>by rw[kH];rfl
   have hget':∀x,((sp.atN (S ops.toList.length).n).apply o.dst ⟨v,[],[]⟩).get x=if o.dst=some x then v else sp.get x:=fun x=>by rw[dN];rfl
   refine⟨hlsE,by rw[eA];exact hM.np,by rw[ez];exact hM.al,fun b hb=>by rw[hblk];exact hM.old b hb,fun x j oj hj hoj hx=>?_,fun x hx=>?_,fun p op d hp hop hm=>?_,fun p op d hp hop hm=>?_⟩
   ·rw[hget']
    rcases(hget j).1 hj with rfl|hj
    ·rw[ho']at hoj;cases hoj
     rw[if_pos hx,hv x hx]
    ·split
     ·rename_i hx';exact(hv x hx').symm
     ·exact hM.w1 x j oj hj hoj hx
   ·rw[hget',if_neg (hx i o ((hget i).2 (.inl rfl)) ho')]
    exact hM.w0 x fun j oj hj hoj=>hx j oj ((hget j).2 (.inr hj)) hoj
   ·rcases(hget p).1 hp with rfl|hp
    ·rw[ho']at hop;cases hop
     rw[hnm]at hm;cases hm
    ·obtain⟨tg,es,es0,h1,h2,h3,h4⟩:=hM.mp p op d hp hop hm
     refine⟨tg,es,es0,h1,h2,by rw[hblk];exact h3,h4.more fun j oj t k c hoj hij=>?_⟩
     rw[hget]
     refine⟨fun h=>h.resolve_left fun e=>?_,.inr⟩
     subst e
     rw[ho']at hoj;cases hoj
     rw[hni]at hij;cases hij
   ·intro hu'
    rcases(hu _).1 hu' with h|h
    ·exact hM.un p op d (fun hl=>hp ((hget p).2 (.inr hl))) hop hm h
    ·simp only[lenN]at h;omega
  have nomake:∀ {x:Op},o.op=x→(∀t r,x≠ .makeMap t r)→eg o=none:=fun {x} e hx=>by
   unfold eg
   rw[e]
   cases x<;>first|rfl|exact absurd rfl (hx _ _)
  have later:∀d,o.dst=some d→(S ops.toList.length).get d=(S (i+1)).get d:=fun d hd=>hC.slot (by omega) (Nat.le_refl _) fun q oq hq1 _ hoq hdq=>by
   have:=hS.dst i q o oq d ho' hoq hd hdq
   omega
  cases hst with
  | @mv x hn hop e=>
   refine plain ((S i).ev x) hn ?_ ?_ fun d hd=>?_
   ·rcases hop with h|h
    ·exact nomake h (by intro t r;simp)
    ·exact nomake h (by intro t r;simp)
   ·have:sp.ev x=(S i).ev x:=hev x (by rcases hop with h|h<;>rw[h]<;>simp[Op.operands])
    have h2:(sp.atN (S ops.toList.length).n).ev x=sp.ev x:=by cases x<;>rfl
    rcases hop with h|h<;>(unfold opN;rw[h];dsimp only;rw[h2,this])
   ·rw[later d hd,e,fb,if_pos hd]
  | @look t m key b v hn hop hm hin hl e=>
   have hmk:eg o=none:=nomake hop (by intro t r;simp)
   have em:sp.ev m= .mapr b:=(hev m (by rw[hop];simp[Op.operands])).trans hm
   have ek:sp.ev key=(S i).ev key:=hev key (by rw[hop];simp[Op.operands])
   have h2:∀x,(sp.atN (S ops.toList.length).n).ev x=sp.ev x:=fun x=>by cases x<;>rfl
   have hlk:iq T sp t (.mapr b) ((S i).ev key) false=iq T (S i) t (.mapr b) ((S i).ev key) false:=by
    by_cases hlo:b<(S 0).n
    ·exact q8 ((hM.old b hlo).trans (hC.lo (Nat.zero_le _) (Nat.le_of_lt hiN) hlo).symm)
    ·by_cases hbi:b<(S i).n
     ·obtain⟨p,op,d,_,hpi,hop',hmd,rfl⟩:=hC.made (Nat.zero_le _) (Nat.le_of_lt hiN) (Nat.le_of_not_lt hlo) hbi
      have hused:C.used (S p).n:=by
       have h3:TR C (sp.ev m) (a.eval m):=by
        have:=cC (s:=sp.atN (S ops.toList.length).n) ⟨hG.ain.dfr,hG.ain.siz,hG.ain.tm⟩ m
        rwa [h2]at this
       rw[em]at h3
       obtain⟨c,hc,_⟩:=(h3:VP C (.mapr (S p).n) _)
       apply Classical.byContradiction
       intro hu
       rw[(hG.inv.us _ hu).2]at hc;cases hc
      have hLp:listed.getD p false=true:=by
       apply Classical.byContradiction
       intro hp
       exact hM.un p op d hp hop' hmd hused
      obtain⟨tg,es,es0,h1,h4,h5,h6⟩:=hM.mp p op d hLp hop' hmd
      have hbl:(S i).blk (S p).n= .map tg es0:=by rw[←hC.lo (Nat.le_of_lt hiN) (Nat.le_refl _) hbi];exact h4
      refine wU hbl h5 fun k dd=>?_
      rw[pO,pO]
      congr 1
      apply Option.ext
      intro x
      rw[h6 k x,(gF h1 hK).2 k x]
      constructor
      ·rintro⟨j,oj,t',c,_,hoj,h7,h8⟩
       exact⟨oj,List.mem_of_getElem? hoj,t',c,h7,h8⟩
      ·rintro⟨oj,hoj,t',c,h7,h8⟩
       obtain⟨j,hj⟩:=List.mem_iff_getElem?.1 hoj
       refine⟨j,oj,t',c,hbef j ?_,hj,h7,h8⟩
       have:=oI hin j oj t' d k c hj h7 (((root p op d hop' hmd).2.2 i hpi (Nat.le_of_lt hiN)).1)
       rw[Nat.zero_add]at this
       exact iu this
     ·have:(S i).blk b= .gone:=by rw[hC.hi (Nat.zero_le _) (Nat.le_of_lt hiN) (Nat.le_of_not_lt hbi)];exact hg0 b (Nat.le_of_not_lt hlo)
      exfalso
      rw[uX this]at hl
      cases hl
   refine plain v hn hmk ?_ fun d hd=>?_
   ·unfold opN
    rw[hop]
    dsimp only
    rw[h2,h2,em,ek]
    have h3:iq T (sp.atN (S ops.toList.length).n) t (.mapr b) ((S i).ev key) false=iq T sp t (.mapr b) ((S i).ev key) false:=q8 rfl
    rw[h3,hlk,hl]
   ·rw[later d hd,e,fb,if_pos hd]
  | @mk t d tg es hn hop hdst ht hf e=>
   have hmk:eg o=some d:=by simp[eg,hop,hdst]
   obtain⟨r1,r2,r3⟩:=root i o d ho' hmk
   have hblk:∀b,((sp.atN (S i).n).apply o.dst ⟨.mapr (S i).n,[],[.map tg []]⟩).blk b=if b=(S i).n then .map tg []else sp.blk b:=fun b=>by rw[eY];rfl
   have hget':∀x,((sp.atN (S i).n).apply o.dst ⟨.mapr (S i).n,[],[.map tg []]⟩).get x=if o.dst=some x then .mapr (S i).n else sp.get x:=fun x=>by rw[dN];rfl
   have hv:∀x,o.dst=some x→(S ops.toList.length).get x= .mapr (S i).n:=fun x hx=>by
    rw[hdst]at hx;cases hx
    exact(r3 _ hiN (Nat.le_refl _)).1
   refine step (S i).n (.mapr (S i).n) [] [.map tg []] ?_ (fun j hj=>?_) (.inr (by simp only[lenN];omega)) fun C' hu=>?_
   ·unfold opN
    rw[hop]
    dsimp only
    unfold kQ
    rw[ht]
    rfl
   ·obtain rfl:j=0:=by simp only[lenN]at hj;omega
    exact hM.un i o d hLi ho' hmk
   ·refine⟨hlsE,by rw[eA];exact hM.np,by rw[ez];exact hM.al,fun b hb=>by rw[hblk,if_neg (by omega)];exact hM.old b hb,fun x j oj hj hoj hx=>?_,fun x hx=>?_,fun p op d' hp hop' hm=>?_,fun p op d' hp hop' hm=>?_⟩
    ·rw[hget']
     rcases(hget j).1 hj with rfl|hj
     ·rw[ho']at hoj;cases hoj
      rw[if_pos hx,hv x hx]
     ·split
      ·rename_i hx';exact(hv x hx').symm
      ·exact hM.w1 x j oj hj hoj hx
    ·rw[hget',if_neg (hx i o ((hget i).2 (.inl rfl)) ho')]
     exact hM.w0 x fun j oj hj hoj=>hx j oj ((hget j).2 (.inr hj)) hoj
    ·rcases(hget p).1 hp with rfl|hp
     ·rw[ho']at hop';cases hop'
      rw[hmk]at hm;cases hm
      obtain⟨t2,tg2,es2,g1,g2,g3,g4,g5,g6,g7⟩:=hC.mk ho' hmk
      rw[hop]at g1;cases g1
      rw[ht]at g3;cases g3
      refine⟨tg,[],es2,g4,?_,by rw[hblk,if_pos rfl],fun k v=>?_⟩
      ·rw[hC.lo (i:=p+1) (by omega) (Nat.le_refl _) (by omega)];exact g7
      ·simp only[lkL,reduceCtorEq,false_iff]
       rintro⟨j,oj,t',c,hj,hoj,h7,_⟩
       rcases(hget j).1 hj with rfl|hj2
       ·rw[ho']at hoj;cases hoj
        rw[hn]at h7;cases h7
       ·
        cases (hC j oj hoj).2 with
        |ins ho2 _ _ _ hr2 _=>
         rw[h7]at ho2;cases ho2
         obtain⟨q,oq,hq,hoq,hmq⟩:=ky hr2
         have:=hS.dst q p oq o d hoq ho' (lF hmq).1 hdst
         subst this
         exact hLi ((iu (dg.2 hq)).closed hM.lsE hj2)
        |mk hn2=>rw[h7]at hn2;cases hn2
        |mv hn2=>rw[h7]at hn2;cases hn2
        |look hn2=>rw[h7]at hn2;cases hn2
     ·obtain⟨tg',es',es0,h1,h2,h3,h4⟩:=hM.mp p op d' hp hop' hm
      have hne:(S p).n≠(S i).n:=fun e=>hLi (by rw[←inj p i op o d' d hop' ho' hm hmk e];exact hp)
      refine⟨tg',es',es0,h1,h2,by rw[hblk,if_neg hne];exact h3,h4.more fun j oj t k c hoj hij=>?_⟩
      rw[hget]
      refine⟨fun h=>h.resolve_left fun e=>?_,.inr⟩
      subst e
      rw[ho']at hoj;cases hoj
      rw[hn]at hij;cases hij
    ·intro hu'
     rcases(hu _).1 hu' with h|h
     ·exact hM.un p op d' (fun hl=>hp ((hget p).2 (.inr hl))) hop' hm h
     ·have e:(S p).n=(S i).n:=by simp only[lenN]at h;omega
      exact hp ((hget p).2 (.inl (inj p i op o d' d hop' ho' hm hmk e)))
  | @ins t m k c tg b es hio ht hm hb hr e=>
   obtain⟨hop,hdst⟩:=tL hio
   obtain⟨q,oq,hq,hoq,hmq⟩:=ky hr
   have hbq:Bef ops.toList q i:=iu (dg.2 hq)
   have hLq:=hbef q hbq
   obtain⟨r1,r2,r3⟩:=root q oq m hoq hmq
   have hqi:=hbq.lt hS
   obtain⟨r4,r5⟩:=r3 i hqi (Nat.le_of_lt hiN)
   rw[hm]at r4
   obtain rfl:b=(S q).n:=by cases r4;rfl
   obtain⟨tg',es',es0,h1,h2,h3,h4⟩:=hM.mp q oq m hLq hoq hmq
   have hbl:(S ops.toList.length).blk (S q).n= .map tg es:=by rw[hC.lo (Nat.le_of_lt hiN) (Nat.le_refl _) r5];exact hb
   rw[hbl]at h2
   obtain⟨rfl,_⟩:tg'=tg∧True:=by cases h2;exact⟨rfl,trivial⟩
   obtain⟨y,hy⟩:=(gF h1 hK).1 o (List.mem_of_getElem? ho') t k c hio
   have hmk:eg o=none:=nomake hop (by intro t r;simp)
   have hspm:sp.get m= .mapr (S q).n:=(hlook m (uS hio)).trans hm
   have hnb:Nat.blt (S q).n sp.np=false:=by
    rw[hM.np,←Bool.not_eq_true,Nat.blt_eq];omega
   have hblk:∀b,((sp.atN (S ops.toList.length).n).apply o.dst ⟨.dead,[((S q).n,.blk (.map tg' (iP es' k y)))],[]⟩).blk b=if b=(S q).n then .map tg' (iP es' k y)else sp.blk b:=fun b=>by rw[pn];rfl
   have hget':∀x,((sp.atN (S ops.toList.length).n).apply o.dst ⟨.dead,[((S q).n,.blk (.map tg' (iP es' k y)))],[]⟩).get x=sp.get x:=fun x=>by rw[dN,hdst];simp;rfl
   refine step (S ops.toList.length).n .dead [((S q).n,.blk (.map tg' (iP es' k y)))] [] ?_ (fun j hj=>by simp[lenN]at hj) (.inl rfl) fun C' hu=>?_
   ·unfold opN
    rw[hop]
    dsimp only
    show jD T (sp.atN (S ops.toList.length).n) t (sp.get m) (.int .i64 k) (ofValue c)=_
    rw[hspm]
    unfold jD
    rw[ht]
    dsimp only
    show(match sp.blk (S q).n,allowed (sp.atN (S ops.toList.length).n) (S q).n 0 big with
     | .map tg'' es,true=>match dec tg'' [ofValue c],vB tg' tg'' with
      |some y,true=>OpRes.ret [] ⟨.dead,[((S q).n,.blk (.map tg'' (iP es k y)))],[]⟩
      |_,_=> .none
     |_,_=> .none)=_
    have hal:allowed (sp.atN (S ops.toList.length).n) (S q).n 0 big=true:=by
     unfold allowed
     rw[show(sp.atN (S ops.toList.length).n).np=sp.np from rfl,hnb]
    rw[h3,hal]
    dsimp only
    rw[hy,jC.2 rfl]
   ·refine⟨hlsE,by rw[eA];exact hM.np,by rw[ez];exact hM.al,fun b hb=>by rw[hblk,if_neg (by omega)];exact hM.old b hb,fun x j oj hj hoj hx=>?_,fun x hx=>?_,fun p op d' hp hop' hm'=>?_,fun p op d' hp hop' hm'=>?_⟩
    ·rw[hget']
     rcases(hget j).1 hj with rfl|hj
     ·rw[ho']at hoj;cases hoj
      rw[hdst]at hx;cases hx
     ·exact hM.w1 x j oj hj hoj hx
    ·rw[hget']
     exact hM.w0 x fun j oj hj hoj=>hx j oj ((hget j).2 (.inr hj)) hoj
    ·rcases(hget p).1 hp with rfl|hp
     ·rw[ho']at hop';cases hop'
      rw[hmk]at hm';cases hm'
     ·by_cases hpq:p=q
      ·subst hpq
       rw[hoq]at hop';cases hop'
       rw[hmq]at hm';cases hm'
       refine⟨tg',iP es' k y,es0,h1,by rw[hbl];exact h2,by rw[hblk,if_pos rfl],fun k' v=>?_⟩
       rw[tV]
       by_cases hk:k=k'
       ·subst hk
        rw[if_pos rfl]
        constructor
        ·intro e
         exact⟨i,o,t,c,(hget i).2 (.inl rfl),ho',hio,hy.trans e⟩
        ·rintro⟨j,oj,t',c',hj,hoj,h7,h8⟩
         have:=nf hK i j o oj t t' m k c c' ho' hoj hio h7
         subst this
         rw[ho']at hoj;cases hoj
         rw[hio]at h7;cases h7
         exact hy.symm.trans h8
       ·rw[if_neg hk,h4 k' v]
        constructor
        ·rintro⟨j,oj,t',c',hj,hoj,h7,h8⟩
         exact⟨j,oj,t',c',(hget j).2 (.inr hj),hoj,h7,h8⟩
        ·rintro⟨j,oj,t',c',hj,hoj,h7,h8⟩
         refine⟨j,oj,t',c',((hget j).1 hj).resolve_left fun e=>?_,hoj,h7,h8⟩
         subst e
         rw[ho']at hoj;cases hoj
         rw[hio]at h7;cases h7
         exact hk rfl
      ·obtain⟨tg2,es2,es3,g1,g2,g3,g4⟩:=hM.mp p op d' hp hop' hm'
       have hne:(S p).n≠(S q).n:=fun e=>hpq (inj p q op oq d' m hop' hoq hm' hmq e)
       refine⟨tg2,es2,es3,g1,g2,by rw[hblk,if_neg hne];exact g3,g4.more fun j oj t' k' c' hoj hij=>?_⟩
       rw[hget]
       refine⟨fun h=>h.resolve_left fun e=>?_,.inr⟩
       subst e
       rw[ho']at hoj;cases hoj
       rw[hio]at hij;cases hij
       exact hpq (hS.dst p q op oq m hop' hoq (lF hm').1 (lF hmq).1)
    ·intro hu'
     rcases(hu _).1 hu' with h|h
     ·exact hM.un p op d' (fun hl=>hp ((hget p).2 (.inr hl))) hop' hm' h
     ·simp only[lenN]at h;omega
theorem regD (hV:Env P T E B):RegD P T E B nt:=by
 intro id ops α s k ans C a w Q h hd hG hK
 unfold pZ at h
 dsimp only at h
 split at h
 ·rename_i hs
  have hS:=SlotsOK.of hs
  refine wp_region_any hV.mix ?_
  have hG':Good B nt s {C with w:={w with drawn:=w.drawn+1}} a {w with drawn:=w.drawn+1}:=by
   obtain⟨h1,h2⟩:=hG.grown (w':=w.drew) (Below.drew (Below.refl _ _))
   exact⟨rfl,h1,hG.ain.moved h2 fun _=>rfl,hG.old.ext hG.inv h2,hG.fr⟩
  have hnum:∀(l:List Oper) (n:Nat),(z4 n l).map (·.1)=List.range' n l.length∧∀x∈z4 n l,n≤x.1∧l[x.1-n]? =some x.2:=by
   intro l
   induction l with
   |nil=>intro n;exact⟨rfl,by simp[z4]⟩
   |cons o r ih=>
    intro n
    obtain⟨h1,h2⟩:=ih (n+1)
    refine⟨by simp only[z4,List.map_cons,h1,List.length_cons,List.range'_succ],fun x hx=>?_⟩
    rcases List.mem_cons.1 hx with rfl|hx
    ·simp
    ·obtain⟨h3,h4⟩:=h2 x hx
     refine⟨by omega,?_⟩
     rw[show x.1-n=x.1-(n+1)+1 by omega]
     simpa using h4
  have hnum2:∀(l:List Oper) (n i:Nat) (o:Oper),l[i]? =some o→(n+i,o)∈z4 n l:=by
   intro l
   induction l with
   |nil=>intro n i o h;simp at h
   |cons q r ih=>
    intro n i o h
    cases i with
    |zero=>simp only[List.getElem?_cons_zero,Option.some.injEq]at h;subst h;exact List.mem_cons_self ..
    |succ i=>have:=ih (n+1) i o (by simpa using h);rw[show n+1+i=n+(i+1)by omega]at this;exact List.mem_cons_of_mem _ this
  have hno:∀i:Nat,¬(Array.replicate ops.size false).getD i false=true:=fun i h=>by
   by_cases hi:i<ops.size<;>simp[Array.getD,hi]at h
  split at h
  ·rename_i s' hs'
   unfold runM at hs'
   split at hs'
   ·cases hs'
   ·split at hs'
    ·cases hs'
    ·rename_i hkk
     split at hs'
     ·rename_i sF hF
      obtain rfl:=Option.some.inj hs'
      obtain⟨S,e0,eN,hst⟩:=l4 _ 0 _ _ hF
      simp only[Nat.zero_add]at eN hst
      subst e0 eN
      have hC:mF T ops.toList (bv ops.toList []) S:=fun i o ho=>sR (hst i o ho)
      have hG1:Good B nt ((S 0).atN (S 0).n) {C with w:={w with drawn:=w.drawn+1}} a {w with drawn:=w.drawn+1}:=hG'
      refine vm hV hS hkk hd hC (fun b hb=>(hG1.high b hb).2) ?_ (fun C' a' w' g=>hK _ C' a' w' g h) ops.size (Array.replicate ops.size false) (S 0) _ a _ ?_ (hG1.atN (hC.n (Nat.zero_le _) (Nat.le_refl _))) (by simp) (by
       refine Nat.le_trans List.countP_le_length ?_
       simp)
      ·apply Nat.le_of_not_lt
       intro hlt
       have:=hG.fr _ (hG.inv.pus (S 0).n (by have:=hG.inv.npn;omega))
       omega
      ·refine⟨fun j hj=>absurd hj (hno j),rfl,rfl,fun _ _=>rfl,fun x i o hi=>absurd hi (hno i),fun _ _=>rfl,fun p o d hp=>absurd hp (hno p),fun p o d _ ho hm hu=>?_⟩
       obtain⟨_,_,_,_,_,_,_,_,_,_⟩:=hC.mk ho hm
       have h2:=hC.n (Nat.zero_le p) (Nat.le_of_lt (List.getElem?_eq_some_iff.1 ho).1)
       exact(hG1.high _ h2).1 hu
     ·cases hs'
  have hD:DInv ops.toList T s (fun i=>(Array.replicate ops.size false).getD i false=true) C.used [] [] [] (z4 0 ops.toList) s s:=by
   refine⟨by rw[(hnum _ 0).1];exact List.nodup_range',fun x hx=>⟨by have:=((hnum _ 0).2 x hx).2;simpa using this,by simp⟩,fun i o ho=> .inr (by have:=hnum2 _ 0 i o ho;simpa using this),fun j hj=>by simp at hj,fun j hj=>absurd hj (hno j),fun j hj=>absurd hj (hno j),fun _ _=>rfl,fun x i o hi=>absurd hi (hno i),fun _ _=>rfl,⟨rfl,rfl,fun b ⟨m,hm,_⟩=>by simp at hm,fun _ _=>rfl⟩,fun b ⟨m,hm,_⟩=>by simp at hm,fun b m hm=>by simp at hm,fun b m m' hm=>by simp at hm,fun b b' m hm=>by simp at hm,fun i hi=>by simp at hi⟩
  have hG1:Good B nt (s.atN s.n) {C with w:={w with drawn:=w.drawn+1}} a {w with drawn:=w.drawn+1}:=hG'
  obtain⟨f',dn',qs',ms',l',s',hD2,hnn,hn2,h2⟩:=jU hS _ _ _ _ _ _ h hD fun b hb=>hG1.high b hb
  exact vk hV hS hd hK ops.size (Array.replicate ops.size false) f' dn' qs' ms' l' s' s {C with w:={w with drawn:=w.drawn+1}} a _ h2 hn2 hD2 (hG1.atN hnn) (by simp) (by
   refine Nat.le_trans List.countP_le_length ?_
   simp)
 ·cases h
end
end Go.Den
namespace Go.Den
open Go.RowKit (Below)
theorem ra (σ:Nat→Option Nat)(blk:Nat→Blk):∀(t:List (Nat×AV)) (i:Nat),look (renT σ blk t) i=(look t i).map (ren σ blk)
 |[],_=>rfl
 |(k,v)::r,i=>by
  rw[renT,look_cons,look_cons,ra σ blk r i]
  split<;>rfl
theorem q9 (σ:Nat→Option Nat)(blk:Nat→Blk):∀(t:List (Nat×Blk)) (i:Nat),look (renH σ blk t) i=(look t i).map (ii σ blk)
 |[],_=>rfl
 |(k,v)::r,i=>by
  rw[renH,look_cons,look_cons,q9 σ blk r i]
  split<;>rfl
theorem l9 {i:Nat}:∀ {wr:List (Nat×Nat×Nat)},f9 i wr=true→∃lo hi,(i,lo,hi)∈wr∧lo=0∧big≤hi
 |[],h=>by cases h
 |(j,lo,hi)::r,h=>by
  simp only[f9,Bool.or_eq_true,Bool.and_eq_true]at h
  rcases h with ⟨h1,h2,h3⟩|h
  ·rw[ee.1 h1]
   exact⟨lo,hi,List.mem_cons_self ..,ee.1 h2,Nat.le_of_ble_eq_true h3⟩
  ·obtain⟨lo',hi',h1,h2⟩:=l9 h
   exact⟨lo',hi',List.mem_cons_of_mem _ h1,h2⟩
def mvCx (C:Cx)(i n:Nat)(nb:Nat→Blk):Cx where
 w:=C.w
 loc:=fun j=>if j=n then C.loc i else C.loc j
 blk:=nb
 ok:=C.ok
 used:=fun j=>C.used j∨j=n
section
variable {B:Bs}{nt:Nat}{s:St}{C:Cx}{a:Act}{w:World}
theorem zn (hG:Good B nt s C a w)(i:Nat):∃C',Good B nt (s.mv1 i) C' a w∧(s.mv1 i).np=s.np∧(s.mv1 i).al=s.al:=by
 unfold St.mv1
 cases hc:z8 (s.blk i)&&(f9 i s.al&&Nat.blt i s.np)with
 |false=>exact⟨C,hG,rfl,rfl⟩
 |true=>
 dsimp only
 simp only[Bool.and_eq_true]at hc
 obtain⟨hrow,hwh,hlt⟩:=hc
 have hI:=hG.inv
 have hi:i<B.np:=by rw[←hI.npn];rwa [Nat.blt_eq]at hlt
 have hin:i<s.n:=hG.fr i (hI.pus i hi)
 have hne:i≠s.n:=by omega
 have hnu:∀j,C.used j→j≠s.n:=fun j h=>by have:=hG.fr j h;omega
 have may:∀o,eH B i o:=fun o=>by
  obtain⟨lo,hi',h1,h2,h3⟩:=l9 hwh
  rw[hI.all]at h1
  exact⟨lo,hi',h1,.inl ⟨h2,h3⟩⟩
 obtain⟨t0,xs0,f0,hr0⟩:∃t xs f,s.blk i= .row t xs f:=by
  cases hb:s.blk i with
  |row t xs f=>exact⟨t,xs,f,rfl⟩
  |_=>rw[hb]at hrow;cases hrow
 generalize hs':({s with t:=renT (mvN i s.n) s.blk s.t,h:=(i,.gone)::(s.n,s.blk i)::renH (mvN i s.n) s.blk s.h,n:=s.n+1}:St)=s'
 have hblk:∀j,s'.blk j=if j=i then .gone else if j=s.n then s.blk i else ii (mvN i s.n) s.blk (s.blk j):=fun j=>by
  subst hs'
  unfold St.blk
  dsimp only
  rw[look_cons,look_cons,q9]
  by_cases e:i=j
  ·rw[if_pos e,if_pos e.symm]
  ·have e':¬j=i:=fun h=>e h.symm
   rw[if_neg e,if_neg (c:=j=i) e']
   by_cases e2:s.n=j
   ·rw[if_pos e2,if_pos (c:=j=s.n) e2.symm]
   ·have e2':¬j=s.n:=fun h=>e2 h.symm
    rw[if_neg e2,if_neg (c:=j=s.n) e2']
    cases look s.h j<;>rfl
 have hgi:s'.blk i= .gone:=by rw[hblk,if_pos rfl]
 have hgn:s'.blk s.n=s.blk i:=by rw[hblk,if_neg (fun h=>hne h.symm),if_pos rfl]
 have hgo:∀j,j≠i→j≠s.n→s'.blk j=ii (mvN i s.n) s.blk (s.blk j):=fun j h1 h2=>by rw[hblk,if_neg h1,if_neg h2]
 have hget:∀k,s'.get k=ren (mvN i s.n) s.blk (s.get k):=fun k=>by
  subst hs'
  unfold St.get
  dsimp only
  rw[ra]
  cases look s.t k<;>rfl
 have hmvi:mvN i s.n i=some s.n:=by unfold mvN;rw[ee.2 rfl]
 have hmvo:∀j,j≠i→mvN i s.n j=some j:=fun j h=>by unfold mvN;rw[uy.2 h]
 have hmv:∀j k,mvN i s.n j=some k→(j=i∧k=s.n)∨(j≠i∧k=j):=fun j k h=>by
  by_cases e:j=i
  ·rw[e,hmvi]at h;exact .inl ⟨e,(Option.some.inj h).symm⟩
  ·rw[hmvo j e]at h;exact .inr ⟨e,(Option.some.inj h).symm⟩
 have hloc:∀j,j≠s.n→(mvCx C i s.n s'.blk).loc j=C.loc j:=fun j h=>if_neg h
 have hlocn:(mvCx C i s.n s'.blk).loc s.n=C.loc i:=if_pos rfl
 have hM:Mv (mvN i s.n) s.blk C (mvCx C i s.n s'.blk):=
  {w:=rfl
   ok:=fun _ h=>h
   loc:=fun b k h hu=>by
    rcases hmv b k h with ⟨rfl,rfl⟩|⟨_,rfl⟩
    ·exact hlocn
    ·exact hloc _ (hnu _ hu)
   used:=fun b k h hu=>by
    rcases hmv b k h with ⟨rfl,rfl⟩|⟨_,rfl⟩
    ·exact .inr rfl
    ·exact .inl hu
   row:=fun b k h hu t ys g hg=>by
    replace hg:s'.blk k= .row t ys g:=hg
    rcases hmv b k h with ⟨rfl,rfl⟩|⟨e,rfl⟩
    ·rw[hgn]at hg;exact⟨ys,g,by rw[hI.eqb];exact hg,rfl⟩
    ·rw[hgo _ e (hnu _ hu)]at hg;exact⟨ys,g,by rw[hI.eqb];exact mC hg,rfl⟩
   rowA:=fun b k h hu ds hg=>by
    replace hg:s'.blk k= .rowA ds:=hg
    rcases hmv b k h with ⟨rfl,rfl⟩|⟨e,rfl⟩
    ·rw[hgn,hr0]at hg;cases hg
    ·rw[hgo _ e (hnu _ hu)]at hg;rw[hI.eqb];exact k5 hg
   snap:=fun b h=>by
    exfalso
    by_cases e:b=i
    ·rw[e,hmvi]at h;cases h
    ·rw[hmvo b e]at h;cases h
   us:=fun b c h=>fC hI h
   br:=fun b=>by rw[hI.eqb];exact hI.bl b}
 have back:∀j,s'.blk j≠ .gone→(j=s.n∧s.blk i≠ .gone)∨(j≠s.n∧j≠i∧s.blk j≠ .gone):=fun j h=>by
  by_cases e:j=i
  ·rw[e,hgi]at h;exact absurd rfl h
  ·by_cases e2:j=s.n
   ·rw[e2,hgn]at h;exact .inl ⟨e2,h⟩
   ·rw[hgo j e e2]at h;exact .inr ⟨e2,e,fun g=>h (gL.2 g)⟩
 have hri:s.blk i≠ .gone:=by rw[hr0];simp
 have hWK:∀k,k<B.np→WK (s.blk k) (s'.blk k):=fun k hk=>by
  have hkn:k≠s.n:=hnu k (hI.pus k hk)
  by_cases e:k=i
  ·rw[e,hgi,hr0];exact⟨fun cs h=>(by cases h),fun ds h=>(by cases h)⟩
  ·rw[hgo k e hkn]
   refine⟨fun cs h=>⟨_,by rw[h];rfl,cN cs⟩,fun ds h=>?_⟩
   obtain⟨cs,h1,_⟩:=gy h
   exact⟨cs,h1⟩
 have hInv:Inv B s' (mvCx C i s.n s'.blk):=
  {eqb:=fun _=>rfl
   bl:=fun j=>by
    by_cases e:j=i
    ·rw[e,hgi];trivial
    ·by_cases e2:j=s.n
     ·rw[e2,hgn]
      have:=BR.mv hM (i:=s.n) hlocn (hI.bl i)
      rwa [hr0]at this⊢
     ·rw[hgo j e e2];exact BR.mv hM (hloc j e2) (hI.bl j)
   inj:=fun j k c hj hk h1 h2=>by
    rcases back j hj with ⟨rfl,g1⟩|⟨e1,e2,g1⟩
    ·rcases back k hk with ⟨rfl,g2⟩|⟨f1,f2,g2⟩
     ·rfl
     ·rw[hlocn]at h1;rw[hloc k f1]at h2
      exact absurd (hI.inj i k c g1 g2 h1 h2).symm f2
    ·rcases back k hk with ⟨rfl,g2⟩|⟨f1,f2,g2⟩
     ·rw[hlocn]at h2;rw[hloc j e1]at h1
      exact absurd (hI.inj j i c g1 g2 h1 h2) e2
     ·rw[hloc j e1]at h1;rw[hloc k f1]at h2
      exact hI.inj j k c g1 g2 h1 h2
   lt:=fun j c h=>by
    by_cases e:j=s.n
    ·rw[e,hlocn]at h;exact hI.lt i c h
    ·rw[hloc j e]at h;exact hI.lt j c h
   us:=fun j hu=>by
    have h1:¬C.used j:=fun h=>hu (.inl h)
    have h2:j≠s.n:=fun h=>hu (.inr h)
    have h3:j≠i:=fun h=>h1 (h▸hI.pus i hi)
    obtain⟨g1,g2⟩:=hI.us j h1
    exact⟨by rw[hgo j h3 h2];exact gL.2 g1,by rw[hloc j h2];exact g2⟩
   okd:=fun c hc=>by
    obtain⟨h1,h2⟩:=hI.okd c hc
    refine⟨h1,fun j hj h=>?_⟩
    by_cases e:j=i
    ·rw[e,hgi]at hj;cases hj
    ·by_cases e2:j=s.n
     ·rw[e2,hgn]at hj;rw[e2,hlocn]at h;exact h2 i hj h
     ·rw[hgo j e e2,fG]at hj;rw[hloc j e2]at h;exact h2 j hj h
   okS:=fun c hc=>by
    rcases hI.okS c hc with h|h|⟨k,h1,h2,h3,h4⟩
    ·exact .inl h
    ·exact .inr (.inl h)
    ·refine .inr (.inr ⟨k,h1,h2,?_,h4⟩)
     by_cases e:k=i
     ·rw[e,hgi];rfl
     ·rw[hgo k e (hnu k (hI.pus k h1)),fG];exact h3
   own:=fun j c hj h=>by
    rcases back j hj with ⟨rfl,g1⟩|⟨e1,e2,g1⟩
    ·rw[hlocn]at h
     rcases hI.own i c g1 h with ⟨k,k1,k2,k3⟩|h
     ·refine .inl ⟨k,k1,k2,.inr ?_⟩
      rcases k3 with rfl|k3
      ·exact may
      ·exact k3
     ·exact .inr h
    ·rw[hloc j e1]at h;exact hI.own j c g1 h
   lt0:=hI.lt0
   inj0:=hI.inj0
   pas:=fun k hk=>by rw[hloc k (hnu k (hI.pus k hk))];exact hI.pas k hk
   pus:=fun k hk=> .inl (hI.pus k hk)
   frm:=hI.frm
   prt:=hI.prt
   prt2:=hI.prt2
   stay:=fun k hk hm=>by
    have hki:k≠i:=fun e=>hm 0 (e▸may 0)
    obtain⟨a1,a2⟩:=hI.stay k hk hm
    rw[hgo k hki (hnu k (hI.pus k hk))]
    exact⟨fun h e=>a1 h (gL.1 e),fun h=>by rw[fG];exact a2 h⟩
   shp:=hI.shp
   wid:=fun k hk=>(hI.wid k hk).trans (hWK k hk)
   npn:=by subst hs';exact hI.npn
   all:=by subst hs';exact hI.all}
 refine⟨mvCx C i s.n s'.blk,⟨hG.w,hInv,⟨hG.ain.dfr,hG.ain.siz,fun k=>by rw[hget];exact TR.mv hM (hG.ain.tm k)⟩,⟨fun k hk=>?_,hG.old.cell,hG.old.ok⟩,fun k hk=>?_⟩,?_,?_⟩
 ·have h1:=hG.old.keep k hk
  rw[hI.eqb]at h1
  show BK (B.hs0 k) (s'.blk k) True
  by_cases e:k=i
  ·subst e
   rw[hgi]
   rw[hr0]at h1
   cases hb:B.hs0 k with
   |gone=>rfl
   |var cs=>rw[hb]at h1;obtain⟨_,h⟩:=(show∃ds,Blk.row t0 xs0 f0= .var ds from h1);cases h
   |row t xs f=>exact .inl rfl
   |rowA cs=>exact .inl rfl
   |map t es=>rw[hb]at h1;obtain⟨_,h⟩:=(show∃ds,Blk.row t0 xs0 f0= .map t ds from h1);cases h
  ·rw[hgo k e (hnu k (hI.pus k hk))];exact vI h1
 ·rcases hk with h|rfl
  ·have:=hG.fr k h;subst hs';show k<s.n+1;omega
  ·subst hs';exact Nat.lt_succ_self _
 ·subst hs';rfl
 ·subst hs';rfl
theorem tZ:∀(l:List Nat) {s:St} {C:Cx},Good B nt s C a w→∃C',Good B nt (s.mvs l) C' a w∧(s.mvs l).np=s.np∧(s.mvs l).al=s.al
 |[],_,C,h=>⟨C,h,rfl,rfl⟩
 |x::r,_,_,h=>by
  obtain⟨C1,h1,h2,h3⟩:=zn h x
  obtain⟨C2,k1,k2,k3⟩:=tZ r h1
  exact⟨C2,k1,k2.trans h2,k3.trans h3⟩
end
end Go.Den
namespace Go.Den
open Go.RowKit (Below)
theorem VTL.un_tup:∀(l:List VT) (as:List AV) (x:VTL.Ty l),VTL.pack l as=some x→∀b∈VTL.un l x,∀vs,b≠ .tup vs
 |[],_,_,_=>by simp[VTL.un]
 |t::l,[],x,h=>by cases t<;>simp[VTL.pack]at h
 | .konst c::l,a::as,x,h=>by
  simp only[VTL.pack]at h
  split at h
  ·rename_i hs
   intro b hb vs
   rcases List.mem_cons.1 hb with rfl|hb
   ·rintro rfl;simp[same]at hs
   ·exact VTL.un_tup l as x h b hb vs
  ·cases h
 | .bool::l,a::as,x,h=>by
  simp only[VTL.pack]at h;split at h
  ·rename_i q hq;cases h
   intro b hb vs;rcases List.mem_cons.1 hb with rfl|hb
   ·simp[VT.un]
   ·exact VTL.un_tup l as _ hq b hb vs
  ·cases h
 | .int k::l,a::as,x,h=>by
  simp only[VTL.pack]at h;split at h
  ·rename_i q hq;cases h
   intro b hb vs;rcases List.mem_cons.1 hb with rfl|hb
   ·simp[VT.un]
   ·exact VTL.un_tup l as _ hq b hb vs
  ·cases h
 | .str::l,a::as,x,h=>by
  simp only[VTL.pack]at h;split at h
  ·rename_i q hq;cases h
   intro b hb vs;rcases List.mem_cons.1 hb with rfl|hb
   ·simp[VT.un]
   ·exact VTL.un_tup l as _ hq b hb vs
  ·cases h
 | .list t::l,a::as,x,h=>by
  simp only[VTL.pack]at h;split at h
  ·rename_i q hq;cases h
   intro b hb vs;rcases List.mem_cons.1 hb with rfl|hb
   ·simp[VT.un]
   ·exact VTL.un_tup l as _ hq b hb vs
  ·cases h
 | .el t::l,a::as,x,h=>by
  simp only[VTL.pack]at h;split at h
  ·rename_i q hq;cases h
   intro b hb vs;rcases List.mem_cons.1 hb with rfl|hb
   ·simp[VT.un]
   ·exact VTL.un_tup l as _ hq b hb vs
  ·cases h
 | .arr t n::l,a::as,x,h=>by
  simp only[VTL.pack]at h;split at h
  ·rename_i q hq;cases h
   intro b hb vs;rcases List.mem_cons.1 hb with rfl|hb
   ·simp[VT.un]
   ·exact VTL.un_tup l as _ hq b hb vs
  ·cases h
 | .agg m::l,a::as,x,h=>by
  simp only[VTL.pack]at h;split at h
  ·rename_i q hq;cases h
   intro b hb vs;rcases List.mem_cons.1 hb with rfl|hb
   ·simp[VT.un]
   ·exact VTL.un_tup l as _ hq b hb vs
  ·cases h
theorem PE.tr1 {a b:AV}(h:PE a b)(hb:∀vs,b≠ .tup vs){C:Cx}{v:Value}(hv:TR1 C a v):TR1 C b v:=by
 have ha:∀vs,a≠ .tup vs:=by rintro vs rfl;exact(hv:False)
 have h1:TR C a v:=by cases a<;>first|exact hv|exact absurd rfl (ha _)
 have h2:=h.ws C v h1
 cases b<;>first|exact h2|exact absurd rfl (hb _)
theorem qz:∀ {as bs:List AV},dR PE as bs→(∀b∈bs,∀vs,b≠ .tup vs)→∀ {C:Cx} {vs:List Value},dR (TR1 C) as vs→dR (TR1 C) bs vs
 |[],[],_,_,_,_,h=>h
 |[],_::_,h,_,_,_,_=>h.elim
 |_::_,[],h,_,_,_,_=>h.elim
 |_::_,_::_,_,_,_,[],hv=>hv.elim
 |_::_,_::_,h,hb,_,_::_,hv=>⟨h.1.tr1 (hb _ (List.mem_cons_self ..)) hv.1,qz h.2 (fun c hc=>hb c (List.mem_cons_of_mem _ hc)) hv.2⟩
theorem RT.pack_ok (r:RT)(a:AV)(x:r.Ty)(h:r.pack a=some x):WS a (r.un x):=by
 cases r with
 |one t=>exact(VT.pack_ok t a x h).ws
 |tup l=>
  cases a<;>simp only[RT.pack]at h<;>first|(cases h;done)|skip
  intro C v hv
  obtain⟨vs,rfl,hvs⟩:=hv
  exact⟨vs,rfl,qz (VTL.pack_ok l _ x h) (VTL.un_tup l _ x h) hvs⟩
section
variable {P:Program}{T:Tr TI}{E:Tr Sem1}{A:Anns}{F:Nat}
theorem wc {B:Bs}{nt:Nat}{s:St}{C:Cx}{a:Act}{w:World}(hG:Good B nt s C a w)(σ:Sig)(np:Nat)(hnp0:np=B.np){v:AV}{x:Value}(hv:TR C v x){z:σ.r.Ty×BTL.Ty σ.ks}(h:finK σ.ownR s v (σ.packR np)=some z):
  ∃C',C'.w=w∧Inv B (rJ (BTL.un σ.ks z.2) B.np B.wr) C'∧Old B C'∧(∀i,C'.used i→i<(BTL.un σ.ks z.2).length)∧TR C' (σ.r.un z.1) x:=by
 unfold finK at h
 obtain⟨hkn,hkp⟩:=km s σ.ownR [v]
 generalize gH s σ.ownR [v]=keep at hkn hkp h
 unfold Sig.packR at h
 split at h
 ·rename_i hok
  split at h
  ·rename_i p q hp hq
   obtain rfl:=Option.some.inj h
   obtain⟨b1,b2⟩:=BTL.pack_ok _ _ _ hq
   have hlen2:(BTL.un σ.ks q).length=keep.length:=by rw[←b1.length,jK]
   have hnp:=hG.inv.npn
   have hR:Renum B s (rJ (BTL.un σ.ks q) B.np B.wr) keep:=
    {nodup:=hkn
     np:=fun i hi=>hkp i (by omega)
     blk:=fun i b hb=>by
      have:(cP (iC keep · 0) s.blk s.blk keep)[i]? =some (ii (iC keep · 0) s.blk (s.blk b)):=by rw[gD,hb];rfl
      obtain⟨y,h1,h2⟩:=pk b1 this
      rw[eE,h1];exact h2
     out:=fun i hi=>by rw[eE,List.getElem?_eq_none (by omega)];rfl
     kept:=fun i hi hg=>by
      have hil:i<(BTL.un σ.ks q).length:=by
       have:=(List.getElem?_eq_some_iff.1 (hkp i (by omega))).1;omega
      rw[eE,List.getElem?_eq_getElem hil]at hg
      have:=BTL.un_gone np σ.ks _ q hq hok i (by omega) (by rw[List.getElem?_eq_getElem hil];exact congrArg some hg)
      rw[gD,hkp i (by omega)]at this
      exact gL.1 (Option.some.inj this)
     n:=by show lenN _=_;rw[lenN_eq,hlen2]
     nps:=hnp.symm
     als:=hG.inv.all.symm}
   exact⟨lQ C keep (rJ (BTL.un σ.ks q) B.np B.wr).blk,hG.w,nH hG.inv hR,nI hG.inv hG.old hR,fun i hi=>by rw[hlen2];exact hi,
    RT.pack_ok _ _ _ hp _ _ (TR.mv (mD hG.inv hR) hv)⟩
  ·cases h
 ·cases h
theorem zK {L:Lay}(hV0:Env0 P T E L){g:FuncId}{fn:Func}{c:Code}(hf:P.funcs[g]? =some fn)(hname:(fn.name== "runtime.NumGoroutine")=false)(hb:fn.body=some c)(hok:jf fn.ntmps c=true)
  (σ:Sig) (hts:Nat.ble (lenN σ.D.ts) fn.ntmps=true) (S:σ.D.Ty→Option (σ.r.Ty×BTL.Ty σ.ks)) (hS:∀x z,S x=some z→σ.den E T A F fn x=some z):lk P L g (σ.sem S):=by
 intro C args hs cargs hu hL hI hargs α k ans hr
 have hV:Env P T E (fQ C hs.length σ.wr):=hV0.at hL
 simp only[Sig.sem]at hr
 split at hr
 ·rename_i hl
  simp only[Bool.and_eq_true]at hl
  have hl1:=ee.1 hl.1
  have hl2:=ee.1 hl.2
  split at hr
  ·rename_i x hx
   cases hz:S x with
   |none=>rw[hz]at hr;cases hr
   |some z=>
    rw[hz]at hr
    have hr:k (σ.r.un z.1) (BTL.un σ.ks z.2)=some ans:=hr
    have hd:=hS x z hz
    refine f7 hf hname (by rw[hb];rfl) (calls_of_wp hf hb ?_)
    unfold Sig.den at hd
    rw[hb]at hd
    dsimp only at hd
    have hal:=hargs.length
    have hlen:args.length≤fn.ntmps:=by rw[←lenN_eq,hl2];exact Nat.le_of_ble_eq_true hts
    have hG:Good (fQ C hs.length σ.wr) fn.ntmps (argS σ.wr args hs) C {tmps:=cargs++Array.replicate (fn.ntmps-cargs.size) undef,defers:=[]} C.w:=
     {w:=rfl
      inv:=hI.same rfl (lenN_eq hs) rfl
      old:={keep:=fun i _=>BK.refl _ trivial,cell:=fun _ _ _ _ h=>h,ok:=fun _ h=>h}
      fr:=fun i hi=>by show i<lenN hs;rw[lenN_eq];exact(hu i).1 hi
      ain:={dfr:=rfl
            siz:=by simp at hal⊢;omega
            tm:=fun i=>by
             show TR C (match look (Ah 0 args) i with|some v=>v|none=> .dead) _
             rw[pR,if_pos (Nat.zero_le _),Nat.sub_zero]
             cases h:args[i]? with
             |none=>trivial
             |some v=>
              obtain⟨y,h1,h2⟩:=hargs.at h
              have hi:i<cargs.size:=by have:=(List.getElem?_eq_some_iff.1 h1).1;simpa using this
              have:(cargs++Array.replicate (fn.ntmps-cargs.size) undef).getD i undef=y:=by
               have h3:cargs[i]? =some y:=by simpa using h1
               rw[Array.getD_eq_getD_getElem?,Array.getElem?_append_left hi,h3];rfl
              rw[this];exact h2}}
    obtain⟨C1,hG1⟩:=im hG hx {t:=[],h:=[],n:=0,np:=lenN σ.D.hs,al:=σ.wr,w:=false} hl1.symm rfl
    obtain⟨C2,hG2,_,_⟩:=tZ σ.mv hG1
    refine qJ hV (regD hV) c 0 _ _ _ z C2 _ C.w _ hok hd hG2 fun e s' C' a' w' g' hk=>?_
    have fin:(match xZ T (mN σ.nlR s') fn.results.toList with
      |none=>none
      |some vs=>match oneV vs with
       |some v=>finK σ.ownR (mN σ.nlR s') v (σ.packR (lenN σ.D.hs))
       |none=>none)=some z→a'.defers=[]∧∃v,(results fn a'.tmps).run P w'= .ok v w'∧∃x,Ending.returned v= .returned x∧∃r hs' C',k r hs'=some ans∧C'.w=w'∧Inv (fQ C hs.length σ.wr) (rJ hs' hs.length σ.wr) C'∧Old (fQ C hs.length σ.wr) C'∧(∀i,C'.used i→i<hs'.length)∧TR C' r x:=by
     intro hk
     obtain⟨Cd,g',_,_⟩:=jL σ.nlR g'
     split at hk
     ·cases hk
     ·rename_i vs hvs
      split at hk
      ·rename_i v hv
       obtain⟨x,h1,h2⟩:=nL (fn:=fn) hV.tok g' hvs hv
       obtain⟨C'',e1,e2,e3,e4,e5⟩:=wc g' σ _ (by rw[←hl1,lenN_eq];rfl) h2 hk
       exact⟨g'.ain.dfr,x,h1,x,rfl,_,_,C'',hr,e1,e2,e3,e4,e5⟩
      ·cases hk
    cases e with
    |exit i=>cases hk
    |norm=>exact fin hk
    |ret=>exact fin hk
  ·cases hr
 ·cases hr
theorem xL {L:Lay}(hV:Env0 P T E L){g:FuncId}{fn:Func}(hf:P.funcs[g]? =some fn)(hname:(fn.name== "runtime.NumGoroutine")=false)(hok:(match fn.body with|some c=>jf fn.ntmps c|none=>false)=true)
  (σ:Sig) (hts:Nat.ble (lenN σ.D.ts) fn.ntmps=true) (S:σ.D.Ty→Option (σ.r.Ty×BTL.Ty σ.ks)) (hS:∀x,σ.den E T A F fn x=S x):lk P L g (σ.sem S):=by
 cases hb:fn.body with
 |none=>rw[hb]at hok;cases hok
 |some c=>
  rw[hb]at hok
  exact zK hV hf hname hb hok σ hts S fun x z h=>(hS x).trans h
end
end Go.Den
